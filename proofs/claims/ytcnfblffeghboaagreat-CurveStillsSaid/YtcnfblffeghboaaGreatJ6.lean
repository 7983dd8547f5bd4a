/-
  PLAIN LAW of chapter 12 (2): rows of rationals that are moved; what is told from a time on, and back. No condition; nothing of the program.
-/
import Derived.Test.YtcnfblffeghboaaGreatJ5
import Derived.Test.YtcnfblffeghboaaGreatJ4
set_option linter.unusedVariables false
set_option linter.unusedSimpArgs false
namespace Go.Proofs.YtcnfblffeghboaaGreat
open Go.RowKit

theorem rc_cX {n m : Nat} {p q : Nat → Rat} (zp : ∀ i, n ≤ i → p i = 0) (i : Nat) : rc (cX (crL n m p q) p) i = p i * mkR (crL n m p q : Int) 1 := by
  by_cases h : i < dg p n
  · refine cX_den ?_
    have := lcd_dvd (q := catF (dg p n) p q) (i := i) (n := dg p n + dg q m) (by omega)
    rwa [catF_l h] at this
  · have hp : p i = 0 := dg_z zp i (by omega)
    unfold rc cX; rw [hp, Rat.zero_mul]; rfl
theorem rc_cX2 {n m : Nat} {p q : Nat → Rat} (zq : ∀ i, m ≤ i → q i = 0) (i : Nat) : rc (cX (crL n m p q) q) i = q i * mkR (crL n m p q : Int) 1 := by
  by_cases h : i < dg q m
  · refine cX_den ?_
    have := lcd_dvd (q := catF (dg p n) p q) (i := dg p n + i) (n := dg p n + dg q m) (by omega)
    rwa [catF_r (by omega), Nat.add_sub_cancel_left] at this
  · have hp : q i = 0 := dg_z zq i (by omega)
    unfold rc cX; rw [hp, Rat.zero_mul]; rfl
/-- Rows with one value at all whole numbers are one. -/
theorem pe_none {c : Nat → Rat} {n : Nat} (hz : ∀ i, n ≤ i → c i = 0) (h : ∀ x : Int, pe c (x : Rat) n = 0) (i : Nat) : c i = 0 := by
  have hL := crL_pos (n := n) (m := 0) (p := c) (q := fun _ => 0)
  have hc : ∀ j, rc (cX (crL n 0 c fun _ => 0) c) j = fsclQ c (mkR (crL n 0 c fun _ => 0 : Int) 1) j := fun j => rc_cX hz j
  have h0 := pz_zero (c := cX (crL n 0 c fun _ => 0) c) (n := n) (cX_z hz) (fun x => by
    show pe (rc _) _ _ = 0
    rw [funext hc, pe_scl, h x, Rat.zero_mul]) i
  have h1 := rc_cX (m := 0) (q := fun _ => 0) hz i
  unfold rc at h1
  rw [h0, mkR_int] at h1
  rcases Rat.mul_eq_zero.1 h1.symm with h2 | h2
  · exact h2
  · have := Rat.intCast_eq_zero_iff.1 h2; omega
theorem pe_one {a b : Nat → Rat} {n m : Nat} (ha : ∀ i, n ≤ i → a i = 0) (hb : ∀ i, m ≤ i → b i = 0) (h : ∀ x : Int, pe a (x : Rat) n = pe b (x : Rat) m) (i : Nat) : a i = b i := by
  have hz : ∀ j, max n m ≤ j → faddQ a (fsclQ b (-1)) j = 0 := fun j hj => by
    show a j + b j * -1 = 0
    rw [ha j (by omega), hb j (by omega)]; grind
  have h0 := pe_none hz (fun x => by
    rw [pe_add, pe_scl, pe_eq (m := n) (fun j hj => ha j (by omega)) ha, pe_eq (a := b) (m := m) (fun j hj => hb j (by omega)) hb, h x]; grind) i
  have h1 : a i + b i * -1 = 0 := h0
  grind
theorem pe_shf {c : Nat → Rat} {n : Nat} (r q : Rat) : pe (shf c n r) q n = pe c (q + r) n := by
  unfold shf; rw [pe_hv n, pe_vl]
theorem shf_shf {c : Nat → Rat} {n m : Nat} {r s : Rat} (hm : ∀ i, m ≤ i → shf c n r i = 0) (i : Nat) : shf (shf c n r) m s i = shf c n (r + s) i := by
  refine pe_one shf_z shf_z (fun x => ?_) i
  rw [pe_shf, pe_eq hm shf_z, pe_shf, pe_shf]
  congr 1; grind
theorem shf_zero {c : Nat → Rat} {n : Nat} (hc : ∀ i, n ≤ i → c i = 0) (i : Nat) : shf c n 0 i = c i := by
  refine pe_one shf_z hc (fun x => ?_) i
  rw [pe_shf]; congr 1; grind
theorem shf_scl {c : Nat → Rat} {n : Nat} {r k : Rat} (i : Nat) : shf (fsclQ c k) n r i = shf c n r i * k := by
  refine pe_one (n := n) (m := n) (b := fsclQ (shf c n r) k) shf_z (fsclQ_z shf_z) (fun x => ?_) i
  rw [pe_shf, pe_scl, pe_scl, pe_shf]
theorem shf_len {c : Nat → Rat} {n m : Nat} {r : Rat} (hn : ∀ i, n ≤ i → c i = 0) (hm : ∀ i, m ≤ i → c i = 0) (i : Nat) : shf c n r i = shf c m r i := by
  refine pe_one shf_z shf_z (fun x => ?_) i
  rw [pe_shf, pe_shf, pe_eq hn hm]
theorem shf_dg {c : Nat → Rat} {n : Nat} {r : Rat} (h : n = 0 ∨ c (n - 1) ≠ 0) (hc : ∀ i, n ≤ i → c i = 0) : dg (shf c n r) n = n := by
  have hle := dg_le (shf c n r) n
  rcases h with rfl | h
  · exact Nat.le_zero.1 hle
  · rcases Nat.lt_or_ge (dg (shf c n r) n) n with h1 | h1
    · exfalso
      apply h
      have hz : ∀ i, dg (shf c n r) n ≤ i → shf c n r i = 0 := dg_z shf_z
      have h2 := shf_shf (s := -r) hz (n - 1)
      rw [shf_z _ (by omega), show r + -r = 0 by grind, shf_zero hc] at h2
      exact h2.symm
    · omega
/-- A normal curve's row moved, over both denominators. -/
theorem back_ov {n m n2 m2 : Nat} {P Q Q2 : Nat → Rat} {r : Rat} (zP : ∀ i, n ≤ i → P i = 0) (hn2 : ∀ i, n2 ≤ i → P i = 0) (i : Nat) :
    ov ((crL n2 m2 (shf (rc (cX (crL n m P Q) P)) n2 r) Q2 : Int) * (crL n m P Q : Int)) (cX (crL n2 m2 (shf (rc (cX (crL n m P Q) P)) n2 r) Q2) (shf (rc (cX (crL n m P Q) P)) n2 r)) i = shf P n2 r i := by
  have h0 := crL_pos (n := n) (m := m) (p := P) (q := Q)
  have h1 := crL_pos (n := n2) (m := m2) (p := shf (rc (cX (crL n m P Q) P)) n2 r) (q := Q2)
  show rc _ i * mkR 1 _ = _
  rw [rc_cX shf_z]
  have h2 : rc (cX (crL n m P Q) P) = fsclQ P (mkR (crL n m P Q : Int) 1) := funext fun j => rc_cX zP j
  generalize hA : shf (rc (cX (crL n m P Q) P)) n2 r = A at *
  have h3 : A i = shf P n2 r i * mkR (crL n m P Q : Int) 1 := by rw [← hA, h2, shf_scl]
  rw [h3]
  have h4 := mkR_div (x := 1) (y := (crL n2 m2 A Q2 : Int) * (crL n m P Q : Int)) (Int.mul_ne_zero (by omega) (by omega))
  rw [mkR_int, mkR_int]
  rw [Rat.intCast_mul] at h4
  have h5 : ((1 : Int) : Rat) = 1 := rfl
  rw [h5] at h4
  grind
theorem back_ov2 {n m n2 m2 : Nat} {P Q Q2 : Nat → Rat} {r : Rat} (zQ : ∀ i, m ≤ i → Q i = 0) (hm2 : ∀ i, m2 ≤ i → Q i = 0) (i : Nat) :
    ov ((crL n2 m2 Q2 (shf (rc (cX (crL n m P Q) Q)) m2 r) : Int) * (crL n m P Q : Int)) (cX (crL n2 m2 Q2 (shf (rc (cX (crL n m P Q) Q)) m2 r)) (shf (rc (cX (crL n m P Q) Q)) m2 r)) i = shf Q m2 r i := by
  have h0 := crL_pos (n := n) (m := m) (p := P) (q := Q)
  have h1 := crL_pos (n := n2) (m := m2) (p := Q2) (q := shf (rc (cX (crL n m P Q) Q)) m2 r)
  show rc _ i * mkR 1 _ = _
  rw [rc_cX2 shf_z]
  have h2 : rc (cX (crL n m P Q) Q) = fsclQ Q (mkR (crL n m P Q : Int) 1) := funext fun j => rc_cX2 zQ j
  generalize hA : shf (rc (cX (crL n m P Q) Q)) m2 r = A at *
  have h3 : A i = shf Q m2 r i * mkR (crL n m P Q : Int) 1 := by rw [← hA, h2, shf_scl]
  rw [h3]
  have h4 := mkR_div (x := 1) (y := (crL n2 m2 Q2 A : Int) * (crL n m P Q : Int)) (Int.mul_ne_zero (by omega) (by omega))
  rw [mkR_int, mkR_int]
  rw [Rat.intCast_mul] at h4
  have h5 : ((1 : Int) : Rat) = 1 := rfl
  rw [h5] at h4
  grind
theorem cX_nz {n m : Nat} {p q : Nat → Rat} (zp : ∀ i, n ≤ i → p i = 0) {i : Nat} (h : cX (crL n m p q) p i = 0) : p i = 0 := by
  have h1 := rc_cX (m := m) (q := q) zp i
  have h0 := crL_pos (n := n) (m := m) (p := p) (q := q)
  unfold rc at h1
  rw [h, mkR_int] at h1
  rcases Rat.mul_eq_zero.1 h1.symm with h2 | h2
  · exact h2
  · have := Rat.intCast_eq_zero_iff.1 h2; omega
theorem cX_nz2 {n m : Nat} {p q : Nat → Rat} (zq : ∀ i, m ≤ i → q i = 0) {i : Nat} (h : cX (crL n m p q) q i = 0) : q i = 0 := by
  have h1 := rc_cX2 (n := n) (p := p) zq i
  have h0 := crL_pos (n := n) (m := m) (p := p) (q := q)
  unfold rc at h1
  rw [h, mkR_int] at h1
  rcases Rat.mul_eq_zero.1 h1.symm with h2 | h2
  · exact h2
  · have := Rat.intCast_eq_zero_iff.1 h2; omega
theorem rc_dg (c : Nat → Int) (n : Nat) : dg c n = 0 ∨ rc c (dg c n - 1) ≠ 0 := by
  rcases dg_or (c := c) (n := n) with h | h
  · exact Or.inl h
  · exact Or.inr (fun e => h (Rat.intCast_eq_zero_iff.1 e))
/-- A place of a normal curve. -/
theorem at_val {n m k : Nat} {p q : Nat → Rat} {t : Rat} (zp : ∀ i, n ≤ i → p i = 0) (hk : ∀ i, k ≤ i → p i = 0) : vlQ (rc (cX (crL n m p q) p)) t k k / ((crL n m p q : Int) : Rat) = pe p t n := by
  have h0 := crL_pos (n := n) (m := m) (p := p) (q := q)
  rw [pe_vl, show rc (cX (crL n m p q) p) = fsclQ p (mkR (crL n m p q : Int) 1) from funext fun j => rc_cX zp j, pe_scl, pe_eq hk zp, mkR_int]
  have hL : ((crL n m p q : Int) : Rat) ≠ 0 := fun e => by have := Rat.intCast_eq_zero_iff.1 e; omega
  grind
theorem at_val2 {n m k : Nat} {p q : Nat → Rat} {t : Rat} (zq : ∀ i, m ≤ i → q i = 0) (hk : ∀ i, k ≤ i → q i = 0) : vlQ (rc (cX (crL n m p q) q)) t k k / ((crL n m p q : Int) : Rat) = pe q t m := by
  have h0 := crL_pos (n := n) (m := m) (p := p) (q := q)
  rw [pe_vl, show rc (cX (crL n m p q) q) = fsclQ q (mkR (crL n m p q : Int) 1) from funext fun j => rc_cX2 zq j, pe_scl, pe_eq hk zq, mkR_int]
  have hL : ((crL n m p q : Int) : Rat) ≠ 0 := fun e => by have := Rat.intCast_eq_zero_iff.1 e; omega
  grind
end Go.Proofs.YtcnfblffeghboaaGreat

/-
  VALUES of polynomials, by the machine (2): At; keep.Rat.
-/
set_option linter.unusedVariables false
set_option linter.unusedSimpArgs false
namespace Go.Proofs.YtcnfblffeghboaaGreat
open Go.RowKit

set_option maxRecDepth 100000 in
set_option maxHeartbeats 4000000 in
theorem aPVal {a : Lf} {b : List Lf} {K L M N n D T : Nat} {c : Nat → Int} {nn dd : Int} (ha : IsP a K n c) (hb : IsT b L nn dd) (hn : n ≤ D) (hDD : D ≤ 200 := by decide) (hT : K + (max L 2 + 1) + (max L 2 + 1) + 5 ≤ T := by decide) (hM : (D + 1) * T ≤ M := by decide) (hP : 2 + D * (max L 2 + 1) ≤ M := by decide) (hN : M + 1 ≤ N := by decide) (hNN : N ≤ 100000000 := by decide) (hL : L ≤ 1000000 := by decide) (hK : K ≤ 1000000 := by decide) : ACall Tryz.prog 44 [.one a, .agg b] (.d (.agg (tn N (vlQ (rc c) (mkR nn dd) (dg c n) (dg c n))))) := by
  obtain ⟨⟨fa, ha, ea⟩, za⟩ := ha
  obtain ⟨s0, xs0, t0, ys0, hb, e0, k0⟩ := hb
  refine ACall.le (dl (DV.l ha) (dl (DV.g hb) dl0)) AV.le.rfl ?_
  have hla := dg_le c n
  refine acallN hTT 31 [.cell 4 30] Tryz.func44 rfl rfl rfl rfl rfl ?_
  refine cSeq ?_
  refine cReg ?_
  refine mN hTT (.box 30 ([.v (.bool s0), lr L xs0] ++ [.v (.bool t0), lr L ys0])) rfl rfl rfl ?_
  refine mN hTT (.box 30 ([.v (.bool false), .v (.slice none 0 0), .v (.bool false), .v (.slice none 0 0)])) rfl rfl rfl ?_
  refine mNil ?_
  refine tN ?_
  refine cSeq ?_
  refine cDrawK hTT 5 (by kernel_rfl) (by kernel_rfl) (by kernel_rfl) ?_
  refine .cons (OpS.V _ rfl) ?_
  refine .cons (OpS.C0 (aPNorm (⟨⟨fa, fun _ _ _ h => h, ea⟩, za⟩ : IsP (arow K n fa) K n c) (by omega) (by omega)) rfl rfl rfl) ?_
  refine .cons (OpS.V (.d (.agg ([.v (.bool s0), lr L xs0] ++ [.v (.bool t0), lr L ys0]))) rfl) ?_
  refine .cons (OpS.C0 (aPlain (⟨s0, xs0, t0, ys0, fun _ _ _ h => h, e0, k0⟩ : IsT ([.v (.bool s0), lr L xs0] ++ [.v (.bool t0), lr L ys0]) L nn dd) (M := (max L 2 + 1)) (by omega) (by omega)) rfl rfl rfl) ?_
  refine .cons (OpS.V _ rfl) ?_
  refine .nil ?_
  refine mS hTT 3 (.box 30 (tn (max L 2 + 1) (mkR nn dd))) rfl ?_
  refine mNil ?_
  refine tN ?_
  refine cSeq ?_
  have hMb : T ≤ M := Nat.le_trans (Nat.le_mul_of_pos_left T (by omega)) hM
  have hkt : ((dg c n : Int) - 1).toNat = dg c n - 1 := by omega
  have hkp : ((dg c n : Int) - 1).toNat * (max L 2 + 1) ≤ D * (max L 2 + 1) := Nat.mul_le_mul_right _ (by omega)
  refine cDrawS hTT 19 (by kernel_rfl) (by kernel_rfl) ?_
  refine .cons (OpS.V _ rfl) (by kernel_rfl) ?_
  refine .cons (OpS.V (.ptr 3 0) rfl) (by kernel_rfl) ?_
  refine .cons (OpS.V (.d (.agg (zn (max L 2 + 1) (Rat.num (mkR nn dd))))) rfl) (by kernel_rfl) ?_
  refine .cons (OpS.V (.ptr 3 2) rfl) (by kernel_rfl) ?_
  refine .cons (OpS.V (.d (.agg (zn (max L 2 + 1) (Rat.den (mkR nn dd) : Int)))) rfl) (by kernel_rfl) ?_
  refine .cons (OpS.C0 (aPValue (isp (K := K) (c := c) (dg_z za)) (isz (max L 2 + 1) (Rat.num (mkR nn dd))) (isz (max L 2 + 1) (Rat.den (mkR nn dd) : Int)) (D := D) (T := T) (M := M) (by omega) (by omega) hT hM (by omega)) rfl rfl rfl) (by kernel_rfl) ?_
  refine .cons (OpS.V (.ptr 3 2) rfl) (by kernel_rfl) ?_
  refine .cons (OpS.V (.d (.agg (zn (max L 2 + 1) (Rat.den (mkR nn dd) : Int)))) rfl) (by kernel_rfl) ?_
  refine .cons (OpS.V _ rfl) (by kernel_rfl) ?_
  refine .cons (OpS.V (.d (.one (.v (.int .i64 ((dg c n : Nat) : Int))))) rfl) (by kernel_rfl) ?_
  refine .cons (OpS.V (.d (.one (.v (.int .i64 ((dg c n : Int) - 1))))) (evi (wr64 (by omega) (by omega)))) (by kernel_rfl) ?_
  refine .cons (OpS.C0 (aPow (isz (max L 2 + 1) (Rat.den (mkR nn dd) : Int)) (k := ((dg c n : Int) - 1)) (M := M) (by omega) (by omega) (by omega) (by omega)) rfl rfl rfl) (by kernel_rfl) ?_
  refine .cons (OpS.C0 (aTMake (isz M (vlZ c (Rat.num (mkR nn dd)) (Rat.den (mkR nn dd) : Int) (dg c n) (dg c n))) (isz M ((Rat.den (mkR nn dd) : Int) ^ (((dg c n : Int) - 1)).toNat)) (pow_ne_int (den_ne (mkR nn dd)) _) (M := (max (max M M) 1 + 1)) (by omega) (by omega)) rfl rfl rfl) (by kernel_rfl) ?_
  refine .cons (OpS.V _ rfl) (by kernel_rfl) ?_
  refine .cons (OpS.V _ rfl) (by kernel_rfl) ?_
  refine .cons (OpS.V _ rfl) (by kernel_rfl) ?_
  refine .cons (OpS.N (.box 30 ([.v (.bool false), .v (.slice none 0 0), .v (.bool false), .v (.slice none 0 0)])) rfl 5 rfl rfl) (by kernel_rfl) ?_
  refine .cons (OpS.S 5 (.box 30 (tn (max (max M M) 1 + 1) (Rat.divInt (vlZ c (Rat.num (mkR nn dd)) (Rat.den (mkR nn dd) : Int) (dg c n) (dg c n)) ((Rat.den (mkR nn dd) : Int) ^ (((dg c n : Int) - 1)).toNat)))) rfl rfl) (by kernel_rfl) ?_
  refine .cons (OpS.V _ rfl) (by kernel_rfl) ?_
  refine .nil ?_
  refine mNil ?_
  refine tN ?_
  refine cSeq ?_
  refine cSeq ?_
  refine cReg ?_
  refine mV hTT _ rfl ?_
  refine mV hTT (.d (.one (.v (.bool false)))) rfl ?_
  refine mNil ?_
  refine tN ?_
  refine cF rfl ?_
  refine cSkip ?_
  refine tN ?_
  refine cSeq ?_
  refine cReg ?_
  refine mV hTT (.d (.agg (tn (max (max M M) 1 + 1) (Rat.divInt (vlZ c (Rat.num (mkR nn dd)) (Rat.den (mkR nn dd) : Int) (dg c n) (dg c n)) ((Rat.den (mkR nn dd) : Int) ^ (((dg c n : Int) - 1)).toNat))))) rfl ?_
  refine mS hTT 4 (.box 30 (tn (max (max M M) 1 + 1) (Rat.divInt (vlZ c (Rat.num (mkR nn dd)) (Rat.den (mkR nn dd) : Int) (dg c n) (dg c n)) ((Rat.den (mkR nn dd) : Int) ^ (((dg c n : Int) - 1)).toNat)))) rfl ?_
  refine mNil ?_
  refine tN ?_
  refine cRet ?_
  exact rQ rfl (le_tn (by omega) (by rw [hkt]; exact vl_end _))

end Go.Proofs.YtcnfblffeghboaaGreat

/-
  CURVES, by the machine (7): the law CurveStills.
-/
set_option linter.unusedVariables false
set_option linter.unusedSimpArgs false
namespace Go.Proofs.YtcnfblffeghboaaGreat
open Go.RowKit

def sml (n d : Int) : Rat := mkR (n % 61 - 30) (1 + d % 6)
set_option maxRecDepth 100000 in
set_option maxHeartbeats 4000000 in
theorem aSmall8 {n d : Int} (h1 : -9223372036854775808 ≤ n) (h2 : n ≤ 9223372036854775807) (h3 : -9223372036854775808 ≤ d) (h4 : d ≤ 9223372036854775807) : ACall Tryz.prog 13 [.one (.v (.int .i64 n)), .one (.v (.int .i64 d))] (.d (.agg (qn 64 (sml n d)))) := by
  refine acallN hTT 12 [.cell 4 44] Tryz.func13 rfl rfl rfl rfl rfl ?_
  refine cSeq ?_
  refine cReg ?_
  refine mN hTT (.box 44 ([.v (.slice none 0 0), .v (.bool false), .v (.slice none 0 0), .v (.bool false)])) rfl rfl rfl ?_
  refine mNil ?_
  refine tN ?_
  refine cSeq ?_
  refine cReg ?_
  refine mV hTT _ rfl ?_
  refine mC0 (aWithin (v := n) (n := 61) (by decide) (by decide) h1 h2) rfl rfl rfl ?_
  refine mV hTT (.d (.one (.v (.int .i64 (n % 61 - 30))))) (evi (wr64 (by omega) (by omega))) ?_
  refine mV hTT _ rfl ?_
  refine mC0 (aWithin (v := d) (n := 6) (by decide) (by decide) h3 h4) rfl rfl rfl ?_
  refine mV hTT (.d (.one (.v (.int .i64 (1 + d % 6))))) (evi (wr64 (by omega) (by omega))) ?_
  refine mC0 (aROfR (n := (n % 61 - 30)) (d := (1 + d % 6)) (by omega) (by omega) (by omega) (by omega)) rfl rfl rfl ?_
  refine mS hTT 4 (.box 44 (qn 64 (mkR (n % 61 - 30) (1 + d % 6)))) rfl ?_
  refine mNil ?_
  refine tN ?_
  refine cRet ?_
  exact rQ rfl (AV.le.rfl)

theorem isi_one {x : Int} {el : Nat → Nat → Lf} (h : el 0 0 = .v (.int .i64 x) := by rfl) : IsI (.row 1 1 el) 1 (fun i => if i = 0 then x else 0) := by
  refine ⟨row_le fun i hi j hj B w v hv => ?_, fun i hi => if_neg (by omega)⟩
  obtain rfl : i = 0 := by omega
  obtain rfl : j = 0 := by omega
  rw [h] at hv
  exact hv
set_option maxRecDepth 100000 in
set_option maxHeartbeats 4000000 in
theorem aCStill {x y : Int} (h1 : -9223372036854775808 ≤ x) (h2 : x ≤ 9223372036854775807) (h3 : -9223372036854775808 ≤ y) (h4 : y ≤ 9223372036854775807) : ACall Tryz.prog 12 [.one (.v (.int .i64 x)), .one (.v (.int .i64 y))] (.d (.agg (crv 3 1 1 (rc (fun i => if i = 0 then x else 0)) (rc (fun i => if i = 0 then y else 0))))) := by
  have hdx := dg_le (fun i => if i = 0 then x else 0) 1
  have hdy := dg_le (fun i => if i = 0 then y else 0) 1
  refine acallN hTT 12 [.cell 4 28] Tryz.func12 rfl rfl rfl rfl rfl ?_
  refine cSeq ?_
  refine cReg ?_
  refine mN hTT (.box 28 ([.v (.slice none 0 0), .v (.slice none 0 0), .v (.bool false), .v (.slice none 0 0)])) rfl rfl rfl ?_
  refine mNil ?_
  refine tN ?_
  refine cSeq ?_
  refine cReg ?_
  refine mV hTT _ rfl ?_
  refine mB hTT (.d (.one (.row 1 1 (fun i' j' => (([.v (.int .i64 x)])[i' * 1 + j']?).getD (.v undef))))) rfl ?_
  refine mC0 (aPOf (isi_one (x := x)) (fun i hi => by rw [if_pos (show i = 0 by omega)]; exact ⟨h1, h2⟩) (by omega)) rfl rfl rfl ?_
  refine mV hTT _ rfl ?_
  refine mB hTT (.d (.one (.row 1 1 (fun i' j' => (([.v (.int .i64 y)])[i' * 1 + j']?).getD (.v undef))))) rfl ?_
  refine mC0 (aPOf (isi_one (x := y)) (fun i hi => by rw [if_pos (show i = 0 by omega)]; exact ⟨h3, h4⟩) (by omega)) rfl rfl rfl ?_
  refine mC0 (aCOf (isp (K := 2) (c := (fun i => if i = 0 then x else 0)) (dg_z (fun i hi => if_neg (by omega)))) (isp (K := 2) (c := (fun i => if i = 0 then y else 0)) (dg_z (fun i hi => if_neg (by omega)))) (M := 3) (by omega) (by omega) (by decide) (by decide)) rfl rfl rfl ?_
  refine mS hTT 4 (.box 28 (crv 3 (dg (fun i => if i = 0 then x else 0) 1) (dg (fun i => if i = 0 then y else 0) 1) (rc (fun i => if i = 0 then x else 0)) (rc (fun i => if i = 0 then y else 0)))) rfl ?_
  refine mNil ?_
  refine tN ?_
  refine cRet ?_
  exact rQ rfl (le_crv (Nat.le_refl _) (rc_z (dg_z (fun i hi => if_neg (by omega)))) (rc_z (dg_z (fun i hi => if_neg (by omega)))) (rc_z (fun i hi => if_neg (by omega))) (rc_z (fun i hi => if_neg (by omega))) (fun _ => rfl) (fun _ => rfl))

set_option maxRecDepth 100000 in
set_option maxHeartbeats 4000000 in
theorem aCAt {n m : Nat} {p q : Nat → Rat} {t : Rat} (zp : ∀ i, n ≤ i → p i = 0) (zq : ∀ i, m ≤ i → q i = 0) (hn : n ≤ 6) (hm : m ≤ 6) : ACall Tryz.prog 14 [.agg (crv 70000 n m p q), .agg (tn 130 t)] (.tup [.agg (tn 900000 (pe p t n)), .agg (tn 900000 (pe q t m))]) := by
  have hdx := dg_le p n
  have hdy := dg_le q m
  refine acallN hTT 32 [.cell 4 30, .cell 5 30] Tryz.func14 rfl rfl rfl rfl rfl ?_
  refine cSeq ?_
  refine cReg ?_
  refine mN hTT (.box 28 (crv 70000 n m p q)) rfl rfl rfl ?_
  refine mN hTT (.box 30 (tn 130 t)) rfl rfl rfl ?_
  refine mN hTT (.box 30 ([.v (.bool false), .v (.slice none 0 0), .v (.bool false), .v (.slice none 0 0)])) rfl rfl rfl ?_
  refine mN hTT (.box 30 ([.v (.bool false), .v (.slice none 0 0), .v (.bool false), .v (.slice none 0 0)])) rfl rfl rfl ?_
  refine mNil ?_
  refine tN ?_
  refine cSeq ?_
  refine cReg ?_
  refine mV hTT (.d (.agg (crv 70000 n m p q))) rfl ?_
  refine mC0 (aCNormC (K := 70000) (n := n) (m := m) (M := 70001) zp zq (by omega) (by omega) (by decide) (by decide)) rfl rfl rfl ?_
  refine mS hTT 2 (.box 28 (crv 70001 n m p q)) rfl ?_
  refine mNil ?_
  refine tN ?_
  refine cSeq ?_
  have hWn : (((crL n m p q) : Int) : Rat) ≠ 0 := fun e => by have h0 := crL_pos (n := n) (m := m) (p := p) (q := q); have := Rat.intCast_eq_zero_iff.1 e; omega
  refine cDrawS hTT 12 (by kernel_rfl) (by kernel_rfl) ?_
  refine .cons (OpS.V (.ptr 2 0) rfl) (by kernel_rfl) ?_
  refine .cons (OpS.V (.d (.one (.row 2 (dg p n) (zel 70001 (cX (crL n m p q) p))))) rfl) (by kernel_rfl) ?_
  refine .cons (OpS.V (.d (.agg (tn 130 t))) rfl) (by kernel_rfl) ?_
  refine .cons (OpS.C0 (aPVal (isp (K := 70001) (c := (cX (crL n m p q) p)) (cX_z (dg_z zp))) (ist_tn 130 t) (D := 6) (T := 70268) (M := 491876) (N := 491877) (by omega)) rfl rfl rfl) (by kernel_rfl) ?_
  refine .cons (OpS.V (.ptr 2 2) rfl) (by kernel_rfl) ?_
  refine .cons (OpS.V (.d (.agg (zn 70001 ((crL n m p q) : Int)))) rfl) (by kernel_rfl) ?_
  refine .cons (OpS.C0 (aTInt (isz 70001 ((crL n m p q) : Int)) (M := 70001) (by decide) (by decide)) rfl rfl rfl) (by kernel_rfl) ?_
  refine .cons (OpS.C0 (aTQuo (ist_tn 491877 (vlQ (rc (cX (crL n m p q) p)) (mkR (Rat.num t) (Rat.den t : Int)) (dg (cX (crL n m p q) p) (dg p n)) (dg (cX (crL n m p q) p) (dg p n)))) (ist_tn 70001 ((((crL n m p q) : Int) : Int) : Rat)) (by rw [mkR_self]; exact hWn) (M := 561882) (by decide) (by decide)) rfl rfl rfl) (by kernel_rfl) ?_
  refine .cons (OpS.V _ rfl) (by kernel_rfl) ?_
  refine .cons (OpS.V _ rfl) (by kernel_rfl) ?_
  refine .cons (OpS.V _ rfl) (by kernel_rfl) ?_
  refine .cons (OpS.S 4 (.box 30 (tn 561882 ((mkR (Rat.num (vlQ (rc (cX (crL n m p q) p)) (mkR (Rat.num t) (Rat.den t : Int)) (dg (cX (crL n m p q) p) (dg p n)) (dg (cX (crL n m p q) p) (dg p n)))) (Rat.den (vlQ (rc (cX (crL n m p q) p)) (mkR (Rat.num t) (Rat.den t : Int)) (dg (cX (crL n m p q) p) (dg p n)) (dg (cX (crL n m p q) p) (dg p n))) : Int)) / (mkR (Rat.num ((((crL n m p q) : Int) : Int) : Rat)) (Rat.den ((((crL n m p q) : Int) : Int) : Rat) : Int))))) rfl rfl) (by kernel_rfl) ?_
  refine .nil ?_
  refine mNil ?_
  refine tN ?_
  refine cSeq ?_
  refine cDrawS hTT 12 (by kernel_rfl) (by kernel_rfl) ?_
  refine .cons (OpS.V (.ptr 2 1) rfl) (by kernel_rfl) ?_
  refine .cons (OpS.V (.d (.one (.row 2 (dg q m) (zel 70001 (cX (crL n m p q) q))))) rfl) (by kernel_rfl) ?_
  refine .cons (OpS.V (.d (.agg (tn 130 t))) rfl) (by kernel_rfl) ?_
  refine .cons (OpS.C0 (aPVal (isp (K := 70001) (c := (cX (crL n m p q) q)) (cX_z (dg_z zq))) (ist_tn 130 t) (D := 6) (T := 70268) (M := 491876) (N := 491877) (by omega)) rfl rfl rfl) (by kernel_rfl) ?_
  refine .cons (OpS.V (.ptr 2 2) rfl) (by kernel_rfl) ?_
  refine .cons (OpS.V (.d (.agg (zn 70001 ((crL n m p q) : Int)))) rfl) (by kernel_rfl) ?_
  refine .cons (OpS.C0 (aTInt (isz 70001 ((crL n m p q) : Int)) (M := 70001) (by decide) (by decide)) rfl rfl rfl) (by kernel_rfl) ?_
  refine .cons (OpS.C0 (aTQuo (ist_tn 491877 (vlQ (rc (cX (crL n m p q) q)) (mkR (Rat.num t) (Rat.den t : Int)) (dg (cX (crL n m p q) q) (dg q m)) (dg (cX (crL n m p q) q) (dg q m)))) (ist_tn 70001 ((((crL n m p q) : Int) : Int) : Rat)) (by rw [mkR_self]; exact hWn) (M := 561882) (by decide) (by decide)) rfl rfl rfl) (by kernel_rfl) ?_
  refine .cons (OpS.V _ rfl) (by kernel_rfl) ?_
  refine .cons (OpS.V _ rfl) (by kernel_rfl) ?_
  refine .cons (OpS.V _ rfl) (by kernel_rfl) ?_
  refine .cons (OpS.S 5 (.box 30 (tn 561882 ((mkR (Rat.num (vlQ (rc (cX (crL n m p q) q)) (mkR (Rat.num t) (Rat.den t : Int)) (dg (cX (crL n m p q) q) (dg q m)) (dg (cX (crL n m p q) q) (dg q m)))) (Rat.den (vlQ (rc (cX (crL n m p q) q)) (mkR (Rat.num t) (Rat.den t : Int)) (dg (cX (crL n m p q) q) (dg q m)) (dg (cX (crL n m p q) q) (dg q m))) : Int)) / (mkR (Rat.num ((((crL n m p q) : Int) : Int) : Rat)) (Rat.den ((((crL n m p q) : Int) : Int) : Rat) : Int))))) rfl rfl) (by kernel_rfl) ?_
  refine .nil ?_
  refine mNil ?_
  refine tN ?_
  refine cSeq ?_
  refine cDrawS hTT 4 (by kernel_rfl) (by kernel_rfl) ?_
  refine .cons (OpS.V (.d (.agg (tn 561882 ((mkR (Rat.num (vlQ (rc (cX (crL n m p q) p)) (mkR (Rat.num t) (Rat.den t : Int)) (dg (cX (crL n m p q) p) (dg p n)) (dg (cX (crL n m p q) p) (dg p n)))) (Rat.den (vlQ (rc (cX (crL n m p q) p)) (mkR (Rat.num t) (Rat.den t : Int)) (dg (cX (crL n m p q) p) (dg p n)) (dg (cX (crL n m p q) p) (dg p n))) : Int)) / (mkR (Rat.num ((((crL n m p q) : Int) : Int) : Rat)) (Rat.den ((((crL n m p q) : Int) : Int) : Rat) : Int)))))) rfl) (by kernel_rfl) ?_
  refine .cons (OpS.V (.d (.agg (tn 561882 ((mkR (Rat.num (vlQ (rc (cX (crL n m p q) q)) (mkR (Rat.num t) (Rat.den t : Int)) (dg (cX (crL n m p q) q) (dg q m)) (dg (cX (crL n m p q) q) (dg q m)))) (Rat.den (vlQ (rc (cX (crL n m p q) q)) (mkR (Rat.num t) (Rat.den t : Int)) (dg (cX (crL n m p q) q) (dg q m)) (dg (cX (crL n m p q) q) (dg q m))) : Int)) / (mkR (Rat.num ((((crL n m p q) : Int) : Int) : Rat)) (Rat.den ((((crL n m p q) : Int) : Int) : Rat) : Int)))))) rfl) (by kernel_rfl) ?_
  refine .cons (OpS.S 4 (.box 30 (tn 561882 ((mkR (Rat.num (vlQ (rc (cX (crL n m p q) p)) (mkR (Rat.num t) (Rat.den t : Int)) (dg (cX (crL n m p q) p) (dg p n)) (dg (cX (crL n m p q) p) (dg p n)))) (Rat.den (vlQ (rc (cX (crL n m p q) p)) (mkR (Rat.num t) (Rat.den t : Int)) (dg (cX (crL n m p q) p) (dg p n)) (dg (cX (crL n m p q) p) (dg p n))) : Int)) / (mkR (Rat.num ((((crL n m p q) : Int) : Int) : Rat)) (Rat.den ((((crL n m p q) : Int) : Int) : Rat) : Int))))) rfl rfl) (by kernel_rfl) ?_
  refine .cons (OpS.S 5 (.box 30 (tn 561882 ((mkR (Rat.num (vlQ (rc (cX (crL n m p q) q)) (mkR (Rat.num t) (Rat.den t : Int)) (dg (cX (crL n m p q) q) (dg q m)) (dg (cX (crL n m p q) q) (dg q m)))) (Rat.den (vlQ (rc (cX (crL n m p q) q)) (mkR (Rat.num t) (Rat.den t : Int)) (dg (cX (crL n m p q) q) (dg q m)) (dg (cX (crL n m p q) q) (dg q m))) : Int)) / (mkR (Rat.num ((((crL n m p q) : Int) : Int) : Rat)) (Rat.den ((((crL n m p q) : Int) : Int) : Rat) : Int))))) rfl rfl) (by kernel_rfl) ?_
  refine .nil ?_
  refine mNil ?_
  refine tN ?_
  refine cRet ?_
  exact rQ rfl (le_tup (dl (dle (le_tn (by decide) (by simp only [mkR_self]; exact at_val zp (fun i hi => cX_nz zp (dg_z (cX_z (dg_z zp)) i hi))))) (dl (dle (le_tn (by decide) (by simp only [mkR_self]; exact at_val2 zq (fun i hi => cX_nz2 zq (dg_z (cX_z (dg_z zq)) i hi))))) dl0)))

theorem pe_const {x : Int} {q : Rat} : pe (rc (fun i => if i = 0 then x else 0)) q 1 = (x : Rat) := by
  show 0 + ((if 0 = 0 then x else 0 : Int) : Rat) * q ^ 0 = (x : Rat)
  rw [if_pos rfl, Rat.pow_zero]; grind
theorem pe_told {c : Nat → Rat} {n m : Nat} {a b : Rat} (hn : ∀ i, n ≤ i → c i = 0) (hm : ∀ i, m ≤ i → c i = 0) : pe c a n = pe (shf c m (-b)) (a + b) m := by
  rw [pe_shf, show a + b + -b = a by grind]; exact pe_eq hn hm
set_option maxRecDepth 100000 in
set_option maxHeartbeats 4000000 in
theorem aCurveStills {x y : Int} {K n m : Nat} {f j : Nat → Bool × List Nat} {s : Bool} {xs : List Nat} {u1 v1 u2 v2 : Int} (a1 : -9223372036854775808 ≤ x) (a2 : x ≤ 9223372036854775807) (b1 : -9223372036854775808 ≤ y) (b2 : y ≤ 9223372036854775807) (hK : K ≤ 9223372036854775807) (c1 : -9223372036854775808 ≤ u1) (c2 : u1 ≤ 9223372036854775807) (d1 : -9223372036854775808 ≤ v1) (d2 : v1 ≤ 9223372036854775807) (e1 : -9223372036854775808 ≤ u2) (e2 : u2 ≤ 9223372036854775807) (g1 : -9223372036854775808 ≤ v2) (g2 : v2 ≤ 9223372036854775807) : ACall Tryz.prog 4 [.one (.v (.int .i64 x)), .one (.v (.int .i64 y)), .agg (can K n f m j s xs), .one (.v (.int .i64 u1)), .one (.v (.int .i64 v1)), .one (.v (.int .i64 u2)), .one (.v (.int .i64 v2))] (.d (.one (.v (.bool true)))) := by
  refine acallN hTT 100 [.tmp 14] Tryz.func4 rfl rfl rfl rfl rfl ?_
  refine cSeq ?_
  refine cReg ?_
  refine mN hTT (.box 28 ([.row 2 n (ael K f)] ++ [.row 2 m (ael K j)] ++ [.v (.bool s), lr K xs])) rfl rfl rfl ?_
  refine mV hTT _ rfl ?_
  refine mNil ?_
  refine tN ?_
  refine cSeq ?_
  refine cReg ?_
  refine mV hTT _ rfl ?_
  refine mV hTT _ rfl ?_
  refine mC0 (aCStill (x := x) (y := y) a1 a2 b1 b2) rfl rfl rfl ?_
  refine mN hTT (.box 28 ([.v (.slice none 0 0), .v (.slice none 0 0), .v (.bool false), .v (.slice none 0 0)])) rfl rfl rfl ?_
  refine mS hTT 15 (.box 28 (crv 3 1 1 (rc (fun i => if i = 0 then x else 0)) (rc (fun i => if i = 0 then y else 0)))) rfl ?_
  refine mNil ?_
  refine tN ?_
  refine cSeq ?_
  refine cReg ?_
  refine mV hTT _ rfl ?_
  refine mV hTT _ rfl ?_
  refine mC0 (aSmall8 (n := u1) (d := v1) c1 c2 d1 d2) rfl rfl rfl ?_
  refine mV hTT _ rfl ?_
  refine mV hTT _ rfl ?_
  refine mC0 (aSmall8 (n := u2) (d := v2) e1 e2 g1 g2) rfl rfl rfl ?_
  refine mN hTT (.box 44 ([.v (.slice none 0 0), .v (.bool false), .v (.slice none 0 0), .v (.bool false)])) rfl rfl rfl ?_
  refine mN hTT (.box 44 ([.v (.slice none 0 0), .v (.bool false), .v (.slice none 0 0), .v (.bool false)])) rfl rfl rfl ?_
  refine mS hTT 16 (.box 44 (qn 64 (sml u1 v1))) rfl ?_
  refine mS hTT 17 (.box 44 (qn 64 (sml u2 v2))) rfl ?_
  refine mNil ?_
  refine tN ?_
  refine cSeq ?_
  refine cDrawS hTT 11 (by kernel_rfl) (by kernel_rfl) ?_
  refine .cons (OpS.V (.d (.agg (crv 3 1 1 (rc (fun i => if i = 0 then x else 0)) (rc (fun i => if i = 0 then y else 0))))) rfl) (by kernel_rfl) ?_
  refine .cons (OpS.V (.d (.agg (qn 64 (sml u1 v1)))) rfl) (by kernel_rfl) ?_
  refine .cons (OpS.C0 (aRToR (isq 64 (sml u1 v1)) (by decide)) rfl rfl rfl) (by kernel_rfl) ?_
  refine .cons (OpS.C0 (ACall.le (dl (dle (le_crv (K := 3) (M := 70000) (by decide) (rc_z (fun i hi => if_neg (by omega))) (rc_z (fun i hi => if_neg (by omega))) (rc_z (fun i hi => if_neg (by omega))) (rc_z (fun i hi => if_neg (by omega))) (fun _ => rfl) (fun _ => rfl))) (dl (dle (le_tn (K := 64) (L := 130) (by decide) rfl)) dl0)) AV.le.rfl (aCAt (n := 1) (m := 1) (p := (rc (fun i => if i = 0 then x else 0))) (q := (rc (fun i => if i = 0 then y else 0))) (t := (sml u1 v1)) (rc_z (fun i hi => if_neg (by omega))) (rc_z (fun i hi => if_neg (by omega))) (by omega) (by omega))) rfl rfl rfl) (by kernel_rfl) ?_
  refine .cons (OpS.V _ rfl) (by kernel_rfl) ?_
  refine .cons (OpS.V _ rfl) (by kernel_rfl) ?_
  refine .cons (OpS.V _ rfl) (by kernel_rfl) ?_
  refine .cons (OpS.N (.box 30 ([.v (.bool false), .v (.slice none 0 0), .v (.bool false), .v (.slice none 0 0)])) rfl 18 rfl rfl) (by kernel_rfl) ?_
  refine .cons (OpS.N (.box 30 ([.v (.bool false), .v (.slice none 0 0), .v (.bool false), .v (.slice none 0 0)])) rfl 19 rfl rfl) (by kernel_rfl) ?_
  refine .cons (OpS.S 18 (.box 30 (tn 900000 (pe (rc (fun i => if i = 0 then x else 0)) (sml u1 v1) 1))) rfl rfl) (by kernel_rfl) ?_
  refine .cons (OpS.S 19 (.box 30 (tn 900000 (pe (rc (fun i => if i = 0 then y else 0)) (sml u1 v1) 1))) rfl rfl) (by kernel_rfl) ?_
  refine .nil ?_
  refine mNil ?_
  refine tN ?_
  refine cSeq ?_
  refine cSeq ?_
  refine cDrawK hTT 17 (by kernel_rfl) (by kernel_rfl) (by kernel_rfl) ?_
  refine .cons (OpS.V (.d (.agg (crv 3 1 1 (rc (fun i => if i = 0 then x else 0)) (rc (fun i => if i = 0 then y else 0))))) rfl) ?_
  refine .cons (OpS.C0 (aCDeg (K := 3) (rc_z (fun i hi => if_neg (by omega))) (rc_z (fun i hi => if_neg (by omega))) (by omega) (by omega) (by decide)) rfl rfl rfl) ?_
  refine .cons (OpS.V (.d (.one (.v (.bool false)))) (evb (bne_eq_false_iff_eq.2 (by have h0 := dg_le (rc (fun i => if i = 0 then x else 0)) 1; have h1 := dg_le (rc (fun i => if i = 0 then y else 0)) 1; unfold degC; omega)))) ?_
  refine .cons (OpS.V _ rfl) ?_
  refine .cons (OpS.V _ rfl) ?_
  refine .cons (OpS.C0 (aROfI (n := x) a1 a2) rfl rfl rfl) ?_
  refine .cons (OpS.V (.d (.agg (tn 900000 (pe (rc (fun i => if i = 0 then x else 0)) (sml u1 v1) 1)))) rfl) ?_
  refine .cons (OpS.C0 (aRSameR (IsQ.eq (isq 64 ((x : Int) : Rat)) pe_const.symm) (istn 900000 (pe (rc (fun i => if i = 0 then x else 0)) (sml u1 v1) 1)) (by decide) (by decide)) rfl rfl rfl) ?_
  refine .cons (OpS.V (.d (.one (.v (.bool false)))) rfl) ?_
  refine .cons (OpS.V _ rfl) ?_
  refine .cons (OpS.V _ rfl) ?_
  refine .cons (OpS.V _ rfl) ?_
  refine .cons (OpS.C0 (aROfI (n := y) b1 b2) rfl rfl rfl) ?_
  refine .cons (OpS.V (.d (.agg (tn 900000 (pe (rc (fun i => if i = 0 then y else 0)) (sml u1 v1) 1)))) rfl) ?_
  refine .cons (OpS.C0 (aRSameR (IsQ.eq (isq 64 ((y : Int) : Rat)) pe_const.symm) (istn 900000 (pe (rc (fun i => if i = 0 then y else 0)) (sml u1 v1) 1)) (by decide) (by decide)) rfl rfl rfl) ?_
  refine .cons (OpS.V (.d (.one (.v (.bool false)))) rfl) ?_
  refine .cons (OpS.V _ rfl) ?_
  refine .nil ?_
  refine mNil ?_
  refine tN ?_
  refine cF rfl ?_
  refine cSkip ?_
  refine tN ?_
  refine cSeq ?_
  refine cReg ?_
  refine mV hTT (.d (.agg ([.row 2 n (ael K f)] ++ [.row 2 m (ael K j)] ++ [.v (.bool s), lr K xs]))) rfl ?_
  refine mC0 (aCut12 (K := K) (n := n) (m := m) (k := 3) (l := 1) (f := f) (g := j) (s := s) (xs := xs) (by decide) (by decide) (by omega)) rfl rfl rfl ?_
  refine mS hTT 9 (.box 28 ([.row 2 (min n 3) (ael 1 (cutf 1 f))] ++ [.row 2 (min m 3) (ael 1 (cutf 1 j))] ++ [.v (.bool s), lr 1 (xs.take 1)])) rfl ?_
  refine mNil ?_
  refine tN ?_
  refine cSeq ?_
  have hd1 := dg_le (cfz (min n 3) (cutf 1 f)) (min n 3)
  have hd2 := dg_le (cfz (min m 3) (cutf 1 j)) (min m 3)
  refine cReg ?_
  refine mV hTT (.ptr 9 0) rfl ?_
  refine mV hTT (.d (.one (.row 2 (min n 3) (ael 1 (cutf 1 f))))) rfl ?_
  refine mV hTT (.ptr 9 1) rfl ?_
  refine mV hTT (.d (.one (.row 2 (min m 3) (ael 1 (cutf 1 j))))) rfl ?_
  refine mC0 (aCOf (⟨⟨(cutf 1 f), fun _ _ _ h => h, (fun i hi => (show cfz (min n 3) (cutf 1 f) i = fzv (cutf 1 f) i from if_pos hi).symm)⟩, cfz_z⟩ : IsP (arow 1 (min n 3) (cutf 1 f)) 1 (min n 3) (cfz (min n 3) (cutf 1 f))) (⟨⟨(cutf 1 j), fun _ _ _ h => h, (fun i hi => (show cfz (min m 3) (cutf 1 j) i = fzv (cutf 1 j) i from if_pos hi).symm)⟩, cfz_z⟩ : IsP (arow 1 (min m 3) (cutf 1 j)) 1 (min m 3) (cfz (min m 3) (cutf 1 j))) (M := 3) (by omega) (by omega) (by decide) (by decide)) rfl rfl rfl ?_
  refine mN hTT (.box 28 ([.v (.slice none 0 0), .v (.slice none 0 0), .v (.bool false), .v (.slice none 0 0)])) rfl rfl rfl ?_
  refine mS hTT 20 (.box 28 (crv 3 (min n 3) (min m 3) (rc (cfz (min n 3) (cutf 1 f))) (rc (cfz (min m 3) (cutf 1 j))))) rfl ?_
  refine mNil ?_
  refine tN ?_
  refine cSeq ?_
  refine cDrawK hTT 8 (by kernel_rfl) (by kernel_rfl) (by kernel_rfl) ?_
  refine .cons (OpS.V (.ptr 9 0) rfl) ?_
  refine .cons (OpS.V (.d (.one (.row 2 (min n 3) (ael 1 (cutf 1 f))))) rfl) ?_
  refine .cons (OpS.V (.ptr 9 1) rfl) ?_
  refine .cons (OpS.V (.d (.one (.row 2 (min m 3) (ael 1 (cutf 1 j))))) rfl) ?_
  refine .cons (OpS.V (.d (.agg (qn 64 (sml u2 v2)))) rfl) ?_
  refine .cons (OpS.C0 (aRToR (isq 64 (sml u2 v2)) (by decide)) rfl rfl rfl) ?_
  refine .cons (OpS.C0 (aCRebaseQ (⟨⟨(cutf 1 f), fun _ _ _ h => h, (fun i hi => (show cfz (min n 3) (cutf 1 f) i = fzv (cutf 1 f) i from if_pos hi).symm)⟩, cfz_z⟩ : IsP (arow 1 (min n 3) (cutf 1 f)) 1 (min n 3) (cfz (min n 3) (cutf 1 f))) (⟨⟨(cutf 1 j), fun _ _ _ h => h, (fun i hi => (show cfz (min m 3) (cutf 1 j) i = fzv (cutf 1 j) i from if_pos hi).symm)⟩, cfz_z⟩ : IsP (arow 1 (min m 3) (cutf 1 j)) 1 (min m 3) (cfz (min m 3) (cutf 1 j))) (L := 64) (q := (sml u2 v2)) (M := 65155) (by omega) (by omega) (by decide) (by decide)) rfl rfl rfl) ?_
  refine .cons (OpS.N (.box 28 ([.v (.slice none 0 0), .v (.slice none 0 0), .v (.bool false), .v (.slice none 0 0)])) rfl 21 rfl rfl) ?_
  refine .nil ?_
  refine mS hTT 21 (.box 28 (crv 65155 (dg (cfz (min n 3) (cutf 1 f)) (min n 3)) (dg (cfz (min m 3) (cutf 1 j)) (min m 3)) (shf (rc (cfz (min n 3) (cutf 1 f))) (dg (cfz (min n 3) (cutf 1 f)) (min n 3)) (-(sml u2 v2))) (shf (rc (cfz (min m 3) (cutf 1 j))) (dg (cfz (min m 3) (cutf 1 j)) (min m 3)) (-(sml u2 v2))))) rfl ?_
  refine mNil ?_
  refine tN ?_
  refine cSeq ?_
  refine cDrawS hTT 11 (by kernel_rfl) (by kernel_rfl) ?_
  refine .cons (OpS.V (.d (.agg (crv 3 (min n 3) (min m 3) (rc (cfz (min n 3) (cutf 1 f))) (rc (cfz (min m 3) (cutf 1 j)))))) rfl) (by kernel_rfl) ?_
  refine .cons (OpS.V (.d (.agg (qn 64 (sml u1 v1)))) rfl) (by kernel_rfl) ?_
  refine .cons (OpS.C0 (aRToR (isq 64 (sml u1 v1)) (by decide)) rfl rfl rfl) (by kernel_rfl) ?_
  refine .cons (OpS.C0 (ACall.le (dl (dle (le_crv (K := 3) (M := 70000) (by decide) (rc_z cfz_z) (rc_z cfz_z) (rc_z cfz_z) (rc_z cfz_z) (fun _ => rfl) (fun _ => rfl))) (dl (dle (le_tn (K := 64) (L := 130) (by decide) rfl)) dl0)) AV.le.rfl (aCAt (n := (min n 3)) (m := (min m 3)) (p := (rc (cfz (min n 3) (cutf 1 f)))) (q := (rc (cfz (min m 3) (cutf 1 j)))) (t := (sml u1 v1)) (rc_z cfz_z) (rc_z cfz_z) (by omega) (by omega))) rfl rfl rfl) (by kernel_rfl) ?_
  refine .cons (OpS.V _ rfl) (by kernel_rfl) ?_
  refine .cons (OpS.V _ rfl) (by kernel_rfl) ?_
  refine .cons (OpS.V _ rfl) (by kernel_rfl) ?_
  refine .cons (OpS.N (.box 30 ([.v (.bool false), .v (.slice none 0 0), .v (.bool false), .v (.slice none 0 0)])) rfl 22 rfl rfl) (by kernel_rfl) ?_
  refine .cons (OpS.N (.box 30 ([.v (.bool false), .v (.slice none 0 0), .v (.bool false), .v (.slice none 0 0)])) rfl 23 rfl rfl) (by kernel_rfl) ?_
  refine .cons (OpS.S 22 (.box 30 (tn 900000 (pe (rc (cfz (min n 3) (cutf 1 f))) (sml u1 v1) (min n 3)))) rfl rfl) (by kernel_rfl) ?_
  refine .cons (OpS.S 23 (.box 30 (tn 900000 (pe (rc (cfz (min m 3) (cutf 1 j))) (sml u1 v1) (min m 3)))) rfl rfl) (by kernel_rfl) ?_
  refine .nil ?_
  refine mNil ?_
  refine tN ?_
  refine cSeq ?_
  refine cDrawS hTT 13 (by kernel_rfl) (by kernel_rfl) ?_
  refine .cons (OpS.V (.d (.agg (crv 65155 (dg (cfz (min n 3) (cutf 1 f)) (min n 3)) (dg (cfz (min m 3) (cutf 1 j)) (min m 3)) (shf (rc (cfz (min n 3) (cutf 1 f))) (dg (cfz (min n 3) (cutf 1 f)) (min n 3)) (-(sml u2 v2))) (shf (rc (cfz (min m 3) (cutf 1 j))) (dg (cfz (min m 3) (cutf 1 j)) (min m 3)) (-(sml u2 v2)))))) rfl) (by kernel_rfl) ?_
  refine .cons (OpS.V (.d (.agg (qn 64 (sml u1 v1)))) rfl) (by kernel_rfl) ?_
  refine .cons (OpS.V (.d (.agg (qn 64 (sml u2 v2)))) rfl) (by kernel_rfl) ?_
  refine .cons (OpS.C0 (aRAddR (isq 64 (sml u1 v1)) (isq 64 (sml u2 v2)) (M := 129) (by decide) (by decide)) rfl rfl rfl) (by kernel_rfl) ?_
  refine .cons (OpS.C0 (aRToR (isq 129 ((sml u1 v1) + (sml u2 v2))) (by decide)) rfl rfl rfl) (by kernel_rfl) ?_
  refine .cons (OpS.C0 (ACall.le (dl (dle (le_crv (K := 65155) (M := 70000) (by decide) shf_z shf_z shf_z shf_z (fun _ => rfl) (fun _ => rfl))) (dl (dle (le_tn (K := 129) (L := 130) (by decide) rfl)) dl0)) AV.le.rfl (aCAt (n := (dg (cfz (min n 3) (cutf 1 f)) (min n 3))) (m := (dg (cfz (min m 3) (cutf 1 j)) (min m 3))) (p := (shf (rc (cfz (min n 3) (cutf 1 f))) (dg (cfz (min n 3) (cutf 1 f)) (min n 3)) (-(sml u2 v2)))) (q := (shf (rc (cfz (min m 3) (cutf 1 j))) (dg (cfz (min m 3) (cutf 1 j)) (min m 3)) (-(sml u2 v2)))) (t := ((sml u1 v1) + (sml u2 v2))) shf_z shf_z (by omega) (by omega))) rfl rfl rfl) (by kernel_rfl) ?_
  refine .cons (OpS.V _ rfl) (by kernel_rfl) ?_
  refine .cons (OpS.V _ rfl) (by kernel_rfl) ?_
  refine .cons (OpS.V _ rfl) (by kernel_rfl) ?_
  refine .cons (OpS.N (.box 30 ([.v (.bool false), .v (.slice none 0 0), .v (.bool false), .v (.slice none 0 0)])) rfl 24 rfl rfl) (by kernel_rfl) ?_
  refine .cons (OpS.N (.box 30 ([.v (.bool false), .v (.slice none 0 0), .v (.bool false), .v (.slice none 0 0)])) rfl 25 rfl rfl) (by kernel_rfl) ?_
  refine .cons (OpS.S 24 (.box 30 (tn 900000 (pe (shf (rc (cfz (min n 3) (cutf 1 f))) (dg (cfz (min n 3) (cutf 1 f)) (min n 3)) (-(sml u2 v2))) ((sml u1 v1) + (sml u2 v2)) (dg (cfz (min n 3) (cutf 1 f)) (min n 3))))) rfl rfl) (by kernel_rfl) ?_
  refine .cons (OpS.S 25 (.box 30 (tn 900000 (pe (shf (rc (cfz (min m 3) (cutf 1 j))) (dg (cfz (min m 3) (cutf 1 j)) (min m 3)) (-(sml u2 v2))) ((sml u1 v1) + (sml u2 v2)) (dg (cfz (min m 3) (cutf 1 j)) (min m 3))))) rfl rfl) (by kernel_rfl) ?_
  refine .nil ?_
  refine mNil ?_
  refine tN ?_
  refine cSeq ?_
  refine cReg ?_
  refine mV hTT (.d (.agg (tn 900000 (pe (rc (cfz (min n 3) (cutf 1 f))) (sml u1 v1) (min n 3))))) rfl ?_
  refine mV hTT (.d (.agg (tn 900000 (pe (shf (rc (cfz (min n 3) (cutf 1 f))) (dg (cfz (min n 3) (cutf 1 f)) (min n 3)) (-(sml u2 v2))) ((sml u1 v1) + (sml u2 v2)) (dg (cfz (min n 3) (cutf 1 f)) (min n 3)))))) rfl ?_
  refine mC0 (aSameT (K := 900000) (L := 900000) (p := (pe (rc (cfz (min n 3) (cutf 1 f))) (sml u1 v1) (min n 3))) (q := (pe (shf (rc (cfz (min n 3) (cutf 1 f))) (dg (cfz (min n 3) (cutf 1 f)) (min n 3)) (-(sml u2 v2))) ((sml u1 v1) + (sml u2 v2)) (dg (cfz (min n 3) (cutf 1 f)) (min n 3)))) (pe_told (rc_z cfz_z) (rc_z (dg_z cfz_z))) (by decide) (by decide)) rfl rfl rfl ?_
  refine mV hTT _ rfl ?_
  refine mV hTT (.d (.agg (tn 900000 (pe (rc (cfz (min m 3) (cutf 1 j))) (sml u1 v1) (min m 3))))) rfl ?_
  refine mV hTT (.d (.agg (tn 900000 (pe (shf (rc (cfz (min m 3) (cutf 1 j))) (dg (cfz (min m 3) (cutf 1 j)) (min m 3)) (-(sml u2 v2))) ((sml u1 v1) + (sml u2 v2)) (dg (cfz (min m 3) (cutf 1 j)) (min m 3)))))) rfl ?_
  refine mC0 (aSameT (K := 900000) (L := 900000) (p := (pe (rc (cfz (min m 3) (cutf 1 j))) (sml u1 v1) (min m 3))) (q := (pe (shf (rc (cfz (min m 3) (cutf 1 j))) (dg (cfz (min m 3) (cutf 1 j)) (min m 3)) (-(sml u2 v2))) ((sml u1 v1) + (sml u2 v2)) (dg (cfz (min m 3) (cutf 1 j)) (min m 3)))) (pe_told (rc_z cfz_z) (rc_z (dg_z cfz_z))) (by decide) (by decide)) rfl rfl rfl ?_
  refine mV hTT _ rfl ?_
  refine mV hTT _ rfl ?_
  refine mC0 (aWakes12) rfl rfl rfl ?_
  refine mV hTT _ rfl ?_
  refine mV hTT _ rfl ?_
  refine mNil ?_
  refine tN ?_
  refine cRet ?_
  exact rQ rfl (AV.le.rfl)

end Go.Proofs.YtcnfblffeghboaaGreat

