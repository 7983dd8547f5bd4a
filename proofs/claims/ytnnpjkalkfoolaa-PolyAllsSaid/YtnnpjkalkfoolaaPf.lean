/-
  THE LAWS of chapter 5, by the machine (2): PolyAlls.
-/
import Derived.Test.YtnnpjkalkfoolaaPc
import Derived.Test.YtnnpjkalkfoolaaPe
set_option linter.unusedVariables false
set_option linter.unusedSimpArgs false
namespace Go.Proofs.Ytnnpjkalkfoolaa
open Go.RowKit

set_option maxRecDepth 100000 in
set_option maxHeartbeats 4000000 in
theorem aPolyAlls {K n K1 nk : Nat} {ns : Nat → Nat} {fs : Nat → Nat → Bool × List Nat} {s1 : Bool} {xs1 : List Nat} {ck : Nat → Int} (hK : K ≤ 9223372036854775807) (hK1 : K1 ≤ 9223372036854775807) (hb : ∀ i, i < nk → -9223372036854775808 ≤ ck i ∧ ck i ≤ 9223372036854775807) : ACall Try.prog 4 [.one (prows K n ns fs), .agg [.v (.bool s1), lr K1 xs1], .one (irow nk ck)] (.d (.one (.v (.bool true)))) := by
  refine acallN hTT 86 [.tmp 6] Try.func4 rfl rfl rfl rfl rfl ?_
  refine cSeq ?_
  refine cReg ?_
  refine mN hTT (.box 26 ([.v (.bool s1), lr K1 xs1])) rfl rfl rfl ?_
  refine mV hTT _ rfl ?_
  refine mNil ?_
  refine tN ?_
  refine cSeq ?_
  refine cReg ?_
  refine mV hTT (.d (.agg ([.v (.bool s1), lr K1 xs1]))) rfl ?_
  refine mC0 (aKInt (K := K1) (k := 3) (s := s1) (xs := xs1) (by omega) (by omega)) rfl rfl rfl ?_
  refine mS hTT 4 (.box 26 ([.v (.bool s1), lr 3 (xs1.take 3)])) rfl ?_
  refine mNil ?_
  refine tN ?_
  refine cSeq ?_
  refine cReg ?_
  refine mC0 (aQOf isi_nil (fun i hi => absurd hi (Nat.not_lt_zero _)) (by decide)) rfl rfl rfl ?_
  refine mB hTT (.d (.one (.row 1 1 (fun i' j' => (([.v (.int .i64 1)])[i' * 1 + j']?).getD (.v undef))))) rfl ?_
  refine mC0 (aQOf (isi_lit (l := [1]) (n := 1) rfl (fun i hi => match i, hi with | 0, _ => rfl)) (by decide) (by omega)) rfl rfl rfl ?_
  refine mV hTT _ rfl ?_
  refine mV hTT _ rfl ?_
  refine mNil ?_
  refine tN ?_
  refine cSeq ?_
  refine cReg ?_
  refine mV hTT _ rfl ?_
  refine mNil ?_
  refine tN ?_
  refine cSeq ?_
  refine cSeq ?_
  refine AW.wk (wkNil 9 9 23 1 (fun _ _ => .v undef) rfl rfl) ?_
  refine cReg ?_
  refine mV hTT _ rfl ?_
  refine mNil ?_
  refine tN ?_
  refine cBlock ?_
  refine cLoop (ι := Nat) (fun (i : Nat) => ⟨86, [(0, .d (.one (.row 1 n (fun p _ => arow K (ns p) (fs p))))), (2, .d (.one (.row 1 nk (fun i _ => .v (.int .i64 (ck i)))))), (4, .ptr 4 0), (7, .d (.one (.row 4 (dg (sumc (fun p => min (ns p) 5) (fun p => cutf 2 (fs p)) i) 5) (qel (64 + 65 * i) (rc (sumc (fun p => min (ns p) 5) (fun p => cutf 2 (fs p)) i)))))), (8, .d (.one (.row 4 (dg (prodc (fun p => min (ns p) 5) (fun p => cutf 2 (fs p)) i) (i * 5 + 1)) (qel (KP i) (rc (prodc (fun p => min (ns p) 5) (fun p => cutf 2 (fs p)) i)))))), (9, .own 9), (10, .d (.one (.v (.int .i64 ((i : Nat) : Int)))))], [(4, .box 26 ([.v (.bool s1), lr 3 (xs1.take 3)])), (9, .row 23 1 i (fun p _ => arow 2 ((fun p => min (ns p) 5) p) ((fun p => cutf 2 (fs p)) p)))]⟩) (fun (i : Nat) => i ≤ 4) (fun (i : Nat) => 4 - i) 0 (Nat.zero_le _) (wk (sl := [(0, .d (.one (.row 1 n (fun p _ => arow K (ns p) (fs p))))), (2, .d (.one (.row 1 nk (fun i _ => .v (.int .i64 (ck i)))))), (4, .ptr 4 0), (7, .d (.one (.row 4 (dg (sumc (fun p => min (ns p) 5) (fun p => cutf 2 (fs p)) 0) 5) (qel (64 + 65 * 0) (rc (sumc (fun p => min (ns p) 5) (fun p => cutf 2 (fs p)) 0)))))), (8, .d (.one (.row 4 (dg (prodc (fun p => min (ns p) 5) (fun p => cutf 2 (fs p)) 0) (0 * 5 + 1)) (qel (KP 0) (rc (prodc (fun p => min (ns p) 5) (fun p => cutf 2 (fs p)) 0)))))), (9, .own 9), (10, .d (.one (.v (.int .i64 ((0 : Nat) : Int)))))]) (hp := [(4, .box 26 ([.v (.bool s1), lr 3 (xs1.take 3)])), (9, .row 23 1 0 (fun p _ => arow 2 ((fun p => min (ns p) 5) p) ((fun p => cutf 2 (fs p)) p)))]) rfl ⟨hs rfl, hs rfl, hs rfl, hs' rfl (le_qrow (by omega) (dg_zero (fun _ => rfl) _).symm (fun _ _ => rfl)), hs' rfl (le_qrow (Nat.le_refl _) (dg_cast (c := lst [1]) 1) (fun _ _ => rfl)), hs rfl, hs rfl, trivial⟩ ⟨ho rfl, ho' rfl (leo_row0), trivial⟩ rfl) ?_
  rintro i hI
  have hi : i ≤ 4 := hI
  show AW Try.prog _ _ ⟨86, [(0, .d (.one (.row 1 n (fun p _ => arow K (ns p) (fs p))))), (2, .d (.one (.row 1 nk (fun i _ => .v (.int .i64 (ck i)))))), (4, .ptr 4 0), (7, .d (.one (.row 4 (dg (sumc (fun p => min (ns p) 5) (fun p => cutf 2 (fs p)) i) 5) (qel (64 + 65 * i) (rc (sumc (fun p => min (ns p) 5) (fun p => cutf 2 (fs p)) i)))))), (8, .d (.one (.row 4 (dg (prodc (fun p => min (ns p) 5) (fun p => cutf 2 (fs p)) i) (i * 5 + 1)) (qel (KP i) (rc (prodc (fun p => min (ns p) 5) (fun p => cutf 2 (fs p)) i)))))), (9, .own 9), (10, .d (.one (.v (.int .i64 ((i : Nat) : Int)))))], [(4, .box 26 ([.v (.bool s1), lr 3 (xs1.take 3)])), (9, .row 23 1 i (fun p _ => arow 2 ((fun p => min (ns p) 5) p) ((fun p => cutf 2 (fs p)) p)))]⟩
  refine cSeq ?_
  refine cSeq ?_
  by_cases hin : i < n
  · skip
    refine cReg ?_
    refine mV hTT _ rfl ?_
    refine mV hTT _ rfl ?_
    refine mV hTT (.d (.one (.v (.int .i64 (n : Int))))) rfl ?_
    refine mV hTT (.d (.one (.v (.bool true)))) (evb (decide_eq_true (by omega))) ?_
    refine mV hTT _ rfl ?_
    refine mV hTT _ rfl ?_
    refine mV hTT (.d (.one (.v (.bool (decide (((i : Nat) : Int) < 4)))))) rfl ?_
    refine mV hTT _ rfl ?_
    refine mNil ?_
    refine tN ?_
    refine cCond rfl (fun hc1 => ?_) (fun hc1 => ?_)
    · skip
      refine cSkip ?_
      refine tN ?_
      refine cSeq ?_
      refine cBlock ?_
      refine cSeq ?_
      have hi3 : i < 4 := by have h0 := of_decide_eq_true hc1; omega
      have hKW := KP_le (i + 1) (by omega)
      have hK0 := KP_le i (by omega)
      obtain ⟨MM, hMM⟩ : ∃ MM, MM = (i * 5 + 1 + 1) * (KP i + 64 + 66) := ⟨_, rfl⟩
      have hKs : KP (i + 1) = MM + 70 := by rw [hMM]; rfl
      have hM64 : 130 ≤ MM := by rw [hMM]; exact Nat.le_trans (m := KP i + 64 + 66) (by omega) (Nat.le_mul_of_pos_left _ (by omega))
      have hd1 := dg_le (sumc (fun p => min (ns p) 5) (fun p => cutf 2 (fs p)) i) 5
      have hd2 := dg_le (cfz (min (ns i) 5) (cutf 2 (fs i))) (min (ns i) 5)
      have hd3 := dg_le (prodc (fun p => min (ns p) 5) (fun p => cutf 2 (fs p)) i) (i * 5 + 1)
      refine cReg ?_
      refine mV hTT _ rfl ?_
      refine mV hTT _ rfl ?_
      refine mV hTT (.d (.one (.at 1 ((fun p _ => arow K (ns p) (fs p)) i)))) (ixR (el := (fun p _ => arow K (ns p) (fs p))) (z := ((i : Nat) : Int)) (n := n) rfl rfl rfl rfl rfl rfl (by omega) (by omega)) ?_
      refine mV hTT (.d (.one (.row 2 (ns i) (ael K (fs i))))) rfl ?_
      refine mC0 (aCut (K := K) (n := (ns i)) (m := 5) (k := 2) (f := (fs i)) (M := 64) (by decide) (by decide) (by decide) (by omega)) rfl rfl rfl ?_
      refine mV hTT _ rfl ?_
      refine mV hTT _ rfl ?_
      refine mV hTT _ rfl ?_
      refine mV hTT _ rfl ?_
      refine mV hTT _ rfl ?_
      refine mNil ?_
      refine tN ?_
      refine cSeq ?_
      refine cReg ?_
      refine mV hTT _ rfl ?_
      refine mV hTT _ rfl ?_
      refine mB hTT (.d (.one (.row 1 1 (fun i' j' => (([.row 2 (min (ns i) 5) (ael 2 (cutf 2 (fs i)))])[i' * 1 + j']?).getD (.v undef))))) rfl ?_
      refine mA hTT (id := 9) (n := i) (m := 1) (el := (fun p _ => arow 2 ((fun p => min (ns p) 5) p) ((fun p => cutf 2 (fs p)) p))) (el2 := (fun i' j' => (([.row 2 (min (ns i) 5) (ael 2 (cutf 2 (fs i)))])[i' * 1 + j']?).getD (.v undef))) rfl rfl rfl (by show (i + 1) * 24 ≤ 140737488355328; omega) (by omega) rfl rfl rfl rfl rfl rfl rfl rfl rfl rfl ?_
      refine mV hTT _ rfl ?_
      refine mNil ?_
      refine tN ?_
      refine cReg ?_
      refine mV hTT _ rfl ?_
      refine mV hTT _ rfl ?_
      refine mC0 (aQAdd (isqp (K := (64 + 65 * i)) (c := (rc (sumc (fun p => min (ns p) 5) (fun p => cutf 2 (fs p)) i))) (rc_z (dg_z (sumc_z (fun p _ => Nat.min_le_right _ _))))) (isqp (K := 64) (c := (rc (cfz (min (ns i) 5) (cutf 2 (fs i))))) (rc_z (dg_z cfz_z))) (M := (max (((max (64 + 65 * i) 64) + 64) + 1) 64)) (by omega) (by omega) (by omega)) rfl rfl rfl ?_
      refine mV hTT _ rfl ?_
      refine mV hTT _ rfl ?_
      refine mC0 (aQMul (isqp (K := (KP i)) (c := (rc (prodc (fun p => min (ns p) 5) (fun p => cutf 2 (fs p)) i))) (rc_z (dg_z (prodc_z (fun p _ => Nat.min_le_right _ _))))) (isqp (K := 64) (c := (rc (cfz (min (ns i) 5) (cutf 2 (fs i))))) (rc_z (dg_z cfz_z))) (M := MM) (D := i * 5 + 1) (by omega) (by omega) (by rw [hMM]; exact Nat.le_refl _) (by omega) (by omega)) rfl rfl rfl ?_
      refine mV hTT _ rfl ?_
      refine mV hTT _ rfl ?_
      refine mNil ?_
      refine bN ?_
      refine tN ?_
      refine cReg ?_
      refine mV hTT _ rfl ?_
      refine mV hTT (.d (.one (.v (.int .i64 (IntKind.i64.wrap (((i : Nat) : Int) + 1)))))) rfl ?_
      refine mV hTT _ rfl ?_
      refine mNil ?_
      exact ⟨(i + 1), by omega, by omega, wk (sl := [(0, .d (.one (.row 1 n (fun p _ => arow K (ns p) (fs p))))), (2, .d (.one (.row 1 nk (fun i _ => .v (.int .i64 (ck i)))))), (4, .ptr 4 0), (7, .d (.one (.row 4 (dg (sumc (fun p => min (ns p) 5) (fun p => cutf 2 (fs p)) (i + 1)) 5) (qel (64 + 65 * (i + 1)) (rc (sumc (fun p => min (ns p) 5) (fun p => cutf 2 (fs p)) (i + 1))))))), (8, .d (.one (.row 4 (dg (prodc (fun p => min (ns p) 5) (fun p => cutf 2 (fs p)) (i + 1)) ((i + 1) * 5 + 1)) (qel (KP (i + 1)) (rc (prodc (fun p => min (ns p) 5) (fun p => cutf 2 (fs p)) (i + 1))))))), (9, .own 9), (10, .d (.one (.v (.int .i64 (((i + 1) : Nat) : Int)))))]) (hp := [(4, .box 26 ([.v (.bool s1), lr 3 (xs1.take 3)])), (9, .row 23 1 (i + 1) (fun p _ => arow 2 ((fun p => min (ns p) 5) p) ((fun p => cutf 2 (fs p)) p)))]) rfl ⟨hs rfl, hs rfl, hs rfl, hs' rfl (le_qrow (by omega) (len_add (fadd_z (dg_z (sumc_z (fun p _ => Nat.min_le_right _ _))) (dg_z cfz_z)) (sumc_z (i := i + 1) (fun p _ => Nat.min_le_right _ _))) (fun j _ => rc_add _ _ j)), hs' rfl (le_qrow (by omega) (len_conv (conv_z0 (dg_z (prodc_z (fun p _ => Nat.min_le_right _ _))) (dg_z cfz_z)) (prodc_z (i := i + 1) (fun p _ => Nat.min_le_right _ _))) (fun j _ => rc_conv _ _ j)), hs rfl, hs' rfl (le_int (inc64 (by omega))), trivial⟩ ⟨ho rfl, ho' rfl (app_r rfl), trivial⟩ rfl⟩
    · skip
      refine cExit ?_
      refine tE ?_
      refine tE ?_
      refine bE ?_
      refine tN ?_
      refine cSeq ?_
      refine AW.wk (wkRow 9 rfl) ?_
      have hK0 := KP_le i (by omega)
      have hd1 := dg_le (sumc (fun p => min (ns p) 5) (fun p => cutf 2 (fs p)) i) 5
      have hd3 := dg_le (prodc (fun p => min (ns p) 5) (fun p => cutf 2 (fs p)) i) (i * 5 + 1)
      have hd4 := dg_le (fscl (prodc (fun p => min (ns p) 5) (fun p => cutf 2 (fs p)) i) (zv s1 (val (xs1.take 3)))) (dg (prodc (fun p => min (ns p) 5) (fun p => cutf 2 (fs p)) i) (i * 5 + 1))
      have hd5 := dg_le (fun i => if i < (min nk 12) then ck i else 0) (min nk 12)
      refine cReg ?_
      refine mV hTT _ rfl ?_
      refine mV hTT _ rfl ?_
      refine mV hTT (.d (.one (.v (.int .i64 (nk : Int))))) rfl ?_
      refine mV hTT (.d (.one (.v (.int .i64 ((min nk 12 : Nat) : Int))))) (evi (minNN nk 12)) ?_
      refine mV hTT (.d (.one (.row 1 (min nk 12) (fun i _ => .v (.int .i64 (ck i)))))) (slR (z := ((min nk 12 : Nat) : Int)) (n := nk) rfl rfl rfl rfl rfl rfl (by omega) (by omega)) ?_
      refine mV hTT _ rfl ?_
      refine mNil ?_
      refine tN ?_
      refine cSeq ?_
      refine cReg ?_
      refine mV hTT (.d (.agg ([.v (.bool s1), lr 3 (xs1.take 3)]))) rfl ?_
      refine mC0 (aRFrom (iszr 3 s1 (xs1.take 3)) (M := 9) (by decide) (by decide)) rfl rfl rfl ?_
      refine mC0 (aROf (n := 1) (by decide) (by decide)) rfl rfl rfl ?_
      refine mC0 (aRMake (isr 9 (zv s1 (val (xs1.take 3)))) (isr 64 1) (M := 64) (by decide) (by decide)) rfl rfl rfl ?_
      refine mN hTT (.box 43 ([.v (.slice none 0 0), .v (.bool false), .v (.slice none 0 0), .v (.bool false)])) rfl rfl rfl ?_
      refine mS hTT 13 (.box 43 (qn 64 (mkR (zv s1 (val (xs1.take 3))) 1))) rfl ?_
      refine mNil ?_
      refine tN ?_
      refine cSeq ?_
      refine cDrawK hTT 31 (by kernel_rfl) (by kernel_rfl) ?_
      refine .cons (OpS.V _ rfl) ?_
      refine .cons (OpS.V _ rfl) ?_
      refine .cons (OpS.C0 (aPSum (K := 2) (n := i) (N := 5) (M := 2 + i) (ns := (fun p => min (ns p) 5)) (fs := (fun p => cutf 2 (fs p))) (fun p _ => Nat.min_le_right _ _) (by omega) (by omega) (by decide) (by omega)) rfl rfl rfl) ?_
      refine .cons (OpS.C0 (aIs (K := (64 + 65 * i)) (L := (2 + i)) (n := (dg (sumc (fun p => min (ns p) 5) (fun p => cutf 2 (fs p)) i) 5)) (m := (dg (sumc (fun p => min (ns p) 5) (fun p => cutf 2 (fs p)) i) 5)) (q := (rc (sumc (fun p => min (ns p) 5) (fun p => cutf 2 (fs p)) i))) (c := (sumc (fun p => min (ns p) 5) (fun p => cutf 2 (fs p)) i)) (fun _ _ _ h => h) (fun _ _ _ h => h) rfl (fun _ _ => rfl) (by omega) (by omega) (by omega)) rfl rfl rfl) ?_
      refine .cons (OpS.V _ rfl) ?_
      refine .cons (OpS.V _ rfl) ?_
      refine .cons (OpS.V _ rfl) ?_
      refine .cons (OpS.C0 (aPProd (K := 2) (n := i) (N := 5) (D := 21) (T := 21003) (M := 84014) (ns := (fun p => min (ns p) 5)) (fs := (fun p => cutf 2 (fs p))) (fun p _ => Nat.min_le_right _ _) (by omega) (by decide) (by omega) (by decide) (by decide) (by omega) (by decide)) rfl rfl rfl) ?_
      refine .cons (OpS.C0 (aIs (K := (KP i)) (L := 84014) (n := (dg (prodc (fun p => min (ns p) 5) (fun p => cutf 2 (fs p)) i) (i * 5 + 1))) (m := (dg (prodc (fun p => min (ns p) 5) (fun p => cutf 2 (fs p)) i) (i * 5 + 1))) (q := (rc (prodc (fun p => min (ns p) 5) (fun p => cutf 2 (fs p)) i))) (c := (prodc (fun p => min (ns p) 5) (fun p => cutf 2 (fs p)) i)) (fun _ _ _ h => h) (fun _ _ _ h => h) rfl (fun _ _ => rfl) (by omega) (by omega) (by omega)) rfl rfl rfl) ?_
      refine .cons (OpS.V _ rfl) ?_
      refine .cons (OpS.V _ rfl) ?_
      refine .cons (OpS.V _ rfl) ?_
      refine .cons (OpS.V (.d (.agg (qn 64 (mkR (zv s1 (val (xs1.take 3))) 1)))) rfl) ?_
      refine .cons (OpS.C0 (aQScale (isqp (K := (KP i)) (c := (rc (prodc (fun p => min (ns p) 5) (fun p => cutf 2 (fs p)) i))) (rc_z (dg_z (prodc_z (fun p _ => Nat.min_le_right _ _))))) (isq 64 (mkR (zv s1 (val (xs1.take 3))) 1)) (M := (max (((KP i) + 64) + 1) 64)) (by omega) (by omega) (by omega)) rfl rfl rfl) ?_
      refine .cons (OpS.V _ rfl) ?_
      refine .cons (OpS.C0 (aPProd (K := 2) (n := i) (N := 5) (D := 21) (T := 21003) (M := 84014) (ns := (fun p => min (ns p) 5)) (fs := (fun p => cutf 2 (fs p))) (fun p _ => Nat.min_le_right _ _) (by omega) (by decide) (by omega) (by decide) (by decide) (by omega) (by decide)) rfl rfl rfl) ?_
      refine .cons (OpS.V (.d (.agg ([.v (.bool s1), lr 3 (xs1.take 3)]))) rfl) ?_
      refine .cons (OpS.C0 (aPScale (isp (K := 84014) (c := (prodc (fun p => min (ns p) 5) (fun p => cutf 2 (fs p)) i)) (dg_z (prodc_z (fun p _ => Nat.min_le_right _ _)))) (iszr 3 s1 (xs1.take 3)) (M := 84017) (by decide) (by omega) (by decide)) rfl rfl rfl) ?_
      refine .cons (OpS.C0 (aIs (K := (max (((KP i) + 64) + 1) 64)) (L := 84017) (n := (dg (fsclQ (rc (prodc (fun p => min (ns p) 5) (fun p => cutf 2 (fs p)) i)) (mkR (zv s1 (val (xs1.take 3))) 1)) (dg (prodc (fun p => min (ns p) 5) (fun p => cutf 2 (fs p)) i) (i * 5 + 1)))) (m := (dg (fscl (prodc (fun p => min (ns p) 5) (fun p => cutf 2 (fs p)) i) (zv s1 (val (xs1.take 3)))) (dg (prodc (fun p => min (ns p) 5) (fun p => cutf 2 (fs p)) i) (i * 5 + 1)))) (q := (fsclQ (rc (prodc (fun p => min (ns p) 5) (fun p => cutf 2 (fs p)) i)) (mkR (zv s1 (val (xs1.take 3))) 1))) (c := (fscl (prodc (fun p => min (ns p) 5) (fun p => cutf 2 (fs p)) i) (zv s1 (val (xs1.take 3))))) (fun _ _ _ h => h) (fun _ _ _ h => h) len_scl (fun j _ => rc_scl _ _ j) (by omega) (by omega) (by omega)) rfl rfl rfl) ?_
      refine .cons (OpS.V _ rfl) ?_
      refine .cons (OpS.V _ rfl) ?_
      refine .cons (OpS.V _ rfl) ?_
      refine .cons (OpS.C0 (aQOf (isi_cut (n := (min nk 12)) (c := ck)) (fun i hi => by show _ ≤ (if i < min nk 12 then ck i else 0) ∧ (if i < min nk 12 then ck i else 0) ≤ _; rw [if_pos hi]; exact hb i (by omega)) (by omega)) rfl rfl rfl) ?_
      refine .cons (OpS.V _ rfl) ?_
      refine .cons (OpS.C0 (aPOf (isi_cut (n := (min nk 12)) (c := ck)) (fun i hi => by show _ ≤ (if i < min nk 12 then ck i else 0) ∧ (if i < min nk 12 then ck i else 0) ≤ _; rw [if_pos hi]; exact hb i (by omega)) (by omega)) rfl rfl rfl) ?_
      refine .cons (OpS.C0 (aIs (K := 64) (L := 2) (n := (dg (rc (fun i => if i < (min nk 12) then ck i else 0)) (min nk 12))) (m := (dg (fun i => if i < (min nk 12) then ck i else 0) (min nk 12))) (q := (rc (fun i => if i < (min nk 12) then ck i else 0))) (c := (fun i => if i < (min nk 12) then ck i else 0)) (fun _ _ _ h => h) (fun _ _ _ h => h) (dg_cast _) (fun _ _ => rfl) (by omega) (by omega) (by omega)) rfl rfl rfl) ?_
      refine .cons (OpS.V _ rfl) ?_
      refine .cons (OpS.V _ rfl) ?_
      refine .cons (OpS.C0 (aWakes) rfl rfl rfl) ?_
      refine .cons (OpS.V _ rfl) ?_
      refine .cons (OpS.V _ rfl) ?_
      refine .nil ?_
      refine mNil ?_
      refine tN ?_
      refine cRet ?_
      exact rQ rfl (AV.le.rfl)
  · skip
    refine cReg ?_
    refine mV hTT _ rfl ?_
    refine mV hTT _ rfl ?_
    refine mV hTT (.d (.one (.v (.int .i64 (n : Int))))) rfl ?_
    refine mV hTT (.d (.one (.v (.bool false)))) (evb (decide_eq_false (by omega))) ?_
    refine mV hTT _ rfl ?_
    refine mG rfl rfl ?_
    refine mG rfl rfl ?_
    refine mV hTT _ rfl ?_
    refine mNil ?_
    refine tN ?_
    refine cF rfl ?_
    refine cExit ?_
    refine tE ?_
    refine tE ?_
    refine bE ?_
    refine tN ?_
    refine cSeq ?_
    refine AW.wk (wkRow 9 rfl) ?_
    have hK0 := KP_le i (by omega)
    have hd1 := dg_le (sumc (fun p => min (ns p) 5) (fun p => cutf 2 (fs p)) i) 5
    have hd3 := dg_le (prodc (fun p => min (ns p) 5) (fun p => cutf 2 (fs p)) i) (i * 5 + 1)
    have hd4 := dg_le (fscl (prodc (fun p => min (ns p) 5) (fun p => cutf 2 (fs p)) i) (zv s1 (val (xs1.take 3)))) (dg (prodc (fun p => min (ns p) 5) (fun p => cutf 2 (fs p)) i) (i * 5 + 1))
    have hd5 := dg_le (fun i => if i < (min nk 12) then ck i else 0) (min nk 12)
    refine cReg ?_
    refine mV hTT _ rfl ?_
    refine mV hTT _ rfl ?_
    refine mV hTT (.d (.one (.v (.int .i64 (nk : Int))))) rfl ?_
    refine mV hTT (.d (.one (.v (.int .i64 ((min nk 12 : Nat) : Int))))) (evi (minNN nk 12)) ?_
    refine mV hTT (.d (.one (.row 1 (min nk 12) (fun i _ => .v (.int .i64 (ck i)))))) (slR (z := ((min nk 12 : Nat) : Int)) (n := nk) rfl rfl rfl rfl rfl rfl (by omega) (by omega)) ?_
    refine mV hTT _ rfl ?_
    refine mNil ?_
    refine tN ?_
    refine cSeq ?_
    refine cReg ?_
    refine mV hTT (.d (.agg ([.v (.bool s1), lr 3 (xs1.take 3)]))) rfl ?_
    refine mC0 (aRFrom (iszr 3 s1 (xs1.take 3)) (M := 9) (by decide) (by decide)) rfl rfl rfl ?_
    refine mC0 (aROf (n := 1) (by decide) (by decide)) rfl rfl rfl ?_
    refine mC0 (aRMake (isr 9 (zv s1 (val (xs1.take 3)))) (isr 64 1) (M := 64) (by decide) (by decide)) rfl rfl rfl ?_
    refine mN hTT (.box 43 ([.v (.slice none 0 0), .v (.bool false), .v (.slice none 0 0), .v (.bool false)])) rfl rfl rfl ?_
    refine mS hTT 13 (.box 43 (qn 64 (mkR (zv s1 (val (xs1.take 3))) 1))) rfl ?_
    refine mNil ?_
    refine tN ?_
    refine cSeq ?_
    refine cDrawK hTT 31 (by kernel_rfl) (by kernel_rfl) ?_
    refine .cons (OpS.V _ rfl) ?_
    refine .cons (OpS.V _ rfl) ?_
    refine .cons (OpS.C0 (aPSum (K := 2) (n := i) (N := 5) (M := 2 + i) (ns := (fun p => min (ns p) 5)) (fs := (fun p => cutf 2 (fs p))) (fun p _ => Nat.min_le_right _ _) (by omega) (by omega) (by decide) (by omega)) rfl rfl rfl) ?_
    refine .cons (OpS.C0 (aIs (K := (64 + 65 * i)) (L := (2 + i)) (n := (dg (sumc (fun p => min (ns p) 5) (fun p => cutf 2 (fs p)) i) 5)) (m := (dg (sumc (fun p => min (ns p) 5) (fun p => cutf 2 (fs p)) i) 5)) (q := (rc (sumc (fun p => min (ns p) 5) (fun p => cutf 2 (fs p)) i))) (c := (sumc (fun p => min (ns p) 5) (fun p => cutf 2 (fs p)) i)) (fun _ _ _ h => h) (fun _ _ _ h => h) rfl (fun _ _ => rfl) (by omega) (by omega) (by omega)) rfl rfl rfl) ?_
    refine .cons (OpS.V _ rfl) ?_
    refine .cons (OpS.V _ rfl) ?_
    refine .cons (OpS.V _ rfl) ?_
    refine .cons (OpS.C0 (aPProd (K := 2) (n := i) (N := 5) (D := 21) (T := 21003) (M := 84014) (ns := (fun p => min (ns p) 5)) (fs := (fun p => cutf 2 (fs p))) (fun p _ => Nat.min_le_right _ _) (by omega) (by decide) (by omega) (by decide) (by decide) (by omega) (by decide)) rfl rfl rfl) ?_
    refine .cons (OpS.C0 (aIs (K := (KP i)) (L := 84014) (n := (dg (prodc (fun p => min (ns p) 5) (fun p => cutf 2 (fs p)) i) (i * 5 + 1))) (m := (dg (prodc (fun p => min (ns p) 5) (fun p => cutf 2 (fs p)) i) (i * 5 + 1))) (q := (rc (prodc (fun p => min (ns p) 5) (fun p => cutf 2 (fs p)) i))) (c := (prodc (fun p => min (ns p) 5) (fun p => cutf 2 (fs p)) i)) (fun _ _ _ h => h) (fun _ _ _ h => h) rfl (fun _ _ => rfl) (by omega) (by omega) (by omega)) rfl rfl rfl) ?_
    refine .cons (OpS.V _ rfl) ?_
    refine .cons (OpS.V _ rfl) ?_
    refine .cons (OpS.V _ rfl) ?_
    refine .cons (OpS.V (.d (.agg (qn 64 (mkR (zv s1 (val (xs1.take 3))) 1)))) rfl) ?_
    refine .cons (OpS.C0 (aQScale (isqp (K := (KP i)) (c := (rc (prodc (fun p => min (ns p) 5) (fun p => cutf 2 (fs p)) i))) (rc_z (dg_z (prodc_z (fun p _ => Nat.min_le_right _ _))))) (isq 64 (mkR (zv s1 (val (xs1.take 3))) 1)) (M := (max (((KP i) + 64) + 1) 64)) (by omega) (by omega) (by omega)) rfl rfl rfl) ?_
    refine .cons (OpS.V _ rfl) ?_
    refine .cons (OpS.C0 (aPProd (K := 2) (n := i) (N := 5) (D := 21) (T := 21003) (M := 84014) (ns := (fun p => min (ns p) 5)) (fs := (fun p => cutf 2 (fs p))) (fun p _ => Nat.min_le_right _ _) (by omega) (by decide) (by omega) (by decide) (by decide) (by omega) (by decide)) rfl rfl rfl) ?_
    refine .cons (OpS.V (.d (.agg ([.v (.bool s1), lr 3 (xs1.take 3)]))) rfl) ?_
    refine .cons (OpS.C0 (aPScale (isp (K := 84014) (c := (prodc (fun p => min (ns p) 5) (fun p => cutf 2 (fs p)) i)) (dg_z (prodc_z (fun p _ => Nat.min_le_right _ _)))) (iszr 3 s1 (xs1.take 3)) (M := 84017) (by decide) (by omega) (by decide)) rfl rfl rfl) ?_
    refine .cons (OpS.C0 (aIs (K := (max (((KP i) + 64) + 1) 64)) (L := 84017) (n := (dg (fsclQ (rc (prodc (fun p => min (ns p) 5) (fun p => cutf 2 (fs p)) i)) (mkR (zv s1 (val (xs1.take 3))) 1)) (dg (prodc (fun p => min (ns p) 5) (fun p => cutf 2 (fs p)) i) (i * 5 + 1)))) (m := (dg (fscl (prodc (fun p => min (ns p) 5) (fun p => cutf 2 (fs p)) i) (zv s1 (val (xs1.take 3)))) (dg (prodc (fun p => min (ns p) 5) (fun p => cutf 2 (fs p)) i) (i * 5 + 1)))) (q := (fsclQ (rc (prodc (fun p => min (ns p) 5) (fun p => cutf 2 (fs p)) i)) (mkR (zv s1 (val (xs1.take 3))) 1))) (c := (fscl (prodc (fun p => min (ns p) 5) (fun p => cutf 2 (fs p)) i) (zv s1 (val (xs1.take 3))))) (fun _ _ _ h => h) (fun _ _ _ h => h) len_scl (fun j _ => rc_scl _ _ j) (by omega) (by omega) (by omega)) rfl rfl rfl) ?_
    refine .cons (OpS.V _ rfl) ?_
    refine .cons (OpS.V _ rfl) ?_
    refine .cons (OpS.V _ rfl) ?_
    refine .cons (OpS.C0 (aQOf (isi_cut (n := (min nk 12)) (c := ck)) (fun i hi => by show _ ≤ (if i < min nk 12 then ck i else 0) ∧ (if i < min nk 12 then ck i else 0) ≤ _; rw [if_pos hi]; exact hb i (by omega)) (by omega)) rfl rfl rfl) ?_
    refine .cons (OpS.V _ rfl) ?_
    refine .cons (OpS.C0 (aPOf (isi_cut (n := (min nk 12)) (c := ck)) (fun i hi => by show _ ≤ (if i < min nk 12 then ck i else 0) ∧ (if i < min nk 12 then ck i else 0) ≤ _; rw [if_pos hi]; exact hb i (by omega)) (by omega)) rfl rfl rfl) ?_
    refine .cons (OpS.C0 (aIs (K := 64) (L := 2) (n := (dg (rc (fun i => if i < (min nk 12) then ck i else 0)) (min nk 12))) (m := (dg (fun i => if i < (min nk 12) then ck i else 0) (min nk 12))) (q := (rc (fun i => if i < (min nk 12) then ck i else 0))) (c := (fun i => if i < (min nk 12) then ck i else 0)) (fun _ _ _ h => h) (fun _ _ _ h => h) (dg_cast _) (fun _ _ => rfl) (by omega) (by omega) (by omega)) rfl rfl rfl) ?_
    refine .cons (OpS.V _ rfl) ?_
    refine .cons (OpS.V _ rfl) ?_
    refine .cons (OpS.C0 (aWakes) rfl rfl rfl) ?_
    refine .cons (OpS.V _ rfl) ?_
    refine .cons (OpS.V _ rfl) ?_
    refine .nil ?_
    refine mNil ?_
    refine tN ?_
    refine cRet ?_
    exact rQ rfl (AV.le.rfl)

end Go.Proofs.Ytnnpjkalkfoolaa
