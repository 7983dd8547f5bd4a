/-
  THE LAWS of chapter 3, by the machine (1).
-/
import Derived.Test.YtoagihianelhjaaJ4
import Derived.Test.YtoagihianelhjaaJ5
import Derived.Test.YtoagihianelhjaaJ3
set_option linter.unusedVariables false
set_option linter.unusedSimpArgs false
namespace Go.Proofs.Ytoagihianelhjaa
open Go.RowKit

set_option maxRecDepth 100000 in
set_option maxHeartbeats 4000000 in
theorem aRToR {a : List Lf} {K : Nat} {q : Rat} (ha : IsQ a K q) (hK : K ≤ 10000000 := by decide) : ACall Try.prog 22 [.agg a] (.d (.agg (tn K q))) := by
  refine ACall.le (dl (DV.g ha) dl0) AV.le.rfl ?_
  refine acallN hTT 10 [.cell 2 46] Try.func22 rfl rfl rfl rfl rfl ?_
  refine cSeq ?_
  refine cReg ?_
  refine mN hTT (.box 49 (qn K q)) rfl rfl rfl ?_
  refine mN hTT (.box 46 ([.v (.bool false), .v (.slice none 0 0), .v (.bool false), .v (.slice none 0 0)])) rfl rfl rfl ?_
  refine mNil ?_
  refine tN ?_
  refine cSeq ?_
  refine cDrawK hTT 7 (by kernel_rfl) (by kernel_rfl) (by kernel_rfl) ?_
  refine .cons (OpS.V (.ptr 1 0) rfl) ?_
  refine .cons (OpS.V (.d (.agg (rn K (Rat.num q)))) rfl) ?_
  refine .cons (OpS.C0 (aRTo (isr K (Rat.num q)) (by omega)) rfl rfl rfl) ?_
  refine .cons (OpS.V (.ptr 1 2) rfl) ?_
  refine .cons (OpS.V (.d (.agg (rn K (Rat.den q : Int)))) rfl) ?_
  refine .cons (OpS.C0 (aRTo (isr K (Rat.den q : Int)) (by omega)) rfl rfl rfl) ?_
  refine .cons (OpS.V (.d (.agg (zn K (Rat.num q) ++ zn K (Rat.den q : Int)))) rfl) ?_
  refine .nil ?_
  refine mS hTT 2 (.box 46 (zn K (Rat.num q) ++ zn K (Rat.den q : Int))) rfl ?_
  refine mNil ?_
  refine tN ?_
  refine cRet ?_
  exact rQ rfl (le_tn2 (Nat.le_refl _) (Nat.le_refl _) rfl rfl)

theorem t7_ok : okT ⟨#[45, 48, 48, 55]⟩ := by unfold okT okD; decide +kernel
theorem t7_v : pvl ⟨#[45, 48, 48, 55]⟩ = -7 := by decide +kernel
theorem aDP7 : ACall Try.prog 13 [.one (.v (.string ⟨#[45, 48, 48, 55]⟩))] (.tup [.agg (zn 1200 (-7)), .one (.v (.int .i64 0))]) := by
  have h := aDParse (b := ⟨#[45, 48, 48, 55]⟩) t7_ok
  rw [t7_v] at h
  exact h
theorem fr12 : frT (mkR 1 2) = ⟨#[49, 47, 50]⟩ := by
  have h1 : (mkR 1 2).num = 1 := by decide +kernel
  have h2 : (mkR 1 2).den = 2 := by decide +kernel
  unfold frT
  rw [h1, h2, if_neg (by decide)]
  refine bytes_ext (by decide +kernel) (by decide +kernel)
theorem aDPt {z : Int} (h : dlen z.natAbs ≤ 400) : ACall Try.prog 13 [.one (.v (.string (txt z)))] (.tup [.agg (zn 1200 z), .one (.v (.int .i64 0))]) := by
  have h1 := aDParse (okT_txt h)
  rw [pvl_txt] at h1
  exact h1
theorem aDPz {n : Nat} {z : Int} (h : (dgL z).length + n ≤ 400) : ACall Try.prog 13 [.one (.v (.string (ztx n z)))] (.tup [.agg (zn 1200 z), .one (.v (.int .i64 0))]) := by
  have h1 := aDParse (ztx_ok h)
  rw [ztx_pvl] at h1
  exact h1
theorem str_nn {b : ByteArray} (h : 0 < b.size) : (b.toList == (⟨#[]⟩ : ByteArray).toList) = false := by
  have h1 := str_ne h
  cases h2 : (b.toList == (⟨#[]⟩ : ByteArray).toList) with
  | false => rfl
  | true => rw [h2] at h1; cases h1
theorem txt_fst_neg {z : Int} (h : z < 0) : sb (txt z) 0 = 45 := by rw [txt_body, if_pos h, sb_fst]; rfl
theorem txt_fst_pos {z : Int} (h : ¬ z < 0) : 48 ≤ sb (txt z) 0 := by
  rw [txt_body, if_neg h]
  exact (dgL_dg z 0 (by rw [size_mkS]; exact dgL_pos z)).1
theorem txt_tail {z : Int} (h : z < 0) : (txt z).extract 1 (txt z).size = mkS (dgL z) := by
  have h1 := body_txt z
  unfold body at h1
  rw [isneg_txt, decide_eq_true h] at h1
  exact h1
theorem txt_pos (z : Int) : 0 < (txt z).size := by
  have := dgL_pos z
  unfold txt
  rw [size_mkS, txL_dg, List.length_append]; omega
theorem lr_fact {P : Program} {c : Code} {Q : Qs} {s : AS} {K : Nat} {sg : Bool} {xs : List Nat} (t : Nat) (h : lk s.sl t = some (.d (.agg [.v (.bool sg), lr K xs]))) (k : val xs < B32 ^ K → AW P c Q s) : AW P c Q s := by
  intro B0 w0 a w hd
  have hd' := hd
  obtain ⟨ρ, hc, hn, hdf, hs⟩ := hd'
  obtain ⟨v, h1, cs, rfl, hl⟩ := hs t _ h
  refine k ?_ B0 w0 a w hd
  match cs, hl with
  | [x, y], hl =>
    obtain ⟨_, h2, _⟩ := hl
    obtain ⟨a, n, c, rfl, hr, hK, _⟩ := lr_of h2
    exact lr_lt hr hK
set_option maxRecDepth 100000 in
set_option maxHeartbeats 4000000 in
theorem aWakes3 : ACall Try.prog 12 [] (.d (.one (.v (.bool true)))) := by
  refine acallN hTT 20 [.tmp 0] Try.func12 rfl rfl rfl rfl rfl ?_
  refine cSeq ?_
  refine cReg ?_
  refine mV hTT _ rfl ?_
  refine mNil ?_
  refine tN ?_
  refine cSeq ?_
  refine cReg ?_
  refine mC0 (aDP7) rfl rfl rfl ?_
  refine mV hTT _ rfl ?_
  refine mV hTT _ rfl ?_
  refine mV hTT _ rfl ?_
  refine mN hTT (.box 24 ([.v (.bool false), .v (.slice none 0 0)])) rfl rfl rfl ?_
  refine mS hTT 1 (.box 24 (zn 1200 (-7))) rfl ?_
  refine mV hTT _ rfl ?_
  refine mNil ?_
  refine tN ?_
  refine cSeq ?_
  refine cDrawK hTT 14 (by kernel_rfl) (by kernel_rfl) (by kernel_rfl) ?_
  refine .cons (OpS.V _ rfl) ?_
  refine .cons (OpS.V (.d (.one (.v (.bool true)))) rfl) ?_
  refine .cons (OpS.V _ rfl) ?_
  refine .cons (OpS.C0 (aROf (n := (-7)) (by decide) (by decide)) rfl rfl rfl) ?_
  refine .cons (OpS.V (.d (.agg (zn 1200 (-7)))) rfl) ?_
  refine .cons (OpS.C0 (aRSame (isr 64 (-7)) (isn 1200 (-7)) (by decide) (by decide)) rfl rfl rfl) ?_
  refine .cons (OpS.V _ rfl) ?_
  refine .cons (OpS.V _ rfl) ?_
  refine .cons (OpS.C0 (aROfR (n := 1) (d := 2) (by decide) (by decide) (by decide) (by decide)) rfl rfl rfl) ?_
  refine .cons (OpS.C0 (aRToR (isq 64 (mkR 1 2)) (by decide)) rfl rfl rfl) ?_
  refine .cons (OpS.C0 (aDFrac (istn 64 (mkR 1 2)) (by decide)) rfl rfl rfl) ?_
  refine .cons (OpS.V (.d (.one (.v (.bool true)))) (evb (by rw [fr12]; exact beq_self_eq_true _))) ?_
  refine .cons (OpS.V _ rfl) ?_
  refine .cons (OpS.V _ rfl) ?_
  refine .nil ?_
  refine mNil ?_
  refine tN ?_
  refine cRet ?_
  exact rQ rfl (AV.le.rfl)

set_option maxRecDepth 100000 in
set_option maxHeartbeats 4000000 in
theorem aDigitsParses {b : ByteArray} : ACall Try.prog 4 [.one (.v (.string b))] (.d (.one (.v (.bool true)))) := by
  refine acallN hTT 47 [.tmp 2] Try.func4 rfl rfl rfl rfl rfl ?_
  refine cSeq ?_
  refine cReg ?_
  refine mV hTT _ rfl ?_
  refine mNil ?_
  refine tN ?_
  refine cSeq ?_
  refine cSeq ?_
  by_cases hL : 450 < ByteArray.size b
  · skip
    refine cReg ?_
    refine mV hTT _ rfl ?_
    refine mX (.d (.one (.v (.int .i64 (ByteArray.size b : Int))))) (xLen (b := b) rfl rfl rfl rfl Try.underlying9 rfl) ?_
    refine mV hTT (.d (.one (.v (.bool true)))) (evb (decide_eq_true (by omega))) ?_
    refine mNil ?_
    refine tN ?_
    refine cT rfl ?_
    refine cSeq ?_
    refine cReg ?_
    refine mC0 (aWakes3) rfl rfl rfl ?_
    refine mV hTT _ rfl ?_
    refine mNil ?_
    refine tN ?_
    refine cRet ?_
    refine tR ?_
    exact rQ rfl (AV.le.rfl)
  · skip
    refine cReg ?_
    refine mV hTT _ rfl ?_
    refine mX (.d (.one (.v (.int .i64 (ByteArray.size b : Int))))) (xLen (b := b) rfl rfl rfl rfl Try.underlying9 rfl) ?_
    refine mV hTT (.d (.one (.v (.bool false)))) (evb (decide_eq_false (by omega))) ?_
    refine mNil ?_
    refine tN ?_
    refine cF rfl ?_
    refine cSkip ?_
    refine tN ?_
    refine cSeq ?_
    by_cases hok : okT b
    · skip
      refine cReg ?_
      refine mV hTT _ rfl ?_
      refine mC0 (aDParse (b := b) hok) rfl rfl rfl ?_
      refine mV hTT _ rfl ?_
      refine mV hTT _ rfl ?_
      refine mV hTT _ rfl ?_
      refine mN hTT (.box 24 ([.v (.bool false), .v (.slice none 0 0)])) rfl rfl rfl ?_
      refine mS hTT 3 (.box 24 (zn 1200 (pvl b))) rfl ?_
      refine mV hTT _ rfl ?_
      refine mNil ?_
      refine tN ?_
      refine cSeq ?_
      refine cReg ?_
      refine mV hTT _ rfl ?_
      refine mC0 (aRParse (b := b) hok) rfl rfl rfl ?_
      refine mV hTT _ rfl ?_
      refine mV hTT _ rfl ?_
      refine mV hTT _ rfl ?_
      refine mN hTT (.box 31 ([.v (.slice none 0 0), .v (.bool false)])) rfl rfl rfl ?_
      refine mS hTT 5 (.box 31 (rn 401 (pvl b))) rfl ?_
      refine mV hTT _ rfl ?_
      refine mNil ?_
      refine tN ?_
      refine cSeq ?_
      refine cSeq ?_
      refine cReg ?_
      refine mV hTT _ rfl ?_
      refine mV hTT (.d (.one (.v (.bool false)))) rfl ?_
      refine mNil ?_
      refine tN ?_
      refine cF rfl ?_
      refine cSkip ?_
      refine tN ?_
      refine cSeq ?_
      refine cReg ?_
      refine mV hTT _ rfl ?_
      refine mV hTT (.d (.one (.v (.bool true)))) rfl ?_
      refine mV hTT _ rfl ?_
      refine mV hTT (.d (.agg (rn 401 (pvl b)))) rfl ?_
      refine mV hTT (.d (.agg (zn 1200 (pvl b)))) rfl ?_
      refine mC0 (aRSame (isr 401 (pvl b)) (isn 1200 (pvl b)) (by decide) (by decide)) rfl rfl rfl ?_
      refine mV hTT _ rfl ?_
      refine mV hTT _ rfl ?_
      refine mC0 (aWakes3) rfl rfl rfl ?_
      refine mV hTT _ rfl ?_
      refine mV hTT _ rfl ?_
      refine mNil ?_
      refine tN ?_
      refine cRet ?_
      exact rQ rfl (AV.le.rfl)
    · skip
      refine cReg ?_
      refine mV hTT _ rfl ?_
      refine mC0 (aDBad (b := b) hok) rfl rfl rfl ?_
      refine mV hTT _ rfl ?_
      refine mV hTT _ rfl ?_
      refine mV hTT _ rfl ?_
      refine mN hTT (.box 24 ([.v (.bool false), .v (.slice none 0 0)])) rfl rfl rfl ?_
      refine mS hTT 3 (.box 24 ([.v (.bool false), .v (.slice none 0 0)])) rfl ?_
      refine mV hTT _ rfl ?_
      refine mNil ?_
      refine tN ?_
      refine cSeq ?_
      refine cReg ?_
      refine mV hTT _ rfl ?_
      refine mC0 (aRBad (b := b) hok) rfl rfl rfl ?_
      refine mV hTT _ rfl ?_
      refine mV hTT _ rfl ?_
      refine mV hTT _ rfl ?_
      refine mN hTT (.box 31 ([.v (.slice none 0 0), .v (.bool false)])) rfl rfl rfl ?_
      refine mS hTT 5 (.box 31 ([.v (.slice none 0 0), .v (.bool false)])) rfl ?_
      refine mV hTT _ rfl ?_
      refine mNil ?_
      refine tN ?_
      refine cSeq ?_
      refine cSeq ?_
      refine cReg ?_
      refine mV hTT _ rfl ?_
      refine mV hTT (.d (.one (.v (.bool true)))) rfl ?_
      refine mNil ?_
      refine tN ?_
      refine cT rfl ?_
      refine cSeq ?_
      refine cReg ?_
      refine mV hTT _ rfl ?_
      refine mV hTT (.d (.one (.v (.bool true)))) rfl ?_
      refine mV hTT _ rfl ?_
      refine mV hTT (.d (.agg ([.v (.bool false), .v (.slice none 0 0)]))) rfl ?_
      refine mC0 (aZero isn_nil) rfl rfl rfl ?_
      refine mView 27 (.d (.one (.v (.bool true)))) rfl (le_bool (decide_eq_true rfl)) ?_
      refine mV hTT _ rfl ?_
      refine mV hTT _ rfl ?_
      refine mV hTT (.ptr 3 0) rfl ?_
      refine mV hTT (.d (.one (.v (.bool false)))) rfl ?_
      refine mV hTT (.d (.one (.v (.bool true)))) rfl ?_
      refine mV hTT _ rfl ?_
      refine mV hTT _ rfl ?_
      refine mC0 (aWakes3) rfl rfl rfl ?_
      refine mV hTT _ rfl ?_
      refine mV hTT _ rfl ?_
      refine mNil ?_
      refine tN ?_
      refine cRet ?_
      refine tR ?_
      exact rQ rfl (AV.le.rfl)

set_option maxRecDepth 100000 in
set_option maxHeartbeats 4000000 in
theorem aDigitsBack {L1 : Nat} {s1 : Bool} {xs1 : List Nat} {v : Int} (hL1 : L1 ≤ 9223372036854775807) (hv1 : -9223372036854775808 ≤ v) (hv2 : v ≤ 9223372036854775807) : ACall Try.prog 5 [.agg [.v (.bool s1), lr L1 xs1], .one (.v (.int .i64 v))] (.d (.one (.v (.bool true)))) := by
  refine acallN hTT 73 [.tmp 4] Try.func5 rfl rfl rfl rfl rfl ?_
  refine cSeq ?_
  refine cReg ?_
  refine mN hTT (.box 24 ([.v (.bool s1), lr L1 xs1])) rfl rfl rfl ?_
  refine mV hTT _ rfl ?_
  refine mNil ?_
  refine tN ?_
  refine cSeq ?_
  refine cReg ?_
  refine mV hTT (.d (.agg ([.v (.bool s1), lr L1 xs1]))) rfl ?_
  refine mC0 (aKInt (K := L1) (k := 20) (s := s1) (xs := xs1) (by omega) (by omega)) rfl rfl rfl ?_
  refine mS hTT 2 (.box 24 ([.v (.bool s1), lr 20 (xs1.take 20)])) rfl ?_
  refine mNil ?_
  refine tN ?_
  refine cSeq ?_
  refine lr_fact (K := 20) (xs := (xs1.take 20)) 13 rfl (fun hbd => ?_)
  have hdl : dlen (Int.natAbs (zv s1 (val (xs1.take 20)))) ≤ 200 := dlen_K (show Int.natAbs (zv s1 (val (xs1.take 20))) < B32 ^ 20 by rw [zv_abs]; exact hbd)
  have hgl : (dgL (zv s1 (val (xs1.take 20)))).length ≤ 200 := by have := dlen_pos (m := Int.natAbs (zv s1 (val (xs1.take 20)))); rw [dgL_len]; split <;> omega
  have htx := txt_pos (zv s1 (val (xs1.take 20)))
  refine cReg ?_
  refine mV hTT (.d (.agg ([.v (.bool s1), lr 20 (xs1.take 20)]))) rfl ?_
  refine mC0 (aDText (iszr 20 s1 (xs1.take 20)) (by decide)) rfl rfl rfl ?_
  refine mV hTT _ rfl ?_
  refine mNil ?_
  refine tN ?_
  refine cSeq ?_
  refine cSeq ?_
  refine cReg ?_
  refine mV hTT _ rfl ?_
  refine mV hTT (.d (.one (.v (.bool false)))) (evb (str_nn htx)) ?_
  refine mNil ?_
  refine tN ?_
  refine cF rfl ?_
  refine cSkip ?_
  refine tN ?_
  refine cSeq ?_
  refine cReg ?_
  refine mV hTT _ rfl ?_
  refine mV hTT _ rfl ?_
  refine mNil ?_
  refine tN ?_
  refine cSeq ?_
  refine cSeq ?_
  by_cases hng : (zv s1 (val (xs1.take 20))) < 0
  · skip
    refine cReg ?_
    refine mV hTT _ rfl ?_
    refine mX (.d (.one (.v (.int .u8 (sb (txt (zv s1 (val (xs1.take 20)))) 0 : Int))))) (xIx (b := (txt (zv s1 (val (xs1.take 20))))) (z := 0) rfl Try.underlying9 rfl rfl (by decide) (by omega)) ?_
    refine mV hTT (.d (.one (.v (.bool true)))) (evb (by rw [txt_fst_neg hng]; rfl)) ?_
    refine mNil ?_
    refine tN ?_
    refine cT rfl ?_
    refine cReg ?_
    refine mV hTT _ rfl ?_
    refine mX (.d (.one (.v (.string (ByteArray.extract (txt (zv s1 (val (xs1.take 20)))) 1 (ByteArray.size (txt (zv s1 (val (xs1.take 20)))))))))) (xSl (b := (txt (zv s1 (val (xs1.take 20))))) (l' := 1) (h' := (ByteArray.size (txt (zv s1 (val (xs1.take 20)))))) rfl Try.underlying9 rfl rfl rfl (by omega) (Nat.le_refl _)) ?_
    refine mV hTT _ rfl ?_
    refine mNil ?_
    refine tN ?_
    refine cSeq ?_
    refine cSeq ?_
    refine cView 6 (.d (.one (.v (.string (zpre 0 (mkS (dgL (zv s1 (val (xs1.take 20)))))))))) rfl (le_str (txt_tail hng)) ?_
    refine cReg ?_
    refine mV hTT _ rfl ?_
    refine mC0 (aWithin (v := v) (n := 30) (by decide) (by decide) hv1 hv2) rfl rfl rfl ?_
    refine mV hTT _ rfl ?_
    refine mNil ?_
    refine tN ?_
    refine cBlock ?_
    refine cLoop (ι := Nat × Nat) (fun (p : Nat × Nat) => match p with | (i, r) => ⟨73, [(2, .ptr 2 0), (4, .d (.one (.v (.bool false)))), (5, .d (.one (.v (.string (txt (zv s1 (val (xs1.take 20)))))))), (6, .d (.one (.v (.string (zpre i (mkS (dgL (zv s1 (val (xs1.take 20)))))))))), (7, .d (.one (.v (.int .i64 ((r : Nat) : Int)))))], [(2, .box 24 ([.v (.bool s1), lr 20 (xs1.take 20)]))]⟩) (fun (p : Nat × Nat) => match p with | (i, r) => i + r ≤ 29) (fun (p : Nat × Nat) => match p with | (i, r) => r) (0, (v % 30).toNat) (by omega) (wk (sl := [(2, .ptr 2 0), (4, .d (.one (.v (.bool false)))), (5, .d (.one (.v (.string (txt (zv s1 (val (xs1.take 20)))))))), (6, .d (.one (.v (.string (zpre 0 (mkS (dgL (zv s1 (val (xs1.take 20)))))))))), (7, .d (.one (.v (.int .i64 (((v % 30).toNat : Nat) : Int)))))]) (hp := [(2, .box 24 ([.v (.bool s1), lr 20 (xs1.take 20)]))]) rfl ⟨hs rfl, hs rfl, hs rfl, hs rfl, hs' rfl (le_int (by omega)), trivial⟩ ⟨ho rfl, trivial⟩ rfl) ?_
    rintro ⟨i, r⟩ hI
    have hir : i + r ≤ 29 := hI
    show AW Try.prog _ _ ⟨73, [(2, .ptr 2 0), (4, .d (.one (.v (.bool false)))), (5, .d (.one (.v (.string (txt (zv s1 (val (xs1.take 20)))))))), (6, .d (.one (.v (.string (zpre i (mkS (dgL (zv s1 (val (xs1.take 20)))))))))), (7, .d (.one (.v (.int .i64 ((r : Nat) : Int)))))], [(2, .box 24 ([.v (.bool s1), lr 20 (xs1.take 20)]))]⟩
    refine cSeq ?_
    refine cSeq ?_
    refine cReg ?_
    refine mV hTT _ rfl ?_
    refine mV hTT (.d (.one (.v (.bool (decide (((r : Nat) : Int) > 0)))))) rfl ?_
    refine mNil ?_
    refine tN ?_
    refine cCond rfl (fun hc1 => ?_) (fun hc1 => ?_)
    · skip
      refine cSkip ?_
      refine tN ?_
      refine cSeq ?_
      refine cBlock ?_
      have hr : 0 < r := by have h0 := of_decide_eq_true hc1; omega
      refine cReg ?_
      refine mV hTT _ rfl ?_
      refine mV hTT (.d (.one (.v (.string (zpre (i + 1) (mkS (dgL (zv s1 (val (xs1.take 20)))))))))) (evcat rfl rfl rfl (by rw [zpre_size, size_mkS]; show 1 + _ ≤ _; omega)) ?_
      refine mV hTT _ rfl ?_
      refine mNil ?_
      refine bN ?_
      refine tN ?_
      refine cReg ?_
      refine mV hTT _ rfl ?_
      refine mV hTT (.d (.one (.v (.int .i64 ((r - 1 : Nat) : Int))))) (evi ((wr64 (by omega) (by omega)).trans (by omega))) ?_
      refine mV hTT _ rfl ?_
      refine mNil ?_
      exact ⟨((i + 1), (r - 1)), by omega, by show r - 1 < r; omega, wk (sl := [(2, .ptr 2 0), (4, .d (.one (.v (.bool false)))), (5, .d (.one (.v (.string (txt (zv s1 (val (xs1.take 20)))))))), (6, .d (.one (.v (.string (zpre (i + 1) (mkS (dgL (zv s1 (val (xs1.take 20)))))))))), (7, .d (.one (.v (.int .i64 (((r - 1) : Nat) : Int)))))]) (hp := [(2, .box 24 ([.v (.bool s1), lr 20 (xs1.take 20)]))]) rfl ⟨hs rfl, hs rfl, hs rfl, hs rfl, hs rfl, trivial⟩ ⟨ho rfl, trivial⟩ rfl⟩
    · skip
      refine cExit ?_
      refine tE ?_
      refine tE ?_
      refine bE ?_
      refine tN ?_
      refine cSeq ?_
      refine cSeq ?_
      refine cReg ?_
      refine mV hTT _ rfl ?_
      refine mX (.d (.one (.v (.int .u8 (sb (txt (zv s1 (val (xs1.take 20)))) 0 : Int))))) (xIx (b := (txt (zv s1 (val (xs1.take 20))))) (z := 0) rfl Try.underlying9 rfl rfl (by decide) (by omega)) ?_
      refine mV hTT (.d (.one (.v (.bool true)))) (evb (by rw [txt_fst_neg hng]; rfl)) ?_
      refine mNil ?_
      refine tN ?_
      refine cT rfl ?_
      refine cReg ?_
      refine mV hTT _ rfl ?_
      refine mV hTT (.d (.one (.v (.string (⟨#[45]⟩ ++ (zpre i (mkS (dgL (zv s1 (val (xs1.take 20))))))))))) (evcat rfl rfl rfl (by rw [zpre_size, size_mkS]; show 1 + _ ≤ _; omega)) ?_
      refine mV hTT _ rfl ?_
      refine mNil ?_
      refine tN ?_
      refine cSeq ?_
      refine cView 6 (.d (.one (.v (.string (ztx i (zv s1 (val (xs1.take 20)))))))) rfl (le_str (by unfold ztx; rw [if_pos hng])) ?_
      refine cReg ?_
      refine mV hTT _ rfl ?_
      refine mC0 (aDPz (n := i) (z := (zv s1 (val (xs1.take 20)))) (by omega)) rfl rfl rfl ?_
      refine mV hTT _ rfl ?_
      refine mV hTT _ rfl ?_
      refine mV hTT _ rfl ?_
      refine mN hTT (.box 24 ([.v (.bool false), .v (.slice none 0 0)])) rfl rfl rfl ?_
      refine mS hTT 8 (.box 24 (zn 1200 (zv s1 (val (xs1.take 20))))) rfl ?_
      refine mV hTT _ rfl ?_
      refine mNil ?_
      refine tN ?_
      refine cSeq ?_
      refine cReg ?_
      refine mV hTT _ rfl ?_
      refine mC0 (aDPt (z := (zv s1 (val (xs1.take 20)))) (by omega)) rfl rfl rfl ?_
      refine mV hTT _ rfl ?_
      refine mV hTT _ rfl ?_
      refine mV hTT _ rfl ?_
      refine mN hTT (.box 24 ([.v (.bool false), .v (.slice none 0 0)])) rfl rfl rfl ?_
      refine mS hTT 10 (.box 24 (zn 1200 (zv s1 (val (xs1.take 20))))) rfl ?_
      refine mV hTT _ rfl ?_
      refine mNil ?_
      refine tN ?_
      refine cSeq ?_
      refine cDrawK hTT 27 (by kernel_rfl) (by kernel_rfl) (by kernel_rfl) ?_
      refine .cons (OpS.V _ rfl) ?_
      refine .cons (OpS.V (.d (.one (.v (.bool true)))) rfl) ?_
      refine .cons (OpS.V _ rfl) ?_
      refine .cons (OpS.V _ rfl) ?_
      refine .cons (OpS.V (.d (.one (.v (.bool true)))) rfl) ?_
      refine .cons (OpS.V _ rfl) ?_
      refine .cons (OpS.V _ rfl) ?_
      refine .cons (OpS.V (.d (.agg (zn 1200 (zv s1 (val (xs1.take 20)))))) rfl) ?_
      refine .cons (OpS.V (.d (.agg (zn 1200 (zv s1 (val (xs1.take 20)))))) rfl) ?_
      refine .cons (OpS.C0 (aSameZ (K := 1200) (L := 1200) (x := (zv s1 (val (xs1.take 20)))) (y := (zv s1 (val (xs1.take 20)))) rfl (by decide) (by decide)) rfl rfl rfl) ?_
      refine .cons (OpS.V _ rfl) ?_
      refine .cons (OpS.V _ rfl) ?_
      refine .cons (OpS.V (.d (.agg ([.v (.bool s1), lr 20 (xs1.take 20)]))) rfl) ?_
      refine .cons (OpS.C0 (aRFrom (iszr 20 s1 (xs1.take 20)) (M := 60) (by decide) (by decide)) rfl rfl rfl) ?_
      refine .cons (OpS.V (.d (.agg (zn 1200 (zv s1 (val (xs1.take 20)))))) rfl) ?_
      refine .cons (OpS.C0 (aRSame (isr 60 (zv s1 (val (xs1.take 20)))) (isn 1200 (zv s1 (val (xs1.take 20)))) (by decide) (by decide)) rfl rfl rfl) ?_
      refine .cons (OpS.V _ rfl) ?_
      refine .cons (OpS.V _ rfl) ?_
      refine .cons (OpS.V (.d (.agg (zn 1200 (zv s1 (val (xs1.take 20)))))) rfl) ?_
      refine .cons (OpS.C0 (aDText (isz 1200 (zv s1 (val (xs1.take 20)))) (by decide)) rfl rfl rfl) ?_
      refine .cons (OpS.V _ rfl) ?_
      refine .cons (OpS.V (.d (.one (.v (.bool true)))) (evb (beq_self_eq_true _))) ?_
      refine .cons (OpS.V _ rfl) ?_
      refine .cons (OpS.V _ rfl) ?_
      refine .cons (OpS.C0 (aWakes3) rfl rfl rfl) ?_
      refine .cons (OpS.V _ rfl) ?_
      refine .cons (OpS.V _ rfl) ?_
      refine .nil ?_
      refine mNil ?_
      refine tN ?_
      refine cRet ?_
      exact rQ rfl (AV.le.rfl)
  · skip
    refine cReg ?_
    refine mV hTT _ rfl ?_
    refine mX (.d (.one (.v (.int .u8 (sb (txt (zv s1 (val (xs1.take 20)))) 0 : Int))))) (xIx (b := (txt (zv s1 (val (xs1.take 20))))) (z := 0) rfl Try.underlying9 rfl rfl (by decide) (by omega)) ?_
    refine mV hTT (.d (.one (.v (.bool false)))) (evb (beq_eq_false_iff_ne.2 fun e => by have := txt_fst_pos hng; omega)) ?_
    refine mNil ?_
    refine tN ?_
    refine cF rfl ?_
    refine cSkip ?_
    refine tN ?_
    refine cSeq ?_
    refine cSeq ?_
    refine cView 6 (.d (.one (.v (.string (zpre 0 (mkS (dgL (zv s1 (val (xs1.take 20)))))))))) rfl (le_str (by rw [txt_body, if_neg hng]; rfl)) ?_
    refine cReg ?_
    refine mV hTT _ rfl ?_
    refine mC0 (aWithin (v := v) (n := 30) (by decide) (by decide) hv1 hv2) rfl rfl rfl ?_
    refine mV hTT _ rfl ?_
    refine mNil ?_
    refine tN ?_
    refine cBlock ?_
    refine cLoop (ι := Nat × Nat) (fun (p : Nat × Nat) => match p with | (i, r) => ⟨73, [(2, .ptr 2 0), (4, .d (.one (.v (.bool false)))), (5, .d (.one (.v (.string (txt (zv s1 (val (xs1.take 20)))))))), (6, .d (.one (.v (.string (zpre i (mkS (dgL (zv s1 (val (xs1.take 20)))))))))), (7, .d (.one (.v (.int .i64 ((r : Nat) : Int)))))], [(2, .box 24 ([.v (.bool s1), lr 20 (xs1.take 20)]))]⟩) (fun (p : Nat × Nat) => match p with | (i, r) => i + r ≤ 29) (fun (p : Nat × Nat) => match p with | (i, r) => r) (0, (v % 30).toNat) (by omega) (wk (sl := [(2, .ptr 2 0), (4, .d (.one (.v (.bool false)))), (5, .d (.one (.v (.string (txt (zv s1 (val (xs1.take 20)))))))), (6, .d (.one (.v (.string (zpre 0 (mkS (dgL (zv s1 (val (xs1.take 20)))))))))), (7, .d (.one (.v (.int .i64 (((v % 30).toNat : Nat) : Int)))))]) (hp := [(2, .box 24 ([.v (.bool s1), lr 20 (xs1.take 20)]))]) rfl ⟨hs rfl, hs rfl, hs rfl, hs rfl, hs' rfl (le_int (by omega)), trivial⟩ ⟨ho rfl, trivial⟩ rfl) ?_
    rintro ⟨i, r⟩ hI
    have hir : i + r ≤ 29 := hI
    show AW Try.prog _ _ ⟨73, [(2, .ptr 2 0), (4, .d (.one (.v (.bool false)))), (5, .d (.one (.v (.string (txt (zv s1 (val (xs1.take 20)))))))), (6, .d (.one (.v (.string (zpre i (mkS (dgL (zv s1 (val (xs1.take 20)))))))))), (7, .d (.one (.v (.int .i64 ((r : Nat) : Int)))))], [(2, .box 24 ([.v (.bool s1), lr 20 (xs1.take 20)]))]⟩
    refine cSeq ?_
    refine cSeq ?_
    refine cReg ?_
    refine mV hTT _ rfl ?_
    refine mV hTT (.d (.one (.v (.bool (decide (((r : Nat) : Int) > 0)))))) rfl ?_
    refine mNil ?_
    refine tN ?_
    refine cCond rfl (fun hc2 => ?_) (fun hc2 => ?_)
    · skip
      refine cSkip ?_
      refine tN ?_
      refine cSeq ?_
      refine cBlock ?_
      have hr : 0 < r := by have h0 := of_decide_eq_true hc2; omega
      refine cReg ?_
      refine mV hTT _ rfl ?_
      refine mV hTT (.d (.one (.v (.string (zpre (i + 1) (mkS (dgL (zv s1 (val (xs1.take 20)))))))))) (evcat rfl rfl rfl (by rw [zpre_size, size_mkS]; show 1 + _ ≤ _; omega)) ?_
      refine mV hTT _ rfl ?_
      refine mNil ?_
      refine bN ?_
      refine tN ?_
      refine cReg ?_
      refine mV hTT _ rfl ?_
      refine mV hTT (.d (.one (.v (.int .i64 ((r - 1 : Nat) : Int))))) (evi ((wr64 (by omega) (by omega)).trans (by omega))) ?_
      refine mV hTT _ rfl ?_
      refine mNil ?_
      exact ⟨((i + 1), (r - 1)), by omega, by show r - 1 < r; omega, wk (sl := [(2, .ptr 2 0), (4, .d (.one (.v (.bool false)))), (5, .d (.one (.v (.string (txt (zv s1 (val (xs1.take 20)))))))), (6, .d (.one (.v (.string (zpre (i + 1) (mkS (dgL (zv s1 (val (xs1.take 20)))))))))), (7, .d (.one (.v (.int .i64 (((r - 1) : Nat) : Int)))))]) (hp := [(2, .box 24 ([.v (.bool s1), lr 20 (xs1.take 20)]))]) rfl ⟨hs rfl, hs rfl, hs rfl, hs rfl, hs rfl, trivial⟩ ⟨ho rfl, trivial⟩ rfl⟩
    · skip
      refine cExit ?_
      refine tE ?_
      refine tE ?_
      refine bE ?_
      refine tN ?_
      refine cSeq ?_
      refine cSeq ?_
      refine cReg ?_
      refine mV hTT _ rfl ?_
      refine mX (.d (.one (.v (.int .u8 (sb (txt (zv s1 (val (xs1.take 20)))) 0 : Int))))) (xIx (b := (txt (zv s1 (val (xs1.take 20))))) (z := 0) rfl Try.underlying9 rfl rfl (by decide) (by omega)) ?_
      refine mV hTT (.d (.one (.v (.bool false)))) (evb (beq_eq_false_iff_ne.2 fun e => by have := txt_fst_pos hng; omega)) ?_
      refine mNil ?_
      refine tN ?_
      refine cF rfl ?_
      refine cSkip ?_
      refine tN ?_
      refine cSeq ?_
      refine cView 6 (.d (.one (.v (.string (ztx i (zv s1 (val (xs1.take 20)))))))) rfl (le_str (by unfold ztx; rw [if_neg hng])) ?_
      refine cReg ?_
      refine mV hTT _ rfl ?_
      refine mC0 (aDPz (n := i) (z := (zv s1 (val (xs1.take 20)))) (by omega)) rfl rfl rfl ?_
      refine mV hTT _ rfl ?_
      refine mV hTT _ rfl ?_
      refine mV hTT _ rfl ?_
      refine mN hTT (.box 24 ([.v (.bool false), .v (.slice none 0 0)])) rfl rfl rfl ?_
      refine mS hTT 8 (.box 24 (zn 1200 (zv s1 (val (xs1.take 20))))) rfl ?_
      refine mV hTT _ rfl ?_
      refine mNil ?_
      refine tN ?_
      refine cSeq ?_
      refine cReg ?_
      refine mV hTT _ rfl ?_
      refine mC0 (aDPt (z := (zv s1 (val (xs1.take 20)))) (by omega)) rfl rfl rfl ?_
      refine mV hTT _ rfl ?_
      refine mV hTT _ rfl ?_
      refine mV hTT _ rfl ?_
      refine mN hTT (.box 24 ([.v (.bool false), .v (.slice none 0 0)])) rfl rfl rfl ?_
      refine mS hTT 10 (.box 24 (zn 1200 (zv s1 (val (xs1.take 20))))) rfl ?_
      refine mV hTT _ rfl ?_
      refine mNil ?_
      refine tN ?_
      refine cSeq ?_
      refine cDrawK hTT 27 (by kernel_rfl) (by kernel_rfl) (by kernel_rfl) ?_
      refine .cons (OpS.V _ rfl) ?_
      refine .cons (OpS.V (.d (.one (.v (.bool true)))) rfl) ?_
      refine .cons (OpS.V _ rfl) ?_
      refine .cons (OpS.V _ rfl) ?_
      refine .cons (OpS.V (.d (.one (.v (.bool true)))) rfl) ?_
      refine .cons (OpS.V _ rfl) ?_
      refine .cons (OpS.V _ rfl) ?_
      refine .cons (OpS.V (.d (.agg (zn 1200 (zv s1 (val (xs1.take 20)))))) rfl) ?_
      refine .cons (OpS.V (.d (.agg (zn 1200 (zv s1 (val (xs1.take 20)))))) rfl) ?_
      refine .cons (OpS.C0 (aSameZ (K := 1200) (L := 1200) (x := (zv s1 (val (xs1.take 20)))) (y := (zv s1 (val (xs1.take 20)))) rfl (by decide) (by decide)) rfl rfl rfl) ?_
      refine .cons (OpS.V _ rfl) ?_
      refine .cons (OpS.V _ rfl) ?_
      refine .cons (OpS.V (.d (.agg ([.v (.bool s1), lr 20 (xs1.take 20)]))) rfl) ?_
      refine .cons (OpS.C0 (aRFrom (iszr 20 s1 (xs1.take 20)) (M := 60) (by decide) (by decide)) rfl rfl rfl) ?_
      refine .cons (OpS.V (.d (.agg (zn 1200 (zv s1 (val (xs1.take 20)))))) rfl) ?_
      refine .cons (OpS.C0 (aRSame (isr 60 (zv s1 (val (xs1.take 20)))) (isn 1200 (zv s1 (val (xs1.take 20)))) (by decide) (by decide)) rfl rfl rfl) ?_
      refine .cons (OpS.V _ rfl) ?_
      refine .cons (OpS.V _ rfl) ?_
      refine .cons (OpS.V (.d (.agg (zn 1200 (zv s1 (val (xs1.take 20)))))) rfl) ?_
      refine .cons (OpS.C0 (aDText (isz 1200 (zv s1 (val (xs1.take 20)))) (by decide)) rfl rfl rfl) ?_
      refine .cons (OpS.V _ rfl) ?_
      refine .cons (OpS.V (.d (.one (.v (.bool true)))) (evb (beq_self_eq_true _))) ?_
      refine .cons (OpS.V _ rfl) ?_
      refine .cons (OpS.V _ rfl) ?_
      refine .cons (OpS.C0 (aWakes3) rfl rfl rfl) ?_
      refine .cons (OpS.V _ rfl) ?_
      refine .cons (OpS.V _ rfl) ?_
      refine .nil ?_
      refine mNil ?_
      refine tN ?_
      refine cRet ?_
      exact rQ rfl (AV.le.rfl)

end Go.Proofs.Ytoagihianelhjaa

