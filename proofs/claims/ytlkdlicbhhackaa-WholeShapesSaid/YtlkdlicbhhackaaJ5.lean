/-
  WholeShapes by the machine.
-/
import Derived.Test.YtlkdlicbhhackaaJ3
import Derived.Test.YtlkdlicbhhackaaJ4
import Derived.Test.YtlkdlicbhhackaaJ0
import Derived.OpenShut
import Derived.Deep.Slices
import Derived.ChangeOld
import Derived.ChangeSame
import Derived.Lib.SmallJoins
set_option linter.unusedVariables false
set_option linter.unusedSimpArgs false
namespace Go.Proofs.Ytlkdlicbhhackaa
open Go.RowKit

theorem cFact {P : Program} {c : Code} {Q : Qs} {s : AS} {t K : Nat} {b : Bool} {xs : List Nat} (h : lk s.sl t = some (.d (.agg [.v (.bool b), lr K xs]))) (k : (∀ x ∈ xs, x < B32) → AW P c Q s) : AW P c Q s := by
  rintro B0 w0 a w hd
  obtain ⟨ρ, hc, hn, hdf, hs⟩ := hd
  obtain ⟨v, hv, cs, e, hl⟩ := hs t _ h
  match cs, hl with
  | [_, _], ⟨h1, h2, h3⟩ =>
    obtain ⟨a', n, cp, rfl, hr, _⟩ := lr_of h2
    exact k hr.lt B0 w0 a w ⟨ρ, hc, hn, hdf, hs⟩
theorem val_zeros (xs : List Nat) (k : Nat) : val (xs ++ List.replicate k 0) = val xs := valB_append_zeros _ _ _
theorem u32_zero : ∀ i, Try.prog.info? 55 = some i → i.zero = some (.int .u32 0) := fun i hi => by
  obtain ⟨i', h1, h2, _⟩ := info_parts Try.infoU32
  rw [h1] at hi
  cases hi
  exact h2
def c2 (x y : Int) : Nat → Int := fun i => if i = 0 then x else if i = 1 then y else 0
theorem ispC2 {s t : Bool} {xs ys : List Nat} {K L M : Nat} {x y : Int} (hx : zv s (val xs) = x) (hy : zv t (val ys) = y) (hK : K ≤ M := by decide) (hL : L ≤ M := by decide) : IsP (.row 2 2 (fun i' j' => (([.v (.bool s), lr K xs] ++ [.v (.bool t), lr L ys])[i' * 2 + j']?).getD (.v undef))) M 2 (c2 x y) := by
  refine ⟨⟨fun i => if i = 0 then (s, xs) else (t, ys), row_le ?_, ?_⟩, fun i hi => by unfold c2; rw [if_neg (by omega), if_neg (by omega)]⟩
  · intro i hi j hj B w v hv
    match i, hi, j, hj with
    | 0, _, 0, _ => exact hv
    | 0, _, 1, _ => exact lr_mono hK _ _ _ hv
    | 1, _, 0, _ => exact hv
    | 1, _, 1, _ => exact lr_mono hL _ _ _ hv
  · intro i hi
    match i, hi with
    | 0, _ => exact hx
    | 1, _ => exact hy
theorem rows_lr {xs : List Nat} {k K : Nat} (hx : ∀ x ∈ xs, x < B32) (hK : xs.length + k ≤ K) : ∀ B w v, LfR B w (.row 1 (xs.length + k) (appEl xs.length (fun i _ => .v (.int .u32 ((List.getD xs i 0 : Nat) : Int))) (fun _ _ => .v (.int .u32 0)))) v → LfR B w (lr K (xs ++ List.replicate k 0)) v := by
  rintro B w v ⟨a, cap, rfl, h1, h2, h3⟩
  have hlen : (xs ++ List.replicate k 0).length = xs.length + k := by rw [List.length_append, List.length_replicate]
  refine lr_R ⟨hlen, h1, h2, ?_, ?_⟩ hK (fun x hx' hne hb => ?_)
  · intro x hx'
    rcases List.mem_append.1 hx' with h | h
    · exact hx x h
    · rw [(List.mem_replicate.1 h).2]; decide
  · rcases Nat.eq_zero_or_pos (xs.length + k) with h0 | h0
    · have : xs ++ List.replicate k 0 = [] := List.eq_nil_of_length_eq_zero (by omega)
      rw [this]; exact Or.inl rfl
    · obtain ⟨b, off, rfl, _, _, _⟩ := h3 0 h0
      refine Or.inr ⟨b, off, rfl, fun j hj => ?_⟩
      have hj' : j < xs.length + k := by rw [ints_length, hlen] at hj; exact hj
      obtain ⟨b', off', he', _, _, h4⟩ := h3 j hj'
      cases he'
      obtain ⟨x, hx1, hx2⟩ := h4 0 (by omega)
      rw [Nat.mul_one, Nat.add_zero] at hx1
      rw [hx1, ints_get]
      by_cases hjx : j < xs.length
      · have : appEl xs.length (fun i _ => Lf.v (.int .u32 ((List.getD xs i 0 : Nat) : Int))) (fun _ _ => .v (.int .u32 0)) j 0 = .v (.int .u32 ((List.getD xs j 0 : Nat) : Int)) := by
          unfold appEl; rw [show Nat.ble (j + 1) xs.length = true from Nat.ble_eq_true_of_le hjx]; rfl
        rw [this] at hx2
        obtain ⟨rfl, _⟩ := hx2
        rw [List.getElem_append_left hjx, List.getD_eq_getElem?_getD, List.getElem?_eq_getElem hjx]
        rfl
      · have : appEl xs.length (fun i _ => Lf.v (.int .u32 ((List.getD xs i 0 : Nat) : Int))) (fun _ _ => .v (.int .u32 0)) j 0 = .v (.int .u32 0) := by
          unfold appEl; rw [show Nat.ble (j + 1) xs.length = false from by rw [← Bool.not_eq_true]; exact fun h => hjx (Nat.le_of_ble_eq_true h)]; rfl
        rw [this] at hx2
        obtain ⟨rfl, _⟩ := hx2
        rw [List.getElem_append_right (by omega), List.getElem_replicate]
        rfl
  · have h0 : 0 < xs.length + k := by have := List.length_pos_iff.2 hne; omega
    obtain ⟨b, off, he', hb', _, _⟩ := h3 0 h0
    rw [he'] at hx'
    cases hx'
    exact hb' hb
theorem aSameX {K L : Nat} {xs : List Nat} (hK : K ≤ 1000000000 := by decide) (hL : L ≤ 1000000000 := by decide) : ACall Try.prog 87 [.one (lr K xs), .one (lr L xs)] (.d (.one (.v (.bool true)))) := ACall.le (dl DV.same (dl DV.same dl0)) (le_bool (decide_eq_true rfl)) (aSame (by omega) (by omega))
set_option maxRecDepth 100000 in
set_option maxHeartbeats 4000000 in
theorem aSameInt {K L : Nat} {s : Bool} {xs : List Nat} (hK : K ≤ 1000000000 := by decide) (hL : L ≤ 1000000000 := by decide) : ACall Try.prog 45 [.agg [.v (.bool s), lr K xs], .agg [.v (.bool s), lr L xs]] (.d (.one (.v (.bool true)))) := by
  refine acallN hTT 17 [.tmp 4] Try.func45 rfl rfl rfl rfl rfl ?_
  refine cSeq ?_
  refine cReg ?_
  refine mN hTT (.box 36 ([.v (.bool s), lr K xs])) rfl rfl rfl ?_
  refine mN hTT (.box 36 ([.v (.bool s), lr L xs])) rfl rfl rfl ?_
  refine mV hTT _ rfl ?_
  refine mNil ?_
  refine tN ?_
  refine cSeq ?_
  refine cReg ?_
  refine mV hTT (.ptr 2 0) rfl ?_
  refine mV hTT (.d (.one (.v (.bool s)))) rfl ?_
  refine mV hTT (.ptr 3 0) rfl ?_
  refine mV hTT (.d (.one (.v (.bool s)))) rfl ?_
  refine mV hTT (.d (.one (.v (.bool true)))) (evb (beq_self_eq_true _)) ?_
  refine mV hTT _ rfl ?_
  refine mV hTT (.ptr 2 1) rfl ?_
  refine mV hTT (.d (.one (lr K xs))) rfl ?_
  refine mV hTT (.ptr 3 1) rfl ?_
  refine mV hTT (.d (.one (lr L xs))) rfl ?_
  refine mC0 (aSameX (K := K) (L := L) (xs := xs) (by omega) (by omega)) rfl rfl rfl ?_
  refine mV hTT _ rfl ?_
  refine mV hTT _ rfl ?_
  refine mNil ?_
  refine tN ?_
  refine cRet ?_
  exact rQ rfl (AV.le.rfl)

theorem aSameZ {K L : Nat} {x y : Int} (h : x = y) (hK : K ≤ 1000000000 := by decide) (hL : L ≤ 1000000000 := by decide) : ACall Try.prog 45 [.agg (zn K x), .agg (zn L y)] (.d (.one (.v (.bool true)))) := by subst h; exact aSameInt hK hL
set_option maxRecDepth 100000 in
set_option maxHeartbeats 4000000 in
theorem aWholeShapes {K1 K2 : Nat} {s1 s2 : Bool} {xs1 xs2 : List Nat} {a3 : Int} (hK1 : K1 ≤ 9223372036854775807) (hK2 : K2 ≤ 9223372036854775807) (h31 : -9223372036854775808 ≤ a3) (h32 : a3 ≤ 9223372036854775807) : ACall Try.prog 5 [.agg [.v (.bool s1), lr K1 xs1], .agg [.v (.bool s2), lr K2 xs2], .one (.v (.int .i64 a3))] (.d (.one (.v (.bool true)))) := by
  refine acallN hTT 112 [.tmp 6] Try.func5 rfl rfl rfl rfl rfl ?_
  refine cFact (t := 0) rfl (fun hlt => ?_)
  obtain ⟨k0, hk0, hk4⟩ : ∃ k : Nat, a3 % ((4 : Nat) : Int) = (k : Int) ∧ k < 4 := ⟨(a3 % 4).toNat, by omega, by omega⟩
  refine cSeq ?_
  refine cReg ?_
  refine mN hTT (.box 36 ([.v (.bool s1), lr K1 xs1])) rfl rfl rfl ?_
  refine mN hTT (.box 36 ([.v (.bool s2), lr K2 xs2])) rfl rfl rfl ?_
  refine mV hTT _ rfl ?_
  refine mNil ?_
  refine tN ?_
  refine cSeq ?_
  refine cReg ?_
  refine mV hTT (.d (.agg ([.v (.bool s1), lr K1 xs1]))) rfl ?_
  refine mC0 (aOf2 (K := K1) (k := 8) (s := s1) (xs := xs1) (by decide) (by omega)) rfl rfl rfl ?_
  refine mV hTT _ rfl ?_
  refine mV hTT _ rfl ?_
  refine mV hTT _ rfl ?_
  refine mS hTT 3 (.box 36 ([.v (.bool s1), lr 8 (xs1.take 8)])) rfl ?_
  refine mNil ?_
  refine tN ?_
  refine cSeq ?_
  refine cReg ?_
  refine mV hTT (.d (.agg ([.v (.bool s2), lr K2 xs2]))) rfl ?_
  refine mC0 (aOf2 (K := K2) (k := 8) (s := s2) (xs := xs2) (by decide) (by omega)) rfl rfl rfl ?_
  refine mV hTT _ rfl ?_
  refine mV hTT _ rfl ?_
  refine mV hTT _ rfl ?_
  refine mS hTT 4 (.box 36 ([.v (.bool s2), lr 8 (xs2.take 8)])) rfl ?_
  refine mNil ?_
  refine tN ?_
  refine cSeq ?_
  refine AW.wk (wk (sl := [(2, .d (.one (.v (.int .i64 a3)))), (3, .ptr 3 0), (4, .ptr 4 0)]) (hp := [(3, .box 36 ([.v (.bool s1), lr 8 (xs1.take 8)])), (4, .box 36 ([.v (.bool s2), lr 8 (xs2.take 8)]))]) rfl ⟨hs rfl, hs rfl, hs rfl, trivial⟩ ⟨ho rfl, ho rfl, trivial⟩ rfl) ?_
  have hl8 := List.length_take_le 8 xs1
  refine cAny (by kernel_rfl) ?_
  refine anyCut 1 #[true, true, true, true, true, true, true, true, true, true, false] ⟨112, [(2, .d (.one (.v (.int .i64 a3)))), (3, .ptr 3 0), (4, .ptr 4 0), (24, .ptr 3 0), (25, .d (.one (.v (.bool s1)))), (26, .ptr 3 1), (27, .d (.one (lr 8 (xs1.take 8)))), (28, .dead), (29, .d (.one (.v (.int .i64 a3)))), (30, .d (.one (.v (.int .i64 ((k0 : Nat) : Int))))), (31, .d (.one (lr 11 ((xs1.take 8) ++ List.replicate k0 0)))), (32, .d (.agg ([.v (.bool s1), lr 11 ((xs1.take 8) ++ List.replicate k0 0)]))), (7, .ptr 7 0)], [(3, .box 36 ([.v (.bool s1), lr 8 (xs1.take 8)])), (4, .box 36 ([.v (.bool s2), lr 8 (xs2.take 8)])), (7, .box 36 ([.v (.bool false), .v (.slice none 0 0)]))]⟩ ?_ (fun hD11111111110 => ?_)
  · skip
    refine anyS [10] (by kernel_rfl) rfl ?_
    refine ⟨⟨_, rfl, ?_⟩, trivial⟩
    · skip
      refine mS hTT 7 (.box 36 ([.v (.bool s1), lr 11 ((xs1.take 8) ++ List.replicate k0 0)])) rfl ?_
      refine mNil ?_
      refine tN ?_
      refine anyN (by kernel_rfl) ?_
      refine tN ?_
      refine cSeq ?_
      refine cSeq ?_
      refine AW.wk (wk (sl := [(3, .ptr 3 0), (4, .ptr 4 0), (7, .ptr 7 0)]) (hp := [(3, .box 36 ([.v (.bool s1), lr 8 (xs1.take 8)])), (4, .box 36 ([.v (.bool s2), lr 8 (xs2.take 8)])), (7, .box 36 ([.v (.bool s1), lr 11 ((xs1.take 8) ++ List.replicate k0 0)]))]) rfl ⟨hs rfl, hs rfl, hs rfl, trivial⟩ ⟨ho rfl, ho rfl, ho rfl, trivial⟩ rfl) ?_
      refine cReg ?_
      refine mV hTT (.d (.agg ([.v (.bool s1), lr 8 (xs1.take 8)]))) rfl ?_
      refine mC0 (aNorm (iszr 8 s1 (xs1.take 8)) (by decide)) rfl rfl rfl ?_
      refine mC0 (aZero (isn 8 (zv s1 (val (xs1.take 8))))) rfl rfl rfl ?_
      refine mNil ?_
      refine tN ?_
      refine cCond rfl (fun hc1 => ?_) (fun hc1 => ?_)
      · skip
        refine cReg ?_
        refine mV hTT (.ptr 7 0) rfl ?_
        refine mV hTT (.d (.one (.v (.bool s1)))) rfl ?_
        refine mV hTT (.d (.one (.v (.bool (!s1))))) rfl ?_
        refine mV hTT (.ptr 7 0) rfl ?_
        refine mS hTT 7 (.box 36 ([.v (.bool (!s1)), lr 11 ((xs1.take 8) ++ List.replicate k0 0)])) rfl ?_
        refine mNil ?_
        refine tN ?_
        refine cSeq ?_
        have hz0 : (zv s1 (val (xs1.take 8))) = 0 := of_decide_eq_true hc1
        have hfl : zv (!s1) (val ((xs1.take 8) ++ List.replicate k0 0)) = (zv s1 (val (xs1.take 8))) := by rw [hz0, val_zeros]; unfold zv at hz0 ⊢; cases s1 <;> simp at hz0 ⊢ <;> omega
        refine cReg ?_
        refine mV hTT (.d (.agg ([.v (.bool s2), lr 8 (xs2.take 8)]))) rfl ?_
        refine mV hTT (.d (.agg ([.v (.bool s1), lr 8 (xs1.take 8)]))) rfl ?_
        refine mC0 (aDivMod0 (iszr 8 s2 (xs2.take 8)) (IsZ.eq (iszr 8 s1 (xs1.take 8)) hz0) (by decide) (by decide)) rfl rfl rfl ?_
        refine mV hTT _ rfl ?_
        refine mV hTT _ rfl ?_
        refine mV hTT _ rfl ?_
        refine mV hTT _ rfl ?_
        refine mN hTT (.box 36 ([.v (.bool false), .v (.slice none 0 0)])) rfl rfl rfl ?_
        refine mN hTT (.box 36 ([.v (.bool false), .v (.slice none 0 0)])) rfl rfl rfl ?_
        refine mS hTT 8 (.box 36 (zn 0 0)) rfl ?_
        refine mS hTT 9 (.box 36 (zn 0 0)) rfl ?_
        refine mV hTT _ rfl ?_
        refine mNil ?_
        refine tN ?_
        refine cSeq ?_
        refine cReg ?_
        refine mV hTT (.d (.agg ([.v (.bool s2), lr 8 (xs2.take 8)]))) rfl ?_
        refine mV hTT (.d (.agg ([.v (.bool (!s1)), lr 11 ((xs1.take 8) ++ List.replicate k0 0)]))) rfl ?_
        refine mC0 (aDivMod0 (iszr 8 s2 (xs2.take 8)) (IsZ.eq ⟨_, _, fun _ _ _ h => h, hfl⟩ hz0) (by decide) (by decide)) rfl rfl rfl ?_
        refine mV hTT _ rfl ?_
        refine mV hTT _ rfl ?_
        refine mV hTT _ rfl ?_
        refine mV hTT _ rfl ?_
        refine mN hTT (.box 36 ([.v (.bool false), .v (.slice none 0 0)])) rfl rfl rfl ?_
        refine mN hTT (.box 36 ([.v (.bool false), .v (.slice none 0 0)])) rfl rfl rfl ?_
        refine mS hTT 11 (.box 36 (zn 0 0)) rfl ?_
        refine mS hTT 12 (.box 36 (zn 0 0)) rfl ?_
        refine mV hTT _ rfl ?_
        refine mNil ?_
        refine tN ?_
        refine cSeq ?_
        refine cDrawK hTT 59 (by kernel_rfl) (by kernel_rfl) (by kernel_rfl) ?_
        refine .cons (OpS.V (.d (.agg ([.v (.bool s1), lr 8 (xs1.take 8)]))) rfl) ?_
        refine .cons (OpS.C0 (aNorm (iszr 8 s1 (xs1.take 8)) (by decide)) rfl rfl rfl) ?_
        refine .cons (OpS.V (.d (.agg ([.v (.bool (!s1)), lr 11 ((xs1.take 8) ++ List.replicate k0 0)]))) rfl) ?_
        refine .cons (OpS.C0 (aNorm ⟨_, _, fun _ _ _ h => h, hfl⟩ (by decide)) rfl rfl rfl) ?_
        refine .cons (OpS.C0 (aSameZ (K := 8) (L := 11) (x := (zv s1 (val (xs1.take 8)))) (y := (zv s1 (val (xs1.take 8)))) rfl (by decide) (by decide)) rfl rfl rfl) ?_
        refine .cons (OpS.V _ rfl) ?_
        refine .cons (OpS.V (.d (.agg ([.v (.bool s1), lr 8 (xs1.take 8)]))) rfl) ?_
        refine .cons (OpS.V (.d (.agg ([.v (.bool (!s1)), lr 11 ((xs1.take 8) ++ List.replicate k0 0)]))) rfl) ?_
        refine .cons (OpS.C0 (aCmp (iszr 8 s1 (xs1.take 8)) ⟨_, _, fun _ _ _ h => h, hfl⟩ (by decide) (by decide)) rfl rfl rfl) ?_
        refine .cons (OpS.V (.d (.one (.v (.bool true)))) (evb (by simp [cmpZ]))) ?_
        refine .cons (OpS.V _ rfl) ?_
        refine .cons (OpS.V _ rfl) ?_
        refine .cons (OpS.V (.d (.agg ([.v (.bool s1), lr 8 (xs1.take 8)]))) rfl) ?_
        refine .cons (OpS.V (.d (.agg ([.v (.bool s2), lr 8 (xs2.take 8)]))) rfl) ?_
        refine .cons (OpS.C0 (aAdd (iszr 8 s1 (xs1.take 8)) (iszr 8 s2 (xs2.take 8)) (M := 9) (by decide) (by decide) (by decide)) rfl rfl rfl) ?_
        refine .cons (OpS.V (.d (.agg ([.v (.bool (!s1)), lr 11 ((xs1.take 8) ++ List.replicate k0 0)]))) rfl) ?_
        refine .cons (OpS.V (.d (.agg ([.v (.bool s2), lr 8 (xs2.take 8)]))) rfl) ?_
        refine .cons (OpS.C0 (aAdd ⟨_, _, fun _ _ _ h => h, hfl⟩ (iszr 8 s2 (xs2.take 8)) (M := 12) (by decide) (by decide) (by decide)) rfl rfl rfl) ?_
        refine .cons (OpS.C0 (aSameZ (K := 9) (L := 12) (x := ((zv s1 (val (xs1.take 8))) + (zv s2 (val (xs2.take 8))))) (y := ((zv s1 (val (xs1.take 8))) + (zv s2 (val (xs2.take 8))))) rfl (by decide) (by decide)) rfl rfl rfl) ?_
        refine .cons (OpS.V _ rfl) ?_
        refine .cons (OpS.V _ rfl) ?_
        refine .cons (OpS.V (.d (.agg ([.v (.bool s1), lr 8 (xs1.take 8)]))) rfl) ?_
        refine .cons (OpS.V (.d (.agg ([.v (.bool s2), lr 8 (xs2.take 8)]))) rfl) ?_
        refine .cons (OpS.C0 (aMul (iszr 8 s1 (xs1.take 8)) (iszr 8 s2 (xs2.take 8)) (M := 16) (by decide) (by decide) (by decide)) rfl rfl rfl) ?_
        refine .cons (OpS.V (.d (.agg ([.v (.bool (!s1)), lr 11 ((xs1.take 8) ++ List.replicate k0 0)]))) rfl) ?_
        refine .cons (OpS.V (.d (.agg ([.v (.bool s2), lr 8 (xs2.take 8)]))) rfl) ?_
        refine .cons (OpS.C0 (aMul ⟨_, _, fun _ _ _ h => h, hfl⟩ (iszr 8 s2 (xs2.take 8)) (M := 19) (by decide) (by decide) (by decide)) rfl rfl rfl) ?_
        refine .cons (OpS.C0 (aSameZ (K := 16) (L := 19) (x := ((zv s1 (val (xs1.take 8))) * (zv s2 (val (xs2.take 8))))) (y := ((zv s1 (val (xs1.take 8))) * (zv s2 (val (xs2.take 8))))) rfl (by decide) (by decide)) rfl rfl rfl) ?_
        refine .cons (OpS.V _ rfl) ?_
        refine .cons (OpS.V _ rfl) ?_
        refine .cons (OpS.V _ rfl) ?_
        refine .cons (OpS.V _ rfl) ?_
        refine .cons (OpS.V (.d (.one (.v (.bool true)))) rfl) ?_
        refine .cons (OpS.V _ rfl) ?_
        refine .cons (OpS.V _ rfl) ?_
        refine .cons (OpS.V (.d (.agg (zn 0 0))) rfl) ?_
        refine .cons (OpS.V (.d (.agg (zn 0 0))) rfl) ?_
        refine .cons (OpS.C0 (aSameZ (K := 0) (L := 0) (x := 0) (y := 0) rfl (by decide) (by decide)) rfl rfl rfl) ?_
        refine .cons (OpS.V _ rfl) ?_
        refine .cons (OpS.V _ rfl) ?_
        refine .cons (OpS.V (.d (.agg (zn 0 0))) rfl) ?_
        refine .cons (OpS.V (.d (.agg (zn 0 0))) rfl) ?_
        refine .cons (OpS.C0 (aSameZ (K := 0) (L := 0) (x := 0) (y := 0) rfl (by decide) (by decide)) rfl rfl rfl) ?_
        refine .cons (OpS.V _ rfl) ?_
        refine .cons (OpS.V _ rfl) ?_
        refine .cons (OpS.V (.d (.agg ([.v (.bool s1), lr 8 (xs1.take 8)]))) rfl) ?_
        refine .cons (OpS.V (.d (.agg ([.v (.bool s2), lr 8 (xs2.take 8)]))) rfl) ?_
        refine .cons (OpS.B _ rfl) ?_
        refine .cons (OpS.C0 (aGcd (ispC2 (M := 8) (x := (zv s1 (val (xs1.take 8)))) (y := (zv s2 (val (xs2.take 8)))) rfl rfl) (by decide) (by decide)) rfl rfl rfl) ?_
        refine .cons (OpS.V (.d (.agg ([.v (.bool (!s1)), lr 11 ((xs1.take 8) ++ List.replicate k0 0)]))) rfl) ?_
        refine .cons (OpS.V (.d (.agg ([.v (.bool s2), lr 8 (xs2.take 8)]))) rfl) ?_
        refine .cons (OpS.B _ rfl) ?_
        refine .cons (OpS.C0 (aGcd (ispC2 (M := 11) (x := (zv s1 (val (xs1.take 8)))) (y := (zv s2 (val (xs2.take 8)))) hfl rfl) (by decide) (by decide)) rfl rfl rfl) ?_
        refine .cons (OpS.C0 (aSameZ (K := 8) (L := 11) (x := ((gcdN (c2 (zv s1 (val (xs1.take 8))) (zv s2 (val (xs2.take 8)))) 2) : Int)) (y := ((gcdN (c2 (zv s1 (val (xs1.take 8))) (zv s2 (val (xs2.take 8)))) 2) : Int)) rfl (by decide) (by decide)) rfl rfl rfl) ?_
        refine .cons (OpS.V _ rfl) ?_
        refine .cons (OpS.V _ rfl) ?_
        refine .cons (OpS.C0 (aWakes) rfl rfl rfl) ?_
        refine .cons (OpS.V _ rfl) ?_
        refine .cons (OpS.V _ rfl) ?_
        refine .nil ?_
        refine mNil ?_
        refine tN ?_
        refine cRet ?_
        exact rQ rfl (AV.le.rfl)
      · skip
        refine cSkip ?_
        refine tN ?_
        refine cSeq ?_
        have hz0 : ¬ (zv s1 (val (xs1.take 8))) = 0 := of_decide_eq_false hc1
        refine cReg ?_
        refine mV hTT (.d (.agg ([.v (.bool s2), lr 8 (xs2.take 8)]))) rfl ?_
        refine mV hTT (.d (.agg ([.v (.bool s1), lr 8 (xs1.take 8)]))) rfl ?_
        refine mC0 (aDivMod (iszr 8 s2 (xs2.take 8)) (iszr 8 s1 (xs1.take 8)) hz0 (M := 9) (by decide) (by decide) (by decide)) rfl rfl rfl ?_
        refine mV hTT _ rfl ?_
        refine mV hTT _ rfl ?_
        refine mV hTT _ rfl ?_
        refine mV hTT _ rfl ?_
        refine mN hTT (.box 36 ([.v (.bool false), .v (.slice none 0 0)])) rfl rfl rfl ?_
        refine mN hTT (.box 36 ([.v (.bool false), .v (.slice none 0 0)])) rfl rfl rfl ?_
        refine mS hTT 8 (.box 36 (zn 9 ((zv s2 (val (xs2.take 8))) / (zv s1 (val (xs1.take 8)))))) rfl ?_
        refine mS hTT 9 (.box 36 (zn 8 ((zv s2 (val (xs2.take 8))) % (zv s1 (val (xs1.take 8)))))) rfl ?_
        refine mV hTT _ rfl ?_
        refine mNil ?_
        refine tN ?_
        refine cSeq ?_
        refine cReg ?_
        refine mV hTT (.d (.agg ([.v (.bool s2), lr 8 (xs2.take 8)]))) rfl ?_
        refine mV hTT (.d (.agg ([.v (.bool s1), lr 11 ((xs1.take 8) ++ List.replicate k0 0)]))) rfl ?_
        refine mC0 (aDivMod (iszr 8 s2 (xs2.take 8)) ⟨_, _, fun _ _ _ h => h, congrArg (zv s1) (val_zeros _ _)⟩ hz0 (M := 9) (by decide) (by decide) (by decide)) rfl rfl rfl ?_
        refine mV hTT _ rfl ?_
        refine mV hTT _ rfl ?_
        refine mV hTT _ rfl ?_
        refine mV hTT _ rfl ?_
        refine mN hTT (.box 36 ([.v (.bool false), .v (.slice none 0 0)])) rfl rfl rfl ?_
        refine mN hTT (.box 36 ([.v (.bool false), .v (.slice none 0 0)])) rfl rfl rfl ?_
        refine mS hTT 11 (.box 36 (zn 9 ((zv s2 (val (xs2.take 8))) / (zv s1 (val (xs1.take 8)))))) rfl ?_
        refine mS hTT 12 (.box 36 (zn 11 ((zv s2 (val (xs2.take 8))) % (zv s1 (val (xs1.take 8)))))) rfl ?_
        refine mV hTT _ rfl ?_
        refine mNil ?_
        refine tN ?_
        refine cSeq ?_
        refine cDrawK hTT 59 (by kernel_rfl) (by kernel_rfl) (by kernel_rfl) ?_
        refine .cons (OpS.V (.d (.agg ([.v (.bool s1), lr 8 (xs1.take 8)]))) rfl) ?_
        refine .cons (OpS.C0 (aNorm (iszr 8 s1 (xs1.take 8)) (by decide)) rfl rfl rfl) ?_
        refine .cons (OpS.V (.d (.agg ([.v (.bool s1), lr 11 ((xs1.take 8) ++ List.replicate k0 0)]))) rfl) ?_
        refine .cons (OpS.C0 (aNorm ⟨_, _, fun _ _ _ h => h, congrArg (zv s1) (val_zeros _ _)⟩ (by decide)) rfl rfl rfl) ?_
        refine .cons (OpS.C0 (aSameZ (K := 8) (L := 11) (x := (zv s1 (val (xs1.take 8)))) (y := (zv s1 (val (xs1.take 8)))) rfl (by decide) (by decide)) rfl rfl rfl) ?_
        refine .cons (OpS.V _ rfl) ?_
        refine .cons (OpS.V (.d (.agg ([.v (.bool s1), lr 8 (xs1.take 8)]))) rfl) ?_
        refine .cons (OpS.V (.d (.agg ([.v (.bool s1), lr 11 ((xs1.take 8) ++ List.replicate k0 0)]))) rfl) ?_
        refine .cons (OpS.C0 (aCmp (iszr 8 s1 (xs1.take 8)) ⟨_, _, fun _ _ _ h => h, congrArg (zv s1) (val_zeros _ _)⟩ (by decide) (by decide)) rfl rfl rfl) ?_
        refine .cons (OpS.V (.d (.one (.v (.bool true)))) (evb (by simp [cmpZ]))) ?_
        refine .cons (OpS.V _ rfl) ?_
        refine .cons (OpS.V _ rfl) ?_
        refine .cons (OpS.V (.d (.agg ([.v (.bool s1), lr 8 (xs1.take 8)]))) rfl) ?_
        refine .cons (OpS.V (.d (.agg ([.v (.bool s2), lr 8 (xs2.take 8)]))) rfl) ?_
        refine .cons (OpS.C0 (aAdd (iszr 8 s1 (xs1.take 8)) (iszr 8 s2 (xs2.take 8)) (M := 9) (by decide) (by decide) (by decide)) rfl rfl rfl) ?_
        refine .cons (OpS.V (.d (.agg ([.v (.bool s1), lr 11 ((xs1.take 8) ++ List.replicate k0 0)]))) rfl) ?_
        refine .cons (OpS.V (.d (.agg ([.v (.bool s2), lr 8 (xs2.take 8)]))) rfl) ?_
        refine .cons (OpS.C0 (aAdd ⟨_, _, fun _ _ _ h => h, congrArg (zv s1) (val_zeros _ _)⟩ (iszr 8 s2 (xs2.take 8)) (M := 12) (by decide) (by decide) (by decide)) rfl rfl rfl) ?_
        refine .cons (OpS.C0 (aSameZ (K := 9) (L := 12) (x := ((zv s1 (val (xs1.take 8))) + (zv s2 (val (xs2.take 8))))) (y := ((zv s1 (val (xs1.take 8))) + (zv s2 (val (xs2.take 8))))) rfl (by decide) (by decide)) rfl rfl rfl) ?_
        refine .cons (OpS.V _ rfl) ?_
        refine .cons (OpS.V _ rfl) ?_
        refine .cons (OpS.V (.d (.agg ([.v (.bool s1), lr 8 (xs1.take 8)]))) rfl) ?_
        refine .cons (OpS.V (.d (.agg ([.v (.bool s2), lr 8 (xs2.take 8)]))) rfl) ?_
        refine .cons (OpS.C0 (aMul (iszr 8 s1 (xs1.take 8)) (iszr 8 s2 (xs2.take 8)) (M := 16) (by decide) (by decide) (by decide)) rfl rfl rfl) ?_
        refine .cons (OpS.V (.d (.agg ([.v (.bool s1), lr 11 ((xs1.take 8) ++ List.replicate k0 0)]))) rfl) ?_
        refine .cons (OpS.V (.d (.agg ([.v (.bool s2), lr 8 (xs2.take 8)]))) rfl) ?_
        refine .cons (OpS.C0 (aMul ⟨_, _, fun _ _ _ h => h, congrArg (zv s1) (val_zeros _ _)⟩ (iszr 8 s2 (xs2.take 8)) (M := 19) (by decide) (by decide) (by decide)) rfl rfl rfl) ?_
        refine .cons (OpS.C0 (aSameZ (K := 16) (L := 19) (x := ((zv s1 (val (xs1.take 8))) * (zv s2 (val (xs2.take 8))))) (y := ((zv s1 (val (xs1.take 8))) * (zv s2 (val (xs2.take 8))))) rfl (by decide) (by decide)) rfl rfl rfl) ?_
        refine .cons (OpS.V _ rfl) ?_
        refine .cons (OpS.V _ rfl) ?_
        refine .cons (OpS.V _ rfl) ?_
        refine .cons (OpS.V _ rfl) ?_
        refine .cons (OpS.V (.d (.one (.v (.bool true)))) rfl) ?_
        refine .cons (OpS.V _ rfl) ?_
        refine .cons (OpS.V _ rfl) ?_
        refine .cons (OpS.V (.d (.agg (zn 9 ((zv s2 (val (xs2.take 8))) / (zv s1 (val (xs1.take 8))))))) rfl) ?_
        refine .cons (OpS.V (.d (.agg (zn 9 ((zv s2 (val (xs2.take 8))) / (zv s1 (val (xs1.take 8))))))) rfl) ?_
        refine .cons (OpS.C0 (aSameZ (K := 9) (L := 9) (x := ((zv s2 (val (xs2.take 8))) / (zv s1 (val (xs1.take 8))))) (y := ((zv s2 (val (xs2.take 8))) / (zv s1 (val (xs1.take 8))))) rfl (by decide) (by decide)) rfl rfl rfl) ?_
        refine .cons (OpS.V _ rfl) ?_
        refine .cons (OpS.V _ rfl) ?_
        refine .cons (OpS.V (.d (.agg (zn 8 ((zv s2 (val (xs2.take 8))) % (zv s1 (val (xs1.take 8))))))) rfl) ?_
        refine .cons (OpS.V (.d (.agg (zn 11 ((zv s2 (val (xs2.take 8))) % (zv s1 (val (xs1.take 8))))))) rfl) ?_
        refine .cons (OpS.C0 (aSameZ (K := 8) (L := 11) (x := ((zv s2 (val (xs2.take 8))) % (zv s1 (val (xs1.take 8))))) (y := ((zv s2 (val (xs2.take 8))) % (zv s1 (val (xs1.take 8))))) rfl (by decide) (by decide)) rfl rfl rfl) ?_
        refine .cons (OpS.V _ rfl) ?_
        refine .cons (OpS.V _ rfl) ?_
        refine .cons (OpS.V (.d (.agg ([.v (.bool s1), lr 8 (xs1.take 8)]))) rfl) ?_
        refine .cons (OpS.V (.d (.agg ([.v (.bool s2), lr 8 (xs2.take 8)]))) rfl) ?_
        refine .cons (OpS.B _ rfl) ?_
        refine .cons (OpS.C0 (aGcd (ispC2 (M := 8) (x := (zv s1 (val (xs1.take 8)))) (y := (zv s2 (val (xs2.take 8)))) rfl rfl) (by decide) (by decide)) rfl rfl rfl) ?_
        refine .cons (OpS.V (.d (.agg ([.v (.bool s1), lr 11 ((xs1.take 8) ++ List.replicate k0 0)]))) rfl) ?_
        refine .cons (OpS.V (.d (.agg ([.v (.bool s2), lr 8 (xs2.take 8)]))) rfl) ?_
        refine .cons (OpS.B _ rfl) ?_
        refine .cons (OpS.C0 (aGcd (ispC2 (M := 11) (x := (zv s1 (val (xs1.take 8)))) (y := (zv s2 (val (xs2.take 8)))) (congrArg (zv s1) (val_zeros _ _)) rfl) (by decide) (by decide)) rfl rfl rfl) ?_
        refine .cons (OpS.C0 (aSameZ (K := 8) (L := 11) (x := ((gcdN (c2 (zv s1 (val (xs1.take 8))) (zv s2 (val (xs2.take 8)))) 2) : Int)) (y := ((gcdN (c2 (zv s1 (val (xs1.take 8))) (zv s2 (val (xs2.take 8)))) 2) : Int)) rfl (by decide) (by decide)) rfl rfl rfl) ?_
        refine .cons (OpS.V _ rfl) ?_
        refine .cons (OpS.V _ rfl) ?_
        refine .cons (OpS.C0 (aWakes) rfl rfl rfl) ?_
        refine .cons (OpS.V _ rfl) ?_
        refine .cons (OpS.V _ rfl) ?_
        refine .nil ?_
        refine mNil ?_
        refine tN ?_
        refine cRet ?_
        exact rQ rfl (AV.le.rfl)
  refine anyCut 2 #[true, true, true, true, true, true, true, true, true, false, false] ⟨112, [(2, .d (.one (.v (.int .i64 a3)))), (3, .ptr 3 0), (4, .ptr 4 0), (24, .ptr 3 0), (25, .d (.one (.v (.bool s1)))), (26, .ptr 3 1), (27, .d (.one (lr 8 (xs1.take 8)))), (28, .dead), (29, .d (.one (.v (.int .i64 a3)))), (30, .d (.one (.v (.int .i64 ((k0 : Nat) : Int))))), (31, .d (.one (lr 11 ((xs1.take 8) ++ List.replicate k0 0)))), (32, .d (.agg ([.v (.bool s1), lr 11 ((xs1.take 8) ++ List.replicate k0 0)])))], [(3, .box 36 ([.v (.bool s1), lr 8 (xs1.take 8)])), (4, .box 36 ([.v (.bool s2), lr 8 (xs2.take 8)]))]⟩ ?_ (fun hD11111111100 => ?_)
  · skip
    refine anyS [9] (by kernel_rfl) rfl ?_
    refine ⟨⟨_, rfl, ?_⟩, trivial⟩
    · skip
      refine mN hTT (.box 36 ([.v (.bool false), .v (.slice none 0 0)])) rfl rfl rfl ?_
      refine mNil ?_
      refine tN ?_
      exact anyW (r := 10) (rs := []) (by kernel_rfl) (wk (sl := [(2, .d (.one (.v (.int .i64 a3)))), (3, .ptr 3 0), (4, .ptr 4 0), (24, .ptr 3 0), (25, .d (.one (.v (.bool s1)))), (26, .ptr 3 1), (27, .d (.one (lr 8 (xs1.take 8)))), (28, .dead), (29, .d (.one (.v (.int .i64 a3)))), (30, .d (.one (.v (.int .i64 ((k0 : Nat) : Int))))), (31, .d (.one (lr 11 ((xs1.take 8) ++ List.replicate k0 0)))), (32, .d (.agg ([.v (.bool s1), lr 11 ((xs1.take 8) ++ List.replicate k0 0)]))), (7, .ptr 7 0)]) (hp := [(3, .box 36 ([.v (.bool s1), lr 8 (xs1.take 8)])), (4, .box 36 ([.v (.bool s2), lr 8 (xs2.take 8)])), (7, .box 36 ([.v (.bool false), .v (.slice none 0 0)]))]) rfl ⟨hs rfl, hs rfl, hs rfl, hs rfl, hs rfl, hs rfl, hs rfl, hs rfl, hs rfl, hs rfl, hs rfl, hs rfl, hs rfl, trivial⟩ ⟨ho rfl, ho rfl, ho rfl, trivial⟩ rfl) hD11111111110
  refine anyCut 2 #[true, true, true, true, true, true, true, true, false, true, false] ⟨112, [(2, .d (.one (.v (.int .i64 a3)))), (3, .ptr 3 0), (4, .ptr 4 0), (24, .ptr 3 0), (25, .d (.one (.v (.bool s1)))), (26, .ptr 3 1), (27, .d (.one (lr 8 (xs1.take 8)))), (28, .dead), (29, .d (.one (.v (.int .i64 a3)))), (30, .d (.one (.v (.int .i64 ((k0 : Nat) : Int))))), (31, .own 28), (7, .ptr 7 0)], [(3, .box 36 ([.v (.bool s1), lr 8 (xs1.take 8)])), (4, .box 36 ([.v (.bool s2), lr 8 (xs2.take 8)])), (28, .row 55 1 (((xs1.take 8)).length + k0) (appEl ((xs1.take 8)).length (fun i _ => .v (.int .u32 ((List.getD (xs1.take 8) i 0 : Nat) : Int))) (fun _ _ => .v (.int .u32 0)))), (7, .box 36 ([.v (.bool false), .v (.slice none 0 0)]))]⟩ ?_ (fun hD11111111010 => ?_)
  · skip
    refine anyS [8] (by kernel_rfl) rfl ?_
    refine ⟨⟨_, rfl, ?_⟩, trivial⟩
    · skip
      refine AL.wk (wkRow 28 rfl) ?_
      refine mView 31 (.d (.one (lr 11 ((xs1.take 8) ++ List.replicate k0 0)))) rfl (le_one (rows_lr (fun x hx => hlt x (List.mem_of_mem_take hx)) (by omega))) ?_
      refine mV hTT (.d (.agg ([.v (.bool s1), lr 11 ((xs1.take 8) ++ List.replicate k0 0)]))) rfl ?_
      refine mNil ?_
      refine tN ?_
      exact anyW (r := 10) (rs := []) (by kernel_rfl) (wk (sl := [(2, .d (.one (.v (.int .i64 a3)))), (3, .ptr 3 0), (4, .ptr 4 0), (24, .ptr 3 0), (25, .d (.one (.v (.bool s1)))), (26, .ptr 3 1), (27, .d (.one (lr 8 (xs1.take 8)))), (28, .dead), (29, .d (.one (.v (.int .i64 a3)))), (30, .d (.one (.v (.int .i64 ((k0 : Nat) : Int))))), (31, .d (.one (lr 11 ((xs1.take 8) ++ List.replicate k0 0)))), (32, .d (.agg ([.v (.bool s1), lr 11 ((xs1.take 8) ++ List.replicate k0 0)]))), (7, .ptr 7 0)]) (hp := [(3, .box 36 ([.v (.bool s1), lr 8 (xs1.take 8)])), (4, .box 36 ([.v (.bool s2), lr 8 (xs2.take 8)])), (7, .box 36 ([.v (.bool false), .v (.slice none 0 0)]))]) rfl ⟨hs rfl, hs rfl, hs rfl, hs rfl, hs rfl, hs rfl, hs rfl, hs rfl, hs rfl, hs rfl, hs rfl, hs rfl, hs rfl, trivial⟩ ⟨ho rfl, ho rfl, ho rfl, trivial⟩ rfl) hD11111111110
  refine anyCut 3 #[true, true, true, true, true, true, true, true, false, false, false] ⟨112, [(2, .d (.one (.v (.int .i64 a3)))), (3, .ptr 3 0), (4, .ptr 4 0), (24, .ptr 3 0), (25, .d (.one (.v (.bool s1)))), (26, .ptr 3 1), (27, .d (.one (lr 8 (xs1.take 8)))), (28, .dead), (29, .d (.one (.v (.int .i64 a3)))), (30, .d (.one (.v (.int .i64 ((k0 : Nat) : Int))))), (31, .own 28)], [(3, .box 36 ([.v (.bool s1), lr 8 (xs1.take 8)])), (4, .box 36 ([.v (.bool s2), lr 8 (xs2.take 8)])), (28, .row 55 1 (((xs1.take 8)).length + k0) (appEl ((xs1.take 8)).length (fun i _ => .v (.int .u32 ((List.getD (xs1.take 8) i 0 : Nat) : Int))) (fun _ _ => .v (.int .u32 0))))]⟩ ?_ (fun hD11111111000 => ?_)
  · skip
    refine anyS [8, 9] (by kernel_rfl) rfl ?_
    refine ⟨⟨_, rfl, ?_⟩, ⟨_, rfl, ?_⟩, trivial⟩
    · skip
      refine AL.wk (wkRow 28 rfl) ?_
      refine mView 31 (.d (.one (lr 11 ((xs1.take 8) ++ List.replicate k0 0)))) rfl (le_one (rows_lr (fun x hx => hlt x (List.mem_of_mem_take hx)) (by omega))) ?_
      refine mV hTT (.d (.agg ([.v (.bool s1), lr 11 ((xs1.take 8) ++ List.replicate k0 0)]))) rfl ?_
      refine mNil ?_
      refine tN ?_
      exact anyW (r := 9) (rs := []) (by kernel_rfl) (wk (sl := [(2, .d (.one (.v (.int .i64 a3)))), (3, .ptr 3 0), (4, .ptr 4 0), (24, .ptr 3 0), (25, .d (.one (.v (.bool s1)))), (26, .ptr 3 1), (27, .d (.one (lr 8 (xs1.take 8)))), (28, .dead), (29, .d (.one (.v (.int .i64 a3)))), (30, .d (.one (.v (.int .i64 ((k0 : Nat) : Int))))), (31, .d (.one (lr 11 ((xs1.take 8) ++ List.replicate k0 0)))), (32, .d (.agg ([.v (.bool s1), lr 11 ((xs1.take 8) ++ List.replicate k0 0)])))]) (hp := [(3, .box 36 ([.v (.bool s1), lr 8 (xs1.take 8)])), (4, .box 36 ([.v (.bool s2), lr 8 (xs2.take 8)]))]) rfl ⟨hs rfl, hs rfl, hs rfl, hs rfl, hs rfl, hs rfl, hs rfl, hs rfl, hs rfl, hs rfl, hs rfl, hs rfl, trivial⟩ ⟨ho rfl, ho rfl, trivial⟩ rfl) hD11111111100
    · skip
      refine mN hTT (.box 36 ([.v (.bool false), .v (.slice none 0 0)])) rfl rfl rfl ?_
      refine mNil ?_
      refine tN ?_
      exact anyW (r := 8) (rs := []) (by kernel_rfl) (wk (sl := [(2, .d (.one (.v (.int .i64 a3)))), (3, .ptr 3 0), (4, .ptr 4 0), (24, .ptr 3 0), (25, .d (.one (.v (.bool s1)))), (26, .ptr 3 1), (27, .d (.one (lr 8 (xs1.take 8)))), (28, .dead), (29, .d (.one (.v (.int .i64 a3)))), (30, .d (.one (.v (.int .i64 ((k0 : Nat) : Int))))), (31, .own 28), (7, .ptr 7 0)]) (hp := [(3, .box 36 ([.v (.bool s1), lr 8 (xs1.take 8)])), (4, .box 36 ([.v (.bool s2), lr 8 (xs2.take 8)])), (28, .row 55 1 (((xs1.take 8)).length + k0) (appEl ((xs1.take 8)).length (fun i _ => .v (.int .u32 ((List.getD (xs1.take 8) i 0 : Nat) : Int))) (fun _ _ => .v (.int .u32 0)))), (7, .box 36 ([.v (.bool false), .v (.slice none 0 0)]))]) rfl ⟨hs rfl, hs rfl, hs rfl, hs rfl, hs rfl, hs rfl, hs rfl, hs rfl, hs rfl, hs rfl, hs rfl, hs rfl, trivial⟩ ⟨ho rfl, ho rfl, ho rfl, ho rfl, trivial⟩ rfl) hD11111111010
  refine anyCut 3 #[true, true, true, true, true, true, true, false, false, true, false] ⟨112, [(2, .d (.one (.v (.int .i64 a3)))), (3, .ptr 3 0), (4, .ptr 4 0), (24, .ptr 3 0), (25, .d (.one (.v (.bool s1)))), (26, .ptr 3 1), (27, .d (.one (lr 8 (xs1.take 8)))), (28, .own 28), (29, .d (.one (.v (.int .i64 a3)))), (30, .d (.one (.v (.int .i64 ((k0 : Nat) : Int))))), (7, .ptr 7 0)], [(3, .box 36 ([.v (.bool s1), lr 8 (xs1.take 8)])), (4, .box 36 ([.v (.bool s2), lr 8 (xs2.take 8)])), (28, .row 55 1 (((xs1.take 8)).length) (fun i _ => .v (.int .u32 ((List.getD (xs1.take 8) i 0 : Nat) : Int)))), (7, .box 36 ([.v (.bool false), .v (.slice none 0 0)]))]⟩ ?_ (fun hD11111110010 => ?_)
  · skip
    refine anyS [7] (by kernel_rfl) rfl ?_
    refine ⟨⟨_, rfl, ?_⟩, trivial⟩
    · skip
      refine mAz hTT (id := 28) (n := ((xs1.take 8)).length) (m := k0) (el := (fun i _ => .v (.int .u32 ((List.getD (xs1.take 8) i 0 : Nat) : Int)))) rfl rfl rfl rfl u32_zero rfl rfl (htn := rfl) rfl (by show (((xs1.take 8)).length + k0) * 4 ≤ 140737488355328; omega) (by omega) rfl rfl rfl rfl rfl rfl rfl rfl rfl rfl ?_
      refine mNil ?_
      refine tN ?_
      exact anyW (r := 8) (rs := []) (by kernel_rfl) (wk (sl := [(2, .d (.one (.v (.int .i64 a3)))), (3, .ptr 3 0), (4, .ptr 4 0), (24, .ptr 3 0), (25, .d (.one (.v (.bool s1)))), (26, .ptr 3 1), (27, .d (.one (lr 8 (xs1.take 8)))), (28, .dead), (29, .d (.one (.v (.int .i64 a3)))), (30, .d (.one (.v (.int .i64 ((k0 : Nat) : Int))))), (31, .own 28), (7, .ptr 7 0)]) (hp := [(3, .box 36 ([.v (.bool s1), lr 8 (xs1.take 8)])), (4, .box 36 ([.v (.bool s2), lr 8 (xs2.take 8)])), (28, .row 55 1 (((xs1.take 8)).length + k0) (appEl ((xs1.take 8)).length (fun i _ => .v (.int .u32 ((List.getD (xs1.take 8) i 0 : Nat) : Int))) (fun _ _ => .v (.int .u32 0)))), (7, .box 36 ([.v (.bool false), .v (.slice none 0 0)]))]) rfl ⟨hs rfl, hs rfl, hs rfl, hs rfl, hs rfl, hs rfl, hs rfl, hs rfl, hs rfl, hs rfl, hs rfl, hs rfl, trivial⟩ ⟨ho rfl, ho rfl, ho rfl, ho rfl, trivial⟩ rfl) hD11111111010
  refine anyCut 3 #[true, false, true, true, true, true, true, true, false, true, false] ⟨112, [(2, .d (.one (.v (.int .i64 a3)))), (3, .ptr 3 0), (4, .ptr 4 0), (24, .ptr 3 0), (26, .ptr 3 1), (27, .d (.one (lr 8 (xs1.take 8)))), (28, .dead), (29, .d (.one (.v (.int .i64 a3)))), (30, .d (.one (.v (.int .i64 ((k0 : Nat) : Int))))), (31, .own 28), (7, .ptr 7 0)], [(3, .box 36 ([.v (.bool s1), lr 8 (xs1.take 8)])), (4, .box 36 ([.v (.bool s2), lr 8 (xs2.take 8)])), (28, .row 55 1 (((xs1.take 8)).length + k0) (appEl ((xs1.take 8)).length (fun i _ => .v (.int .u32 ((List.getD (xs1.take 8) i 0 : Nat) : Int))) (fun _ _ => .v (.int .u32 0)))), (7, .box 36 ([.v (.bool false), .v (.slice none 0 0)]))]⟩ ?_ (fun hD10111111010 => ?_)
  · skip
    refine anyS [1] (by kernel_rfl) rfl ?_
    refine ⟨⟨_, rfl, ?_⟩, trivial⟩
    · skip
      refine mV hTT (.d (.one (.v (.bool s1)))) rfl ?_
      refine mNil ?_
      refine tN ?_
      exact anyW (r := 8) (rs := []) (by kernel_rfl) (wk (sl := [(2, .d (.one (.v (.int .i64 a3)))), (3, .ptr 3 0), (4, .ptr 4 0), (24, .ptr 3 0), (25, .d (.one (.v (.bool s1)))), (26, .ptr 3 1), (27, .d (.one (lr 8 (xs1.take 8)))), (28, .dead), (29, .d (.one (.v (.int .i64 a3)))), (30, .d (.one (.v (.int .i64 ((k0 : Nat) : Int))))), (31, .own 28), (7, .ptr 7 0)]) (hp := [(3, .box 36 ([.v (.bool s1), lr 8 (xs1.take 8)])), (4, .box 36 ([.v (.bool s2), lr 8 (xs2.take 8)])), (28, .row 55 1 (((xs1.take 8)).length + k0) (appEl ((xs1.take 8)).length (fun i _ => .v (.int .u32 ((List.getD (xs1.take 8) i 0 : Nat) : Int))) (fun _ _ => .v (.int .u32 0)))), (7, .box 36 ([.v (.bool false), .v (.slice none 0 0)]))]) rfl ⟨hs rfl, hs rfl, hs rfl, hs rfl, hs rfl, hs rfl, hs rfl, hs rfl, hs rfl, hs rfl, hs rfl, hs rfl, trivial⟩ ⟨ho rfl, ho rfl, ho rfl, ho rfl, trivial⟩ rfl) hD11111111010
  refine anyCut 4 #[true, true, true, true, true, true, true, false, false, false, false] ⟨112, [(2, .d (.one (.v (.int .i64 a3)))), (3, .ptr 3 0), (4, .ptr 4 0), (24, .ptr 3 0), (25, .d (.one (.v (.bool s1)))), (26, .ptr 3 1), (27, .d (.one (lr 8 (xs1.take 8)))), (28, .own 28), (29, .d (.one (.v (.int .i64 a3)))), (30, .d (.one (.v (.int .i64 ((k0 : Nat) : Int)))))], [(3, .box 36 ([.v (.bool s1), lr 8 (xs1.take 8)])), (4, .box 36 ([.v (.bool s2), lr 8 (xs2.take 8)])), (28, .row 55 1 (((xs1.take 8)).length) (fun i _ => .v (.int .u32 ((List.getD (xs1.take 8) i 0 : Nat) : Int))))]⟩ ?_ (fun hD11111110000 => ?_)
  · skip
    refine anyS [7, 9] (by kernel_rfl) rfl ?_
    refine ⟨⟨_, rfl, ?_⟩, ⟨_, rfl, ?_⟩, trivial⟩
    · skip
      refine mAz hTT (id := 28) (n := ((xs1.take 8)).length) (m := k0) (el := (fun i _ => .v (.int .u32 ((List.getD (xs1.take 8) i 0 : Nat) : Int)))) rfl rfl rfl rfl u32_zero rfl rfl (htn := rfl) rfl (by show (((xs1.take 8)).length + k0) * 4 ≤ 140737488355328; omega) (by omega) rfl rfl rfl rfl rfl rfl rfl rfl rfl rfl ?_
      refine mNil ?_
      refine tN ?_
      exact anyW (r := 8) (rs := [9]) (by kernel_rfl) (wk (sl := [(2, .d (.one (.v (.int .i64 a3)))), (3, .ptr 3 0), (4, .ptr 4 0), (24, .ptr 3 0), (25, .d (.one (.v (.bool s1)))), (26, .ptr 3 1), (27, .d (.one (lr 8 (xs1.take 8)))), (28, .dead), (29, .d (.one (.v (.int .i64 a3)))), (30, .d (.one (.v (.int .i64 ((k0 : Nat) : Int))))), (31, .own 28)]) (hp := [(3, .box 36 ([.v (.bool s1), lr 8 (xs1.take 8)])), (4, .box 36 ([.v (.bool s2), lr 8 (xs2.take 8)])), (28, .row 55 1 (((xs1.take 8)).length + k0) (appEl ((xs1.take 8)).length (fun i _ => .v (.int .u32 ((List.getD (xs1.take 8) i 0 : Nat) : Int))) (fun _ _ => .v (.int .u32 0))))]) rfl ⟨hs rfl, hs rfl, hs rfl, hs rfl, hs rfl, hs rfl, hs rfl, hs rfl, hs rfl, hs rfl, hs rfl, trivial⟩ ⟨ho rfl, ho rfl, ho rfl, trivial⟩ rfl) hD11111111000
    · skip
      refine mN hTT (.box 36 ([.v (.bool false), .v (.slice none 0 0)])) rfl rfl rfl ?_
      refine mNil ?_
      refine tN ?_
      exact anyW (r := 7) (rs := []) (by kernel_rfl) (wk (sl := [(2, .d (.one (.v (.int .i64 a3)))), (3, .ptr 3 0), (4, .ptr 4 0), (24, .ptr 3 0), (25, .d (.one (.v (.bool s1)))), (26, .ptr 3 1), (27, .d (.one (lr 8 (xs1.take 8)))), (28, .own 28), (29, .d (.one (.v (.int .i64 a3)))), (30, .d (.one (.v (.int .i64 ((k0 : Nat) : Int))))), (7, .ptr 7 0)]) (hp := [(3, .box 36 ([.v (.bool s1), lr 8 (xs1.take 8)])), (4, .box 36 ([.v (.bool s2), lr 8 (xs2.take 8)])), (28, .row 55 1 (((xs1.take 8)).length) (fun i _ => .v (.int .u32 ((List.getD (xs1.take 8) i 0 : Nat) : Int)))), (7, .box 36 ([.v (.bool false), .v (.slice none 0 0)]))]) rfl ⟨hs rfl, hs rfl, hs rfl, hs rfl, hs rfl, hs rfl, hs rfl, hs rfl, hs rfl, hs rfl, hs rfl, trivial⟩ ⟨ho rfl, ho rfl, ho rfl, ho rfl, trivial⟩ rfl) hD11111110010
  refine anyCut 4 #[true, false, true, true, true, true, true, true, false, false, false] ⟨112, [(2, .d (.one (.v (.int .i64 a3)))), (3, .ptr 3 0), (4, .ptr 4 0), (24, .ptr 3 0), (26, .ptr 3 1), (27, .d (.one (lr 8 (xs1.take 8)))), (28, .dead), (29, .d (.one (.v (.int .i64 a3)))), (30, .d (.one (.v (.int .i64 ((k0 : Nat) : Int))))), (31, .own 28)], [(3, .box 36 ([.v (.bool s1), lr 8 (xs1.take 8)])), (4, .box 36 ([.v (.bool s2), lr 8 (xs2.take 8)])), (28, .row 55 1 (((xs1.take 8)).length + k0) (appEl ((xs1.take 8)).length (fun i _ => .v (.int .u32 ((List.getD (xs1.take 8) i 0 : Nat) : Int))) (fun _ _ => .v (.int .u32 0))))]⟩ ?_ (fun hD10111111000 => ?_)
  · skip
    refine anyS [1, 9] (by kernel_rfl) rfl ?_
    refine ⟨⟨_, rfl, ?_⟩, ⟨_, rfl, ?_⟩, trivial⟩
    · skip
      refine mV hTT (.d (.one (.v (.bool s1)))) rfl ?_
      refine mNil ?_
      refine tN ?_
      exact anyW (r := 8) (rs := [9]) (by kernel_rfl) (wk (sl := [(2, .d (.one (.v (.int .i64 a3)))), (3, .ptr 3 0), (4, .ptr 4 0), (24, .ptr 3 0), (25, .d (.one (.v (.bool s1)))), (26, .ptr 3 1), (27, .d (.one (lr 8 (xs1.take 8)))), (28, .dead), (29, .d (.one (.v (.int .i64 a3)))), (30, .d (.one (.v (.int .i64 ((k0 : Nat) : Int))))), (31, .own 28)]) (hp := [(3, .box 36 ([.v (.bool s1), lr 8 (xs1.take 8)])), (4, .box 36 ([.v (.bool s2), lr 8 (xs2.take 8)])), (28, .row 55 1 (((xs1.take 8)).length + k0) (appEl ((xs1.take 8)).length (fun i _ => .v (.int .u32 ((List.getD (xs1.take 8) i 0 : Nat) : Int))) (fun _ _ => .v (.int .u32 0))))]) rfl ⟨hs rfl, hs rfl, hs rfl, hs rfl, hs rfl, hs rfl, hs rfl, hs rfl, hs rfl, hs rfl, hs rfl, trivial⟩ ⟨ho rfl, ho rfl, ho rfl, trivial⟩ rfl) hD11111111000
    · skip
      refine mN hTT (.box 36 ([.v (.bool false), .v (.slice none 0 0)])) rfl rfl rfl ?_
      refine mNil ?_
      refine tN ?_
      exact anyW (r := 1) (rs := []) (by kernel_rfl) (wk (sl := [(2, .d (.one (.v (.int .i64 a3)))), (3, .ptr 3 0), (4, .ptr 4 0), (24, .ptr 3 0), (26, .ptr 3 1), (27, .d (.one (lr 8 (xs1.take 8)))), (28, .dead), (29, .d (.one (.v (.int .i64 a3)))), (30, .d (.one (.v (.int .i64 ((k0 : Nat) : Int))))), (31, .own 28), (7, .ptr 7 0)]) (hp := [(3, .box 36 ([.v (.bool s1), lr 8 (xs1.take 8)])), (4, .box 36 ([.v (.bool s2), lr 8 (xs2.take 8)])), (28, .row 55 1 (((xs1.take 8)).length + k0) (appEl ((xs1.take 8)).length (fun i _ => .v (.int .u32 ((List.getD (xs1.take 8) i 0 : Nat) : Int))) (fun _ _ => .v (.int .u32 0)))), (7, .box 36 ([.v (.bool false), .v (.slice none 0 0)]))]) rfl ⟨hs rfl, hs rfl, hs rfl, hs rfl, hs rfl, hs rfl, hs rfl, hs rfl, hs rfl, hs rfl, hs rfl, trivial⟩ ⟨ho rfl, ho rfl, ho rfl, ho rfl, trivial⟩ rfl) hD10111111010
  refine anyCut 4 #[false, false, true, true, true, true, true, true, false, true, false] ⟨112, [(2, .d (.one (.v (.int .i64 a3)))), (3, .ptr 3 0), (4, .ptr 4 0), (26, .ptr 3 1), (27, .d (.one (lr 8 (xs1.take 8)))), (28, .dead), (29, .d (.one (.v (.int .i64 a3)))), (30, .d (.one (.v (.int .i64 ((k0 : Nat) : Int))))), (31, .own 28), (7, .ptr 7 0)], [(3, .box 36 ([.v (.bool s1), lr 8 (xs1.take 8)])), (4, .box 36 ([.v (.bool s2), lr 8 (xs2.take 8)])), (28, .row 55 1 (((xs1.take 8)).length + k0) (appEl ((xs1.take 8)).length (fun i _ => .v (.int .u32 ((List.getD (xs1.take 8) i 0 : Nat) : Int))) (fun _ _ => .v (.int .u32 0)))), (7, .box 36 ([.v (.bool false), .v (.slice none 0 0)]))]⟩ ?_ (fun hD00111111010 => ?_)
  · skip
    refine anyS [0] (by kernel_rfl) rfl ?_
    refine ⟨⟨_, rfl, ?_⟩, trivial⟩
    · skip
      refine mV hTT (.ptr 3 0) rfl ?_
      refine mNil ?_
      refine tN ?_
      exact anyW (r := 1) (rs := []) (by kernel_rfl) (wk (sl := [(2, .d (.one (.v (.int .i64 a3)))), (3, .ptr 3 0), (4, .ptr 4 0), (24, .ptr 3 0), (26, .ptr 3 1), (27, .d (.one (lr 8 (xs1.take 8)))), (28, .dead), (29, .d (.one (.v (.int .i64 a3)))), (30, .d (.one (.v (.int .i64 ((k0 : Nat) : Int))))), (31, .own 28), (7, .ptr 7 0)]) (hp := [(3, .box 36 ([.v (.bool s1), lr 8 (xs1.take 8)])), (4, .box 36 ([.v (.bool s2), lr 8 (xs2.take 8)])), (28, .row 55 1 (((xs1.take 8)).length + k0) (appEl ((xs1.take 8)).length (fun i _ => .v (.int .u32 ((List.getD (xs1.take 8) i 0 : Nat) : Int))) (fun _ _ => .v (.int .u32 0)))), (7, .box 36 ([.v (.bool false), .v (.slice none 0 0)]))]) rfl ⟨hs rfl, hs rfl, hs rfl, hs rfl, hs rfl, hs rfl, hs rfl, hs rfl, hs rfl, hs rfl, hs rfl, trivial⟩ ⟨ho rfl, ho rfl, ho rfl, ho rfl, trivial⟩ rfl) hD10111111010
  refine anyCut 4 #[true, true, true, true, true, true, false, false, false, true, false] ⟨112, [(2, .d (.one (.v (.int .i64 a3)))), (3, .ptr 3 0), (4, .ptr 4 0), (24, .ptr 3 0), (25, .d (.one (.v (.bool s1)))), (26, .ptr 3 1), (27, .d (.one (lr 8 (xs1.take 8)))), (28, .own 28), (29, .d (.one (.v (.int .i64 a3)))), (7, .ptr 7 0)], [(3, .box 36 ([.v (.bool s1), lr 8 (xs1.take 8)])), (4, .box 36 ([.v (.bool s2), lr 8 (xs2.take 8)])), (28, .row 55 1 (((xs1.take 8)).length) (fun i _ => .v (.int .u32 ((List.getD (xs1.take 8) i 0 : Nat) : Int)))), (7, .box 36 ([.v (.bool false), .v (.slice none 0 0)]))]⟩ ?_ (fun hD11111100010 => ?_)
  · skip
    refine anyS [6] (by kernel_rfl) rfl ?_
    refine ⟨⟨_, rfl, ?_⟩, trivial⟩
    · skip
      refine mC0 (ACall.le (dl DV.same (dl DV.same dl0)) (le_int hk0) (aWithin (v := a3) (n := 4) (by decide) (by decide) h31 h32)) rfl rfl rfl ?_
      refine mNil ?_
      refine tN ?_
      exact anyW (r := 7) (rs := []) (by kernel_rfl) (wk (sl := [(2, .d (.one (.v (.int .i64 a3)))), (3, .ptr 3 0), (4, .ptr 4 0), (24, .ptr 3 0), (25, .d (.one (.v (.bool s1)))), (26, .ptr 3 1), (27, .d (.one (lr 8 (xs1.take 8)))), (28, .own 28), (29, .d (.one (.v (.int .i64 a3)))), (30, .d (.one (.v (.int .i64 ((k0 : Nat) : Int))))), (7, .ptr 7 0)]) (hp := [(3, .box 36 ([.v (.bool s1), lr 8 (xs1.take 8)])), (4, .box 36 ([.v (.bool s2), lr 8 (xs2.take 8)])), (28, .row 55 1 (((xs1.take 8)).length) (fun i _ => .v (.int .u32 ((List.getD (xs1.take 8) i 0 : Nat) : Int)))), (7, .box 36 ([.v (.bool false), .v (.slice none 0 0)]))]) rfl ⟨hs rfl, hs rfl, hs rfl, hs rfl, hs rfl, hs rfl, hs rfl, hs rfl, hs rfl, hs rfl, hs rfl, trivial⟩ ⟨ho rfl, ho rfl, ho rfl, ho rfl, trivial⟩ rfl) hD11111110010
  refine anyCut 4 #[true, false, true, true, true, true, true, false, false, true, false] ⟨112, [(2, .d (.one (.v (.int .i64 a3)))), (3, .ptr 3 0), (4, .ptr 4 0), (24, .ptr 3 0), (26, .ptr 3 1), (27, .d (.one (lr 8 (xs1.take 8)))), (28, .own 28), (29, .d (.one (.v (.int .i64 a3)))), (30, .d (.one (.v (.int .i64 ((k0 : Nat) : Int))))), (7, .ptr 7 0)], [(3, .box 36 ([.v (.bool s1), lr 8 (xs1.take 8)])), (4, .box 36 ([.v (.bool s2), lr 8 (xs2.take 8)])), (28, .row 55 1 (((xs1.take 8)).length) (fun i _ => .v (.int .u32 ((List.getD (xs1.take 8) i 0 : Nat) : Int)))), (7, .box 36 ([.v (.bool false), .v (.slice none 0 0)]))]⟩ ?_ (fun hD10111110010 => ?_)
  · skip
    refine anyS [1, 7] (by kernel_rfl) rfl ?_
    refine ⟨⟨_, rfl, ?_⟩, ⟨_, rfl, ?_⟩, trivial⟩
    · skip
      refine mV hTT (.d (.one (.v (.bool s1)))) rfl ?_
      refine mNil ?_
      refine tN ?_
      exact anyW (r := 7) (rs := []) (by kernel_rfl) (wk (sl := [(2, .d (.one (.v (.int .i64 a3)))), (3, .ptr 3 0), (4, .ptr 4 0), (24, .ptr 3 0), (25, .d (.one (.v (.bool s1)))), (26, .ptr 3 1), (27, .d (.one (lr 8 (xs1.take 8)))), (28, .own 28), (29, .d (.one (.v (.int .i64 a3)))), (30, .d (.one (.v (.int .i64 ((k0 : Nat) : Int))))), (7, .ptr 7 0)]) (hp := [(3, .box 36 ([.v (.bool s1), lr 8 (xs1.take 8)])), (4, .box 36 ([.v (.bool s2), lr 8 (xs2.take 8)])), (28, .row 55 1 (((xs1.take 8)).length) (fun i _ => .v (.int .u32 ((List.getD (xs1.take 8) i 0 : Nat) : Int)))), (7, .box 36 ([.v (.bool false), .v (.slice none 0 0)]))]) rfl ⟨hs rfl, hs rfl, hs rfl, hs rfl, hs rfl, hs rfl, hs rfl, hs rfl, hs rfl, hs rfl, hs rfl, trivial⟩ ⟨ho rfl, ho rfl, ho rfl, ho rfl, trivial⟩ rfl) hD11111110010
    · skip
      refine mAz hTT (id := 28) (n := ((xs1.take 8)).length) (m := k0) (el := (fun i _ => .v (.int .u32 ((List.getD (xs1.take 8) i 0 : Nat) : Int)))) rfl rfl rfl rfl u32_zero rfl rfl (htn := rfl) rfl (by show (((xs1.take 8)).length + k0) * 4 ≤ 140737488355328; omega) (by omega) rfl rfl rfl rfl rfl rfl rfl rfl rfl rfl ?_
      refine mNil ?_
      refine tN ?_
      exact anyW (r := 1) (rs := []) (by kernel_rfl) (wk (sl := [(2, .d (.one (.v (.int .i64 a3)))), (3, .ptr 3 0), (4, .ptr 4 0), (24, .ptr 3 0), (26, .ptr 3 1), (27, .d (.one (lr 8 (xs1.take 8)))), (28, .dead), (29, .d (.one (.v (.int .i64 a3)))), (30, .d (.one (.v (.int .i64 ((k0 : Nat) : Int))))), (31, .own 28), (7, .ptr 7 0)]) (hp := [(3, .box 36 ([.v (.bool s1), lr 8 (xs1.take 8)])), (4, .box 36 ([.v (.bool s2), lr 8 (xs2.take 8)])), (28, .row 55 1 (((xs1.take 8)).length + k0) (appEl ((xs1.take 8)).length (fun i _ => .v (.int .u32 ((List.getD (xs1.take 8) i 0 : Nat) : Int))) (fun _ _ => .v (.int .u32 0)))), (7, .box 36 ([.v (.bool false), .v (.slice none 0 0)]))]) rfl ⟨hs rfl, hs rfl, hs rfl, hs rfl, hs rfl, hs rfl, hs rfl, hs rfl, hs rfl, hs rfl, hs rfl, trivial⟩ ⟨ho rfl, ho rfl, ho rfl, ho rfl, trivial⟩ rfl) hD10111111010
  refine anyCut 5 #[true, true, true, true, true, true, false, false, false, false, false] ⟨112, [(2, .d (.one (.v (.int .i64 a3)))), (3, .ptr 3 0), (4, .ptr 4 0), (24, .ptr 3 0), (25, .d (.one (.v (.bool s1)))), (26, .ptr 3 1), (27, .d (.one (lr 8 (xs1.take 8)))), (28, .own 28), (29, .d (.one (.v (.int .i64 a3))))], [(3, .box 36 ([.v (.bool s1), lr 8 (xs1.take 8)])), (4, .box 36 ([.v (.bool s2), lr 8 (xs2.take 8)])), (28, .row 55 1 (((xs1.take 8)).length) (fun i _ => .v (.int .u32 ((List.getD (xs1.take 8) i 0 : Nat) : Int))))]⟩ ?_ (fun hD11111100000 => ?_)
  · skip
    refine anyS [6, 9] (by kernel_rfl) rfl ?_
    refine ⟨⟨_, rfl, ?_⟩, ⟨_, rfl, ?_⟩, trivial⟩
    · skip
      refine mC0 (ACall.le (dl DV.same (dl DV.same dl0)) (le_int hk0) (aWithin (v := a3) (n := 4) (by decide) (by decide) h31 h32)) rfl rfl rfl ?_
      refine mNil ?_
      refine tN ?_
      exact anyW (r := 7) (rs := [9]) (by kernel_rfl) (wk (sl := [(2, .d (.one (.v (.int .i64 a3)))), (3, .ptr 3 0), (4, .ptr 4 0), (24, .ptr 3 0), (25, .d (.one (.v (.bool s1)))), (26, .ptr 3 1), (27, .d (.one (lr 8 (xs1.take 8)))), (28, .own 28), (29, .d (.one (.v (.int .i64 a3)))), (30, .d (.one (.v (.int .i64 ((k0 : Nat) : Int)))))]) (hp := [(3, .box 36 ([.v (.bool s1), lr 8 (xs1.take 8)])), (4, .box 36 ([.v (.bool s2), lr 8 (xs2.take 8)])), (28, .row 55 1 (((xs1.take 8)).length) (fun i _ => .v (.int .u32 ((List.getD (xs1.take 8) i 0 : Nat) : Int))))]) rfl ⟨hs rfl, hs rfl, hs rfl, hs rfl, hs rfl, hs rfl, hs rfl, hs rfl, hs rfl, hs rfl, trivial⟩ ⟨ho rfl, ho rfl, ho rfl, trivial⟩ rfl) hD11111110000
    · skip
      refine mN hTT (.box 36 ([.v (.bool false), .v (.slice none 0 0)])) rfl rfl rfl ?_
      refine mNil ?_
      refine tN ?_
      exact anyW (r := 6) (rs := []) (by kernel_rfl) (wk (sl := [(2, .d (.one (.v (.int .i64 a3)))), (3, .ptr 3 0), (4, .ptr 4 0), (24, .ptr 3 0), (25, .d (.one (.v (.bool s1)))), (26, .ptr 3 1), (27, .d (.one (lr 8 (xs1.take 8)))), (28, .own 28), (29, .d (.one (.v (.int .i64 a3)))), (7, .ptr 7 0)]) (hp := [(3, .box 36 ([.v (.bool s1), lr 8 (xs1.take 8)])), (4, .box 36 ([.v (.bool s2), lr 8 (xs2.take 8)])), (28, .row 55 1 (((xs1.take 8)).length) (fun i _ => .v (.int .u32 ((List.getD (xs1.take 8) i 0 : Nat) : Int)))), (7, .box 36 ([.v (.bool false), .v (.slice none 0 0)]))]) rfl ⟨hs rfl, hs rfl, hs rfl, hs rfl, hs rfl, hs rfl, hs rfl, hs rfl, hs rfl, hs rfl, trivial⟩ ⟨ho rfl, ho rfl, ho rfl, ho rfl, trivial⟩ rfl) hD11111100010
  refine anyCut 5 #[true, false, true, true, true, true, false, false, false, true, false] ⟨112, [(2, .d (.one (.v (.int .i64 a3)))), (3, .ptr 3 0), (4, .ptr 4 0), (24, .ptr 3 0), (26, .ptr 3 1), (27, .d (.one (lr 8 (xs1.take 8)))), (28, .own 28), (29, .d (.one (.v (.int .i64 a3)))), (7, .ptr 7 0)], [(3, .box 36 ([.v (.bool s1), lr 8 (xs1.take 8)])), (4, .box 36 ([.v (.bool s2), lr 8 (xs2.take 8)])), (28, .row 55 1 (((xs1.take 8)).length) (fun i _ => .v (.int .u32 ((List.getD (xs1.take 8) i 0 : Nat) : Int)))), (7, .box 36 ([.v (.bool false), .v (.slice none 0 0)]))]⟩ ?_ (fun hD10111100010 => ?_)
  · skip
    refine anyS [1, 6] (by kernel_rfl) rfl ?_
    refine ⟨⟨_, rfl, ?_⟩, ⟨_, rfl, ?_⟩, trivial⟩
    · skip
      refine mV hTT (.d (.one (.v (.bool s1)))) rfl ?_
      refine mNil ?_
      refine tN ?_
      exact anyW (r := 6) (rs := []) (by kernel_rfl) (wk (sl := [(2, .d (.one (.v (.int .i64 a3)))), (3, .ptr 3 0), (4, .ptr 4 0), (24, .ptr 3 0), (25, .d (.one (.v (.bool s1)))), (26, .ptr 3 1), (27, .d (.one (lr 8 (xs1.take 8)))), (28, .own 28), (29, .d (.one (.v (.int .i64 a3)))), (7, .ptr 7 0)]) (hp := [(3, .box 36 ([.v (.bool s1), lr 8 (xs1.take 8)])), (4, .box 36 ([.v (.bool s2), lr 8 (xs2.take 8)])), (28, .row 55 1 (((xs1.take 8)).length) (fun i _ => .v (.int .u32 ((List.getD (xs1.take 8) i 0 : Nat) : Int)))), (7, .box 36 ([.v (.bool false), .v (.slice none 0 0)]))]) rfl ⟨hs rfl, hs rfl, hs rfl, hs rfl, hs rfl, hs rfl, hs rfl, hs rfl, hs rfl, hs rfl, trivial⟩ ⟨ho rfl, ho rfl, ho rfl, ho rfl, trivial⟩ rfl) hD11111100010
    · skip
      refine mC0 (ACall.le (dl DV.same (dl DV.same dl0)) (le_int hk0) (aWithin (v := a3) (n := 4) (by decide) (by decide) h31 h32)) rfl rfl rfl ?_
      refine mNil ?_
      refine tN ?_
      exact anyW (r := 1) (rs := [7]) (by kernel_rfl) (wk (sl := [(2, .d (.one (.v (.int .i64 a3)))), (3, .ptr 3 0), (4, .ptr 4 0), (24, .ptr 3 0), (26, .ptr 3 1), (27, .d (.one (lr 8 (xs1.take 8)))), (28, .own 28), (29, .d (.one (.v (.int .i64 a3)))), (30, .d (.one (.v (.int .i64 ((k0 : Nat) : Int))))), (7, .ptr 7 0)]) (hp := [(3, .box 36 ([.v (.bool s1), lr 8 (xs1.take 8)])), (4, .box 36 ([.v (.bool s2), lr 8 (xs2.take 8)])), (28, .row 55 1 (((xs1.take 8)).length) (fun i _ => .v (.int .u32 ((List.getD (xs1.take 8) i 0 : Nat) : Int)))), (7, .box 36 ([.v (.bool false), .v (.slice none 0 0)]))]) rfl ⟨hs rfl, hs rfl, hs rfl, hs rfl, hs rfl, hs rfl, hs rfl, hs rfl, hs rfl, hs rfl, trivial⟩ ⟨ho rfl, ho rfl, ho rfl, ho rfl, trivial⟩ rfl) hD10111110010
  refine anyCut 5 #[true, true, true, true, false, true, false, false, false, true, false] ⟨112, [(2, .d (.one (.v (.int .i64 a3)))), (3, .ptr 3 0), (4, .ptr 4 0), (24, .ptr 3 0), (25, .d (.one (.v (.bool s1)))), (26, .ptr 3 1), (27, .d (.one (lr 8 (xs1.take 8)))), (29, .d (.one (.v (.int .i64 a3)))), (7, .ptr 7 0)], [(3, .box 36 ([.v (.bool s1), lr 8 (xs1.take 8)])), (4, .box 36 ([.v (.bool s2), lr 8 (xs2.take 8)])), (7, .box 36 ([.v (.bool false), .v (.slice none 0 0)]))]⟩ ?_ (fun hD11110100010 => ?_)
  · skip
    refine anyS [4] (by kernel_rfl) rfl ?_
    refine ⟨⟨_, rfl, ?_⟩, trivial⟩
    · skip
      refine mCO (aCopyO (K := 8) (xs := (xs1.take 8)) (by decide)) rfl rfl rfl rfl rfl ?_
      refine mNil ?_
      refine tN ?_
      exact anyW (r := 6) (rs := []) (by kernel_rfl) (wk (sl := [(2, .d (.one (.v (.int .i64 a3)))), (3, .ptr 3 0), (4, .ptr 4 0), (24, .ptr 3 0), (25, .d (.one (.v (.bool s1)))), (26, .ptr 3 1), (27, .d (.one (lr 8 (xs1.take 8)))), (28, .own 28), (29, .d (.one (.v (.int .i64 a3)))), (7, .ptr 7 0)]) (hp := [(3, .box 36 ([.v (.bool s1), lr 8 (xs1.take 8)])), (4, .box 36 ([.v (.bool s2), lr 8 (xs2.take 8)])), (28, .row 55 1 (((xs1.take 8)).length) (fun i _ => .v (.int .u32 ((List.getD (xs1.take 8) i 0 : Nat) : Int)))), (7, .box 36 ([.v (.bool false), .v (.slice none 0 0)]))]) rfl ⟨hs rfl, hs rfl, hs rfl, hs rfl, hs rfl, hs rfl, hs rfl, hs rfl, hs rfl, hs rfl, trivial⟩ ⟨ho rfl, ho rfl, ho rfl, ho rfl, trivial⟩ rfl) hD11111100010
  refine anyCut 5 #[true, false, true, true, true, true, true, false, false, false, false] ⟨112, [(2, .d (.one (.v (.int .i64 a3)))), (3, .ptr 3 0), (4, .ptr 4 0), (24, .ptr 3 0), (26, .ptr 3 1), (27, .d (.one (lr 8 (xs1.take 8)))), (28, .own 28), (29, .d (.one (.v (.int .i64 a3)))), (30, .d (.one (.v (.int .i64 ((k0 : Nat) : Int)))))], [(3, .box 36 ([.v (.bool s1), lr 8 (xs1.take 8)])), (4, .box 36 ([.v (.bool s2), lr 8 (xs2.take 8)])), (28, .row 55 1 (((xs1.take 8)).length) (fun i _ => .v (.int .u32 ((List.getD (xs1.take 8) i 0 : Nat) : Int))))]⟩ ?_ (fun hD10111110000 => ?_)
  · skip
    refine anyS [1, 7, 9] (by kernel_rfl) rfl ?_
    refine ⟨⟨_, rfl, ?_⟩, ⟨_, rfl, ?_⟩, ⟨_, rfl, ?_⟩, trivial⟩
    · skip
      refine mV hTT (.d (.one (.v (.bool s1)))) rfl ?_
      refine mNil ?_
      refine tN ?_
      exact anyW (r := 7) (rs := [9]) (by kernel_rfl) (wk (sl := [(2, .d (.one (.v (.int .i64 a3)))), (3, .ptr 3 0), (4, .ptr 4 0), (24, .ptr 3 0), (25, .d (.one (.v (.bool s1)))), (26, .ptr 3 1), (27, .d (.one (lr 8 (xs1.take 8)))), (28, .own 28), (29, .d (.one (.v (.int .i64 a3)))), (30, .d (.one (.v (.int .i64 ((k0 : Nat) : Int)))))]) (hp := [(3, .box 36 ([.v (.bool s1), lr 8 (xs1.take 8)])), (4, .box 36 ([.v (.bool s2), lr 8 (xs2.take 8)])), (28, .row 55 1 (((xs1.take 8)).length) (fun i _ => .v (.int .u32 ((List.getD (xs1.take 8) i 0 : Nat) : Int))))]) rfl ⟨hs rfl, hs rfl, hs rfl, hs rfl, hs rfl, hs rfl, hs rfl, hs rfl, hs rfl, hs rfl, trivial⟩ ⟨ho rfl, ho rfl, ho rfl, trivial⟩ rfl) hD11111110000
    · skip
      refine mAz hTT (id := 28) (n := ((xs1.take 8)).length) (m := k0) (el := (fun i _ => .v (.int .u32 ((List.getD (xs1.take 8) i 0 : Nat) : Int)))) rfl rfl rfl rfl u32_zero rfl rfl (htn := rfl) rfl (by show (((xs1.take 8)).length + k0) * 4 ≤ 140737488355328; omega) (by omega) rfl rfl rfl rfl rfl rfl rfl rfl rfl rfl ?_
      refine mNil ?_
      refine tN ?_
      exact anyW (r := 1) (rs := [9]) (by kernel_rfl) (wk (sl := [(2, .d (.one (.v (.int .i64 a3)))), (3, .ptr 3 0), (4, .ptr 4 0), (24, .ptr 3 0), (26, .ptr 3 1), (27, .d (.one (lr 8 (xs1.take 8)))), (28, .dead), (29, .d (.one (.v (.int .i64 a3)))), (30, .d (.one (.v (.int .i64 ((k0 : Nat) : Int))))), (31, .own 28)]) (hp := [(3, .box 36 ([.v (.bool s1), lr 8 (xs1.take 8)])), (4, .box 36 ([.v (.bool s2), lr 8 (xs2.take 8)])), (28, .row 55 1 (((xs1.take 8)).length + k0) (appEl ((xs1.take 8)).length (fun i _ => .v (.int .u32 ((List.getD (xs1.take 8) i 0 : Nat) : Int))) (fun _ _ => .v (.int .u32 0))))]) rfl ⟨hs rfl, hs rfl, hs rfl, hs rfl, hs rfl, hs rfl, hs rfl, hs rfl, hs rfl, hs rfl, trivial⟩ ⟨ho rfl, ho rfl, ho rfl, trivial⟩ rfl) hD10111111000
    · skip
      refine mN hTT (.box 36 ([.v (.bool false), .v (.slice none 0 0)])) rfl rfl rfl ?_
      refine mNil ?_
      refine tN ?_
      exact anyW (r := 1) (rs := [7]) (by kernel_rfl) (wk (sl := [(2, .d (.one (.v (.int .i64 a3)))), (3, .ptr 3 0), (4, .ptr 4 0), (24, .ptr 3 0), (26, .ptr 3 1), (27, .d (.one (lr 8 (xs1.take 8)))), (28, .own 28), (29, .d (.one (.v (.int .i64 a3)))), (30, .d (.one (.v (.int .i64 ((k0 : Nat) : Int))))), (7, .ptr 7 0)]) (hp := [(3, .box 36 ([.v (.bool s1), lr 8 (xs1.take 8)])), (4, .box 36 ([.v (.bool s2), lr 8 (xs2.take 8)])), (28, .row 55 1 (((xs1.take 8)).length) (fun i _ => .v (.int .u32 ((List.getD (xs1.take 8) i 0 : Nat) : Int)))), (7, .box 36 ([.v (.bool false), .v (.slice none 0 0)]))]) rfl ⟨hs rfl, hs rfl, hs rfl, hs rfl, hs rfl, hs rfl, hs rfl, hs rfl, hs rfl, hs rfl, trivial⟩ ⟨ho rfl, ho rfl, ho rfl, ho rfl, trivial⟩ rfl) hD10111110010
  refine anyCut 5 #[false, false, true, true, true, true, true, false, false, true, false] ⟨112, [(2, .d (.one (.v (.int .i64 a3)))), (3, .ptr 3 0), (4, .ptr 4 0), (26, .ptr 3 1), (27, .d (.one (lr 8 (xs1.take 8)))), (28, .own 28), (29, .d (.one (.v (.int .i64 a3)))), (30, .d (.one (.v (.int .i64 ((k0 : Nat) : Int))))), (7, .ptr 7 0)], [(3, .box 36 ([.v (.bool s1), lr 8 (xs1.take 8)])), (4, .box 36 ([.v (.bool s2), lr 8 (xs2.take 8)])), (28, .row 55 1 (((xs1.take 8)).length) (fun i _ => .v (.int .u32 ((List.getD (xs1.take 8) i 0 : Nat) : Int)))), (7, .box 36 ([.v (.bool false), .v (.slice none 0 0)]))]⟩ ?_ (fun hD00111110010 => ?_)
  · skip
    refine anyS [0, 7] (by kernel_rfl) rfl ?_
    refine ⟨⟨_, rfl, ?_⟩, ⟨_, rfl, ?_⟩, trivial⟩
    · skip
      refine mV hTT (.ptr 3 0) rfl ?_
      refine mNil ?_
      refine tN ?_
      exact anyW (r := 1) (rs := [7]) (by kernel_rfl) (wk (sl := [(2, .d (.one (.v (.int .i64 a3)))), (3, .ptr 3 0), (4, .ptr 4 0), (24, .ptr 3 0), (26, .ptr 3 1), (27, .d (.one (lr 8 (xs1.take 8)))), (28, .own 28), (29, .d (.one (.v (.int .i64 a3)))), (30, .d (.one (.v (.int .i64 ((k0 : Nat) : Int))))), (7, .ptr 7 0)]) (hp := [(3, .box 36 ([.v (.bool s1), lr 8 (xs1.take 8)])), (4, .box 36 ([.v (.bool s2), lr 8 (xs2.take 8)])), (28, .row 55 1 (((xs1.take 8)).length) (fun i _ => .v (.int .u32 ((List.getD (xs1.take 8) i 0 : Nat) : Int)))), (7, .box 36 ([.v (.bool false), .v (.slice none 0 0)]))]) rfl ⟨hs rfl, hs rfl, hs rfl, hs rfl, hs rfl, hs rfl, hs rfl, hs rfl, hs rfl, hs rfl, trivial⟩ ⟨ho rfl, ho rfl, ho rfl, ho rfl, trivial⟩ rfl) hD10111110010
    · skip
      refine mAz hTT (id := 28) (n := ((xs1.take 8)).length) (m := k0) (el := (fun i _ => .v (.int .u32 ((List.getD (xs1.take 8) i 0 : Nat) : Int)))) rfl rfl rfl rfl u32_zero rfl rfl (htn := rfl) rfl (by show (((xs1.take 8)).length + k0) * 4 ≤ 140737488355328; omega) (by omega) rfl rfl rfl rfl rfl rfl rfl rfl rfl rfl ?_
      refine mNil ?_
      refine tN ?_
      exact anyW (r := 0) (rs := []) (by kernel_rfl) (wk (sl := [(2, .d (.one (.v (.int .i64 a3)))), (3, .ptr 3 0), (4, .ptr 4 0), (26, .ptr 3 1), (27, .d (.one (lr 8 (xs1.take 8)))), (28, .dead), (29, .d (.one (.v (.int .i64 a3)))), (30, .d (.one (.v (.int .i64 ((k0 : Nat) : Int))))), (31, .own 28), (7, .ptr 7 0)]) (hp := [(3, .box 36 ([.v (.bool s1), lr 8 (xs1.take 8)])), (4, .box 36 ([.v (.bool s2), lr 8 (xs2.take 8)])), (28, .row 55 1 (((xs1.take 8)).length + k0) (appEl ((xs1.take 8)).length (fun i _ => .v (.int .u32 ((List.getD (xs1.take 8) i 0 : Nat) : Int))) (fun _ _ => .v (.int .u32 0)))), (7, .box 36 ([.v (.bool false), .v (.slice none 0 0)]))]) rfl ⟨hs rfl, hs rfl, hs rfl, hs rfl, hs rfl, hs rfl, hs rfl, hs rfl, hs rfl, hs rfl, trivial⟩ ⟨ho rfl, ho rfl, ho rfl, ho rfl, trivial⟩ rfl) hD00111111010
  refine anyCut 5 #[true, true, true, true, true, false, false, false, false, true, false] ⟨112, [(2, .d (.one (.v (.int .i64 a3)))), (3, .ptr 3 0), (4, .ptr 4 0), (24, .ptr 3 0), (25, .d (.one (.v (.bool s1)))), (26, .ptr 3 1), (27, .d (.one (lr 8 (xs1.take 8)))), (28, .own 28), (7, .ptr 7 0)], [(3, .box 36 ([.v (.bool s1), lr 8 (xs1.take 8)])), (4, .box 36 ([.v (.bool s2), lr 8 (xs2.take 8)])), (28, .row 55 1 (((xs1.take 8)).length) (fun i _ => .v (.int .u32 ((List.getD (xs1.take 8) i 0 : Nat) : Int)))), (7, .box 36 ([.v (.bool false), .v (.slice none 0 0)]))]⟩ ?_ (fun hD11111000010 => ?_)
  · skip
    refine anyS [5] (by kernel_rfl) rfl ?_
    refine ⟨⟨_, rfl, ?_⟩, trivial⟩
    · skip
      refine mV hTT _ rfl ?_
      refine mNil ?_
      refine tN ?_
      exact anyW (r := 6) (rs := []) (by kernel_rfl) (wk (sl := [(2, .d (.one (.v (.int .i64 a3)))), (3, .ptr 3 0), (4, .ptr 4 0), (24, .ptr 3 0), (25, .d (.one (.v (.bool s1)))), (26, .ptr 3 1), (27, .d (.one (lr 8 (xs1.take 8)))), (28, .own 28), (29, .d (.one (.v (.int .i64 a3)))), (7, .ptr 7 0)]) (hp := [(3, .box 36 ([.v (.bool s1), lr 8 (xs1.take 8)])), (4, .box 36 ([.v (.bool s2), lr 8 (xs2.take 8)])), (28, .row 55 1 (((xs1.take 8)).length) (fun i _ => .v (.int .u32 ((List.getD (xs1.take 8) i 0 : Nat) : Int)))), (7, .box 36 ([.v (.bool false), .v (.slice none 0 0)]))]) rfl ⟨hs rfl, hs rfl, hs rfl, hs rfl, hs rfl, hs rfl, hs rfl, hs rfl, hs rfl, hs rfl, trivial⟩ ⟨ho rfl, ho rfl, ho rfl, ho rfl, trivial⟩ rfl) hD11111100010
  refine anyCut 5 #[false, false, true, true, true, true, true, true, false, false, false] ⟨112, [(2, .d (.one (.v (.int .i64 a3)))), (3, .ptr 3 0), (4, .ptr 4 0), (26, .ptr 3 1), (27, .d (.one (lr 8 (xs1.take 8)))), (28, .dead), (29, .d (.one (.v (.int .i64 a3)))), (30, .d (.one (.v (.int .i64 ((k0 : Nat) : Int))))), (31, .own 28)], [(3, .box 36 ([.v (.bool s1), lr 8 (xs1.take 8)])), (4, .box 36 ([.v (.bool s2), lr 8 (xs2.take 8)])), (28, .row 55 1 (((xs1.take 8)).length + k0) (appEl ((xs1.take 8)).length (fun i _ => .v (.int .u32 ((List.getD (xs1.take 8) i 0 : Nat) : Int))) (fun _ _ => .v (.int .u32 0))))]⟩ ?_ (fun hD00111111000 => ?_)
  · skip
    refine anyS [0, 9] (by kernel_rfl) rfl ?_
    refine ⟨⟨_, rfl, ?_⟩, ⟨_, rfl, ?_⟩, trivial⟩
    · skip
      refine mV hTT (.ptr 3 0) rfl ?_
      refine mNil ?_
      refine tN ?_
      exact anyW (r := 1) (rs := [9]) (by kernel_rfl) (wk (sl := [(2, .d (.one (.v (.int .i64 a3)))), (3, .ptr 3 0), (4, .ptr 4 0), (24, .ptr 3 0), (26, .ptr 3 1), (27, .d (.one (lr 8 (xs1.take 8)))), (28, .dead), (29, .d (.one (.v (.int .i64 a3)))), (30, .d (.one (.v (.int .i64 ((k0 : Nat) : Int))))), (31, .own 28)]) (hp := [(3, .box 36 ([.v (.bool s1), lr 8 (xs1.take 8)])), (4, .box 36 ([.v (.bool s2), lr 8 (xs2.take 8)])), (28, .row 55 1 (((xs1.take 8)).length + k0) (appEl ((xs1.take 8)).length (fun i _ => .v (.int .u32 ((List.getD (xs1.take 8) i 0 : Nat) : Int))) (fun _ _ => .v (.int .u32 0))))]) rfl ⟨hs rfl, hs rfl, hs rfl, hs rfl, hs rfl, hs rfl, hs rfl, hs rfl, hs rfl, hs rfl, trivial⟩ ⟨ho rfl, ho rfl, ho rfl, trivial⟩ rfl) hD10111111000
    · skip
      refine mN hTT (.box 36 ([.v (.bool false), .v (.slice none 0 0)])) rfl rfl rfl ?_
      refine mNil ?_
      refine tN ?_
      exact anyW (r := 0) (rs := []) (by kernel_rfl) (wk (sl := [(2, .d (.one (.v (.int .i64 a3)))), (3, .ptr 3 0), (4, .ptr 4 0), (26, .ptr 3 1), (27, .d (.one (lr 8 (xs1.take 8)))), (28, .dead), (29, .d (.one (.v (.int .i64 a3)))), (30, .d (.one (.v (.int .i64 ((k0 : Nat) : Int))))), (31, .own 28), (7, .ptr 7 0)]) (hp := [(3, .box 36 ([.v (.bool s1), lr 8 (xs1.take 8)])), (4, .box 36 ([.v (.bool s2), lr 8 (xs2.take 8)])), (28, .row 55 1 (((xs1.take 8)).length + k0) (appEl ((xs1.take 8)).length (fun i _ => .v (.int .u32 ((List.getD (xs1.take 8) i 0 : Nat) : Int))) (fun _ _ => .v (.int .u32 0)))), (7, .box 36 ([.v (.bool false), .v (.slice none 0 0)]))]) rfl ⟨hs rfl, hs rfl, hs rfl, hs rfl, hs rfl, hs rfl, hs rfl, hs rfl, hs rfl, hs rfl, trivial⟩ ⟨ho rfl, ho rfl, ho rfl, ho rfl, trivial⟩ rfl) hD00111111010
  refine anyCut 6 #[false, false, true, true, true, true, true, false, false, false, false] ⟨112, [(2, .d (.one (.v (.int .i64 a3)))), (3, .ptr 3 0), (4, .ptr 4 0), (26, .ptr 3 1), (27, .d (.one (lr 8 (xs1.take 8)))), (28, .own 28), (29, .d (.one (.v (.int .i64 a3)))), (30, .d (.one (.v (.int .i64 ((k0 : Nat) : Int)))))], [(3, .box 36 ([.v (.bool s1), lr 8 (xs1.take 8)])), (4, .box 36 ([.v (.bool s2), lr 8 (xs2.take 8)])), (28, .row 55 1 (((xs1.take 8)).length) (fun i _ => .v (.int .u32 ((List.getD (xs1.take 8) i 0 : Nat) : Int))))]⟩ ?_ (fun hD00111110000 => ?_)
  · skip
    refine anyS [0, 7, 9] (by kernel_rfl) rfl ?_
    refine ⟨⟨_, rfl, ?_⟩, ⟨_, rfl, ?_⟩, ⟨_, rfl, ?_⟩, trivial⟩
    · skip
      refine mV hTT (.ptr 3 0) rfl ?_
      refine mNil ?_
      refine tN ?_
      exact anyW (r := 1) (rs := [7, 9]) (by kernel_rfl) (wk (sl := [(2, .d (.one (.v (.int .i64 a3)))), (3, .ptr 3 0), (4, .ptr 4 0), (24, .ptr 3 0), (26, .ptr 3 1), (27, .d (.one (lr 8 (xs1.take 8)))), (28, .own 28), (29, .d (.one (.v (.int .i64 a3)))), (30, .d (.one (.v (.int .i64 ((k0 : Nat) : Int)))))]) (hp := [(3, .box 36 ([.v (.bool s1), lr 8 (xs1.take 8)])), (4, .box 36 ([.v (.bool s2), lr 8 (xs2.take 8)])), (28, .row 55 1 (((xs1.take 8)).length) (fun i _ => .v (.int .u32 ((List.getD (xs1.take 8) i 0 : Nat) : Int))))]) rfl ⟨hs rfl, hs rfl, hs rfl, hs rfl, hs rfl, hs rfl, hs rfl, hs rfl, hs rfl, trivial⟩ ⟨ho rfl, ho rfl, ho rfl, trivial⟩ rfl) hD10111110000
    · skip
      refine mAz hTT (id := 28) (n := ((xs1.take 8)).length) (m := k0) (el := (fun i _ => .v (.int .u32 ((List.getD (xs1.take 8) i 0 : Nat) : Int)))) rfl rfl rfl rfl u32_zero rfl rfl (htn := rfl) rfl (by show (((xs1.take 8)).length + k0) * 4 ≤ 140737488355328; omega) (by omega) rfl rfl rfl rfl rfl rfl rfl rfl rfl rfl ?_
      refine mNil ?_
      refine tN ?_
      exact anyW (r := 0) (rs := [9]) (by kernel_rfl) (wk (sl := [(2, .d (.one (.v (.int .i64 a3)))), (3, .ptr 3 0), (4, .ptr 4 0), (26, .ptr 3 1), (27, .d (.one (lr 8 (xs1.take 8)))), (28, .dead), (29, .d (.one (.v (.int .i64 a3)))), (30, .d (.one (.v (.int .i64 ((k0 : Nat) : Int))))), (31, .own 28)]) (hp := [(3, .box 36 ([.v (.bool s1), lr 8 (xs1.take 8)])), (4, .box 36 ([.v (.bool s2), lr 8 (xs2.take 8)])), (28, .row 55 1 (((xs1.take 8)).length + k0) (appEl ((xs1.take 8)).length (fun i _ => .v (.int .u32 ((List.getD (xs1.take 8) i 0 : Nat) : Int))) (fun _ _ => .v (.int .u32 0))))]) rfl ⟨hs rfl, hs rfl, hs rfl, hs rfl, hs rfl, hs rfl, hs rfl, hs rfl, hs rfl, trivial⟩ ⟨ho rfl, ho rfl, ho rfl, trivial⟩ rfl) hD00111111000
    · skip
      refine mN hTT (.box 36 ([.v (.bool false), .v (.slice none 0 0)])) rfl rfl rfl ?_
      refine mNil ?_
      refine tN ?_
      exact anyW (r := 0) (rs := [7]) (by kernel_rfl) (wk (sl := [(2, .d (.one (.v (.int .i64 a3)))), (3, .ptr 3 0), (4, .ptr 4 0), (26, .ptr 3 1), (27, .d (.one (lr 8 (xs1.take 8)))), (28, .own 28), (29, .d (.one (.v (.int .i64 a3)))), (30, .d (.one (.v (.int .i64 ((k0 : Nat) : Int))))), (7, .ptr 7 0)]) (hp := [(3, .box 36 ([.v (.bool s1), lr 8 (xs1.take 8)])), (4, .box 36 ([.v (.bool s2), lr 8 (xs2.take 8)])), (28, .row 55 1 (((xs1.take 8)).length) (fun i _ => .v (.int .u32 ((List.getD (xs1.take 8) i 0 : Nat) : Int)))), (7, .box 36 ([.v (.bool false), .v (.slice none 0 0)]))]) rfl ⟨hs rfl, hs rfl, hs rfl, hs rfl, hs rfl, hs rfl, hs rfl, hs rfl, hs rfl, trivial⟩ ⟨ho rfl, ho rfl, ho rfl, ho rfl, trivial⟩ rfl) hD00111110010
  refine anyCut 6 #[true, true, true, true, false, false, false, false, false, true, false] ⟨112, [(2, .d (.one (.v (.int .i64 a3)))), (3, .ptr 3 0), (4, .ptr 4 0), (24, .ptr 3 0), (25, .d (.one (.v (.bool s1)))), (26, .ptr 3 1), (27, .d (.one (lr 8 (xs1.take 8)))), (7, .ptr 7 0)], [(3, .box 36 ([.v (.bool s1), lr 8 (xs1.take 8)])), (4, .box 36 ([.v (.bool s2), lr 8 (xs2.take 8)])), (7, .box 36 ([.v (.bool false), .v (.slice none 0 0)]))]⟩ ?_ (fun hD11110000010 => ?_)
  · skip
    refine anyS [4, 5] (by kernel_rfl) rfl ?_
    refine ⟨⟨_, rfl, ?_⟩, ⟨_, rfl, ?_⟩, trivial⟩
    · skip
      refine mCO (aCopyO (K := 8) (xs := (xs1.take 8)) (by decide)) rfl rfl rfl rfl rfl ?_
      refine mNil ?_
      refine tN ?_
      exact anyW (r := 5) (rs := []) (by kernel_rfl) (wk (sl := [(2, .d (.one (.v (.int .i64 a3)))), (3, .ptr 3 0), (4, .ptr 4 0), (24, .ptr 3 0), (25, .d (.one (.v (.bool s1)))), (26, .ptr 3 1), (27, .d (.one (lr 8 (xs1.take 8)))), (28, .own 28), (7, .ptr 7 0)]) (hp := [(3, .box 36 ([.v (.bool s1), lr 8 (xs1.take 8)])), (4, .box 36 ([.v (.bool s2), lr 8 (xs2.take 8)])), (28, .row 55 1 (((xs1.take 8)).length) (fun i _ => .v (.int .u32 ((List.getD (xs1.take 8) i 0 : Nat) : Int)))), (7, .box 36 ([.v (.bool false), .v (.slice none 0 0)]))]) rfl ⟨hs rfl, hs rfl, hs rfl, hs rfl, hs rfl, hs rfl, hs rfl, hs rfl, hs rfl, trivial⟩ ⟨ho rfl, ho rfl, ho rfl, ho rfl, trivial⟩ rfl) hD11111000010
    · skip
      refine mV hTT _ rfl ?_
      refine mNil ?_
      refine tN ?_
      exact anyW (r := 4) (rs := []) (by kernel_rfl) (wk (sl := [(2, .d (.one (.v (.int .i64 a3)))), (3, .ptr 3 0), (4, .ptr 4 0), (24, .ptr 3 0), (25, .d (.one (.v (.bool s1)))), (26, .ptr 3 1), (27, .d (.one (lr 8 (xs1.take 8)))), (29, .d (.one (.v (.int .i64 a3)))), (7, .ptr 7 0)]) (hp := [(3, .box 36 ([.v (.bool s1), lr 8 (xs1.take 8)])), (4, .box 36 ([.v (.bool s2), lr 8 (xs2.take 8)])), (7, .box 36 ([.v (.bool false), .v (.slice none 0 0)]))]) rfl ⟨hs rfl, hs rfl, hs rfl, hs rfl, hs rfl, hs rfl, hs rfl, hs rfl, hs rfl, trivial⟩ ⟨ho rfl, ho rfl, ho rfl, trivial⟩ rfl) hD11110100010
  refine anyCut 6 #[true, false, true, true, true, false, false, false, false, true, false] ⟨112, [(2, .d (.one (.v (.int .i64 a3)))), (3, .ptr 3 0), (4, .ptr 4 0), (24, .ptr 3 0), (26, .ptr 3 1), (27, .d (.one (lr 8 (xs1.take 8)))), (28, .own 28), (7, .ptr 7 0)], [(3, .box 36 ([.v (.bool s1), lr 8 (xs1.take 8)])), (4, .box 36 ([.v (.bool s2), lr 8 (xs2.take 8)])), (28, .row 55 1 (((xs1.take 8)).length) (fun i _ => .v (.int .u32 ((List.getD (xs1.take 8) i 0 : Nat) : Int)))), (7, .box 36 ([.v (.bool false), .v (.slice none 0 0)]))]⟩ ?_ (fun hD10111000010 => ?_)
  · skip
    refine anyS [1, 5] (by kernel_rfl) rfl ?_
    refine ⟨⟨_, rfl, ?_⟩, ⟨_, rfl, ?_⟩, trivial⟩
    · skip
      refine mV hTT (.d (.one (.v (.bool s1)))) rfl ?_
      refine mNil ?_
      refine tN ?_
      exact anyW (r := 5) (rs := []) (by kernel_rfl) (wk (sl := [(2, .d (.one (.v (.int .i64 a3)))), (3, .ptr 3 0), (4, .ptr 4 0), (24, .ptr 3 0), (25, .d (.one (.v (.bool s1)))), (26, .ptr 3 1), (27, .d (.one (lr 8 (xs1.take 8)))), (28, .own 28), (7, .ptr 7 0)]) (hp := [(3, .box 36 ([.v (.bool s1), lr 8 (xs1.take 8)])), (4, .box 36 ([.v (.bool s2), lr 8 (xs2.take 8)])), (28, .row 55 1 (((xs1.take 8)).length) (fun i _ => .v (.int .u32 ((List.getD (xs1.take 8) i 0 : Nat) : Int)))), (7, .box 36 ([.v (.bool false), .v (.slice none 0 0)]))]) rfl ⟨hs rfl, hs rfl, hs rfl, hs rfl, hs rfl, hs rfl, hs rfl, hs rfl, hs rfl, trivial⟩ ⟨ho rfl, ho rfl, ho rfl, ho rfl, trivial⟩ rfl) hD11111000010
    · skip
      refine mV hTT _ rfl ?_
      refine mNil ?_
      refine tN ?_
      exact anyW (r := 1) (rs := [6]) (by kernel_rfl) (wk (sl := [(2, .d (.one (.v (.int .i64 a3)))), (3, .ptr 3 0), (4, .ptr 4 0), (24, .ptr 3 0), (26, .ptr 3 1), (27, .d (.one (lr 8 (xs1.take 8)))), (28, .own 28), (29, .d (.one (.v (.int .i64 a3)))), (7, .ptr 7 0)]) (hp := [(3, .box 36 ([.v (.bool s1), lr 8 (xs1.take 8)])), (4, .box 36 ([.v (.bool s2), lr 8 (xs2.take 8)])), (28, .row 55 1 (((xs1.take 8)).length) (fun i _ => .v (.int .u32 ((List.getD (xs1.take 8) i 0 : Nat) : Int)))), (7, .box 36 ([.v (.bool false), .v (.slice none 0 0)]))]) rfl ⟨hs rfl, hs rfl, hs rfl, hs rfl, hs rfl, hs rfl, hs rfl, hs rfl, hs rfl, trivial⟩ ⟨ho rfl, ho rfl, ho rfl, ho rfl, trivial⟩ rfl) hD10111100010
  refine anyCut 6 #[true, true, true, true, true, false, false, false, false, false, false] ⟨112, [(2, .d (.one (.v (.int .i64 a3)))), (3, .ptr 3 0), (4, .ptr 4 0), (24, .ptr 3 0), (25, .d (.one (.v (.bool s1)))), (26, .ptr 3 1), (27, .d (.one (lr 8 (xs1.take 8)))), (28, .own 28)], [(3, .box 36 ([.v (.bool s1), lr 8 (xs1.take 8)])), (4, .box 36 ([.v (.bool s2), lr 8 (xs2.take 8)])), (28, .row 55 1 (((xs1.take 8)).length) (fun i _ => .v (.int .u32 ((List.getD (xs1.take 8) i 0 : Nat) : Int))))]⟩ ?_ (fun hD11111000000 => ?_)
  · skip
    refine anyS [5, 9] (by kernel_rfl) rfl ?_
    refine ⟨⟨_, rfl, ?_⟩, ⟨_, rfl, ?_⟩, trivial⟩
    · skip
      refine mV hTT _ rfl ?_
      refine mNil ?_
      refine tN ?_
      exact anyW (r := 6) (rs := [9]) (by kernel_rfl) (wk (sl := [(2, .d (.one (.v (.int .i64 a3)))), (3, .ptr 3 0), (4, .ptr 4 0), (24, .ptr 3 0), (25, .d (.one (.v (.bool s1)))), (26, .ptr 3 1), (27, .d (.one (lr 8 (xs1.take 8)))), (28, .own 28), (29, .d (.one (.v (.int .i64 a3))))]) (hp := [(3, .box 36 ([.v (.bool s1), lr 8 (xs1.take 8)])), (4, .box 36 ([.v (.bool s2), lr 8 (xs2.take 8)])), (28, .row 55 1 (((xs1.take 8)).length) (fun i _ => .v (.int .u32 ((List.getD (xs1.take 8) i 0 : Nat) : Int))))]) rfl ⟨hs rfl, hs rfl, hs rfl, hs rfl, hs rfl, hs rfl, hs rfl, hs rfl, hs rfl, trivial⟩ ⟨ho rfl, ho rfl, ho rfl, trivial⟩ rfl) hD11111100000
    · skip
      refine mN hTT (.box 36 ([.v (.bool false), .v (.slice none 0 0)])) rfl rfl rfl ?_
      refine mNil ?_
      refine tN ?_
      exact anyW (r := 5) (rs := []) (by kernel_rfl) (wk (sl := [(2, .d (.one (.v (.int .i64 a3)))), (3, .ptr 3 0), (4, .ptr 4 0), (24, .ptr 3 0), (25, .d (.one (.v (.bool s1)))), (26, .ptr 3 1), (27, .d (.one (lr 8 (xs1.take 8)))), (28, .own 28), (7, .ptr 7 0)]) (hp := [(3, .box 36 ([.v (.bool s1), lr 8 (xs1.take 8)])), (4, .box 36 ([.v (.bool s2), lr 8 (xs2.take 8)])), (28, .row 55 1 (((xs1.take 8)).length) (fun i _ => .v (.int .u32 ((List.getD (xs1.take 8) i 0 : Nat) : Int)))), (7, .box 36 ([.v (.bool false), .v (.slice none 0 0)]))]) rfl ⟨hs rfl, hs rfl, hs rfl, hs rfl, hs rfl, hs rfl, hs rfl, hs rfl, hs rfl, trivial⟩ ⟨ho rfl, ho rfl, ho rfl, ho rfl, trivial⟩ rfl) hD11111000010
  refine anyCut 6 #[true, true, true, false, false, true, false, false, false, true, false] ⟨112, [(2, .d (.one (.v (.int .i64 a3)))), (3, .ptr 3 0), (4, .ptr 4 0), (24, .ptr 3 0), (25, .d (.one (.v (.bool s1)))), (26, .ptr 3 1), (29, .d (.one (.v (.int .i64 a3)))), (7, .ptr 7 0)], [(3, .box 36 ([.v (.bool s1), lr 8 (xs1.take 8)])), (4, .box 36 ([.v (.bool s2), lr 8 (xs2.take 8)])), (7, .box 36 ([.v (.bool false), .v (.slice none 0 0)]))]⟩ ?_ (fun hD11100100010 => ?_)
  · skip
    refine anyS [3] (by kernel_rfl) rfl ?_
    refine ⟨⟨_, rfl, ?_⟩, trivial⟩
    · skip
      refine mV hTT (.d (.one (lr 8 (xs1.take 8)))) rfl ?_
      refine mNil ?_
      refine tN ?_
      exact anyW (r := 4) (rs := []) (by kernel_rfl) (wk (sl := [(2, .d (.one (.v (.int .i64 a3)))), (3, .ptr 3 0), (4, .ptr 4 0), (24, .ptr 3 0), (25, .d (.one (.v (.bool s1)))), (26, .ptr 3 1), (27, .d (.one (lr 8 (xs1.take 8)))), (29, .d (.one (.v (.int .i64 a3)))), (7, .ptr 7 0)]) (hp := [(3, .box 36 ([.v (.bool s1), lr 8 (xs1.take 8)])), (4, .box 36 ([.v (.bool s2), lr 8 (xs2.take 8)])), (7, .box 36 ([.v (.bool false), .v (.slice none 0 0)]))]) rfl ⟨hs rfl, hs rfl, hs rfl, hs rfl, hs rfl, hs rfl, hs rfl, hs rfl, hs rfl, trivial⟩ ⟨ho rfl, ho rfl, ho rfl, trivial⟩ rfl) hD11110100010
  refine anyCut 6 #[true, false, true, true, true, true, false, false, false, false, false] ⟨112, [(2, .d (.one (.v (.int .i64 a3)))), (3, .ptr 3 0), (4, .ptr 4 0), (24, .ptr 3 0), (26, .ptr 3 1), (27, .d (.one (lr 8 (xs1.take 8)))), (28, .own 28), (29, .d (.one (.v (.int .i64 a3))))], [(3, .box 36 ([.v (.bool s1), lr 8 (xs1.take 8)])), (4, .box 36 ([.v (.bool s2), lr 8 (xs2.take 8)])), (28, .row 55 1 (((xs1.take 8)).length) (fun i _ => .v (.int .u32 ((List.getD (xs1.take 8) i 0 : Nat) : Int))))]⟩ ?_ (fun hD10111100000 => ?_)
  · skip
    refine anyS [1, 6, 9] (by kernel_rfl) rfl ?_
    refine ⟨⟨_, rfl, ?_⟩, ⟨_, rfl, ?_⟩, ⟨_, rfl, ?_⟩, trivial⟩
    · skip
      refine mV hTT (.d (.one (.v (.bool s1)))) rfl ?_
      refine mNil ?_
      refine tN ?_
      exact anyW (r := 6) (rs := [9]) (by kernel_rfl) (wk (sl := [(2, .d (.one (.v (.int .i64 a3)))), (3, .ptr 3 0), (4, .ptr 4 0), (24, .ptr 3 0), (25, .d (.one (.v (.bool s1)))), (26, .ptr 3 1), (27, .d (.one (lr 8 (xs1.take 8)))), (28, .own 28), (29, .d (.one (.v (.int .i64 a3))))]) (hp := [(3, .box 36 ([.v (.bool s1), lr 8 (xs1.take 8)])), (4, .box 36 ([.v (.bool s2), lr 8 (xs2.take 8)])), (28, .row 55 1 (((xs1.take 8)).length) (fun i _ => .v (.int .u32 ((List.getD (xs1.take 8) i 0 : Nat) : Int))))]) rfl ⟨hs rfl, hs rfl, hs rfl, hs rfl, hs rfl, hs rfl, hs rfl, hs rfl, hs rfl, trivial⟩ ⟨ho rfl, ho rfl, ho rfl, trivial⟩ rfl) hD11111100000
    · skip
      refine mC0 (ACall.le (dl DV.same (dl DV.same dl0)) (le_int hk0) (aWithin (v := a3) (n := 4) (by decide) (by decide) h31 h32)) rfl rfl rfl ?_
      refine mNil ?_
      refine tN ?_
      exact anyW (r := 1) (rs := [7, 9]) (by kernel_rfl) (wk (sl := [(2, .d (.one (.v (.int .i64 a3)))), (3, .ptr 3 0), (4, .ptr 4 0), (24, .ptr 3 0), (26, .ptr 3 1), (27, .d (.one (lr 8 (xs1.take 8)))), (28, .own 28), (29, .d (.one (.v (.int .i64 a3)))), (30, .d (.one (.v (.int .i64 ((k0 : Nat) : Int)))))]) (hp := [(3, .box 36 ([.v (.bool s1), lr 8 (xs1.take 8)])), (4, .box 36 ([.v (.bool s2), lr 8 (xs2.take 8)])), (28, .row 55 1 (((xs1.take 8)).length) (fun i _ => .v (.int .u32 ((List.getD (xs1.take 8) i 0 : Nat) : Int))))]) rfl ⟨hs rfl, hs rfl, hs rfl, hs rfl, hs rfl, hs rfl, hs rfl, hs rfl, hs rfl, trivial⟩ ⟨ho rfl, ho rfl, ho rfl, trivial⟩ rfl) hD10111110000
    · skip
      refine mN hTT (.box 36 ([.v (.bool false), .v (.slice none 0 0)])) rfl rfl rfl ?_
      refine mNil ?_
      refine tN ?_
      exact anyW (r := 1) (rs := [6]) (by kernel_rfl) (wk (sl := [(2, .d (.one (.v (.int .i64 a3)))), (3, .ptr 3 0), (4, .ptr 4 0), (24, .ptr 3 0), (26, .ptr 3 1), (27, .d (.one (lr 8 (xs1.take 8)))), (28, .own 28), (29, .d (.one (.v (.int .i64 a3)))), (7, .ptr 7 0)]) (hp := [(3, .box 36 ([.v (.bool s1), lr 8 (xs1.take 8)])), (4, .box 36 ([.v (.bool s2), lr 8 (xs2.take 8)])), (28, .row 55 1 (((xs1.take 8)).length) (fun i _ => .v (.int .u32 ((List.getD (xs1.take 8) i 0 : Nat) : Int)))), (7, .box 36 ([.v (.bool false), .v (.slice none 0 0)]))]) rfl ⟨hs rfl, hs rfl, hs rfl, hs rfl, hs rfl, hs rfl, hs rfl, hs rfl, hs rfl, trivial⟩ ⟨ho rfl, ho rfl, ho rfl, ho rfl, trivial⟩ rfl) hD10111100010
  refine anyCut 6 #[false, false, true, true, true, true, false, false, false, true, false] ⟨112, [(2, .d (.one (.v (.int .i64 a3)))), (3, .ptr 3 0), (4, .ptr 4 0), (26, .ptr 3 1), (27, .d (.one (lr 8 (xs1.take 8)))), (28, .own 28), (29, .d (.one (.v (.int .i64 a3)))), (7, .ptr 7 0)], [(3, .box 36 ([.v (.bool s1), lr 8 (xs1.take 8)])), (4, .box 36 ([.v (.bool s2), lr 8 (xs2.take 8)])), (28, .row 55 1 (((xs1.take 8)).length) (fun i _ => .v (.int .u32 ((List.getD (xs1.take 8) i 0 : Nat) : Int)))), (7, .box 36 ([.v (.bool false), .v (.slice none 0 0)]))]⟩ ?_ (fun hD00111100010 => ?_)
  · skip
    refine anyS [0, 6] (by kernel_rfl) rfl ?_
    refine ⟨⟨_, rfl, ?_⟩, ⟨_, rfl, ?_⟩, trivial⟩
    · skip
      refine mV hTT (.ptr 3 0) rfl ?_
      refine mNil ?_
      refine tN ?_
      exact anyW (r := 1) (rs := [6]) (by kernel_rfl) (wk (sl := [(2, .d (.one (.v (.int .i64 a3)))), (3, .ptr 3 0), (4, .ptr 4 0), (24, .ptr 3 0), (26, .ptr 3 1), (27, .d (.one (lr 8 (xs1.take 8)))), (28, .own 28), (29, .d (.one (.v (.int .i64 a3)))), (7, .ptr 7 0)]) (hp := [(3, .box 36 ([.v (.bool s1), lr 8 (xs1.take 8)])), (4, .box 36 ([.v (.bool s2), lr 8 (xs2.take 8)])), (28, .row 55 1 (((xs1.take 8)).length) (fun i _ => .v (.int .u32 ((List.getD (xs1.take 8) i 0 : Nat) : Int)))), (7, .box 36 ([.v (.bool false), .v (.slice none 0 0)]))]) rfl ⟨hs rfl, hs rfl, hs rfl, hs rfl, hs rfl, hs rfl, hs rfl, hs rfl, hs rfl, trivial⟩ ⟨ho rfl, ho rfl, ho rfl, ho rfl, trivial⟩ rfl) hD10111100010
    · skip
      refine mC0 (ACall.le (dl DV.same (dl DV.same dl0)) (le_int hk0) (aWithin (v := a3) (n := 4) (by decide) (by decide) h31 h32)) rfl rfl rfl ?_
      refine mNil ?_
      refine tN ?_
      exact anyW (r := 0) (rs := [7]) (by kernel_rfl) (wk (sl := [(2, .d (.one (.v (.int .i64 a3)))), (3, .ptr 3 0), (4, .ptr 4 0), (26, .ptr 3 1), (27, .d (.one (lr 8 (xs1.take 8)))), (28, .own 28), (29, .d (.one (.v (.int .i64 a3)))), (30, .d (.one (.v (.int .i64 ((k0 : Nat) : Int))))), (7, .ptr 7 0)]) (hp := [(3, .box 36 ([.v (.bool s1), lr 8 (xs1.take 8)])), (4, .box 36 ([.v (.bool s2), lr 8 (xs2.take 8)])), (28, .row 55 1 (((xs1.take 8)).length) (fun i _ => .v (.int .u32 ((List.getD (xs1.take 8) i 0 : Nat) : Int)))), (7, .box 36 ([.v (.bool false), .v (.slice none 0 0)]))]) rfl ⟨hs rfl, hs rfl, hs rfl, hs rfl, hs rfl, hs rfl, hs rfl, hs rfl, hs rfl, trivial⟩ ⟨ho rfl, ho rfl, ho rfl, ho rfl, trivial⟩ rfl) hD00111110010
  refine anyCut 6 #[true, false, true, true, false, true, false, false, false, true, false] ⟨112, [(2, .d (.one (.v (.int .i64 a3)))), (3, .ptr 3 0), (4, .ptr 4 0), (24, .ptr 3 0), (26, .ptr 3 1), (27, .d (.one (lr 8 (xs1.take 8)))), (29, .d (.one (.v (.int .i64 a3)))), (7, .ptr 7 0)], [(3, .box 36 ([.v (.bool s1), lr 8 (xs1.take 8)])), (4, .box 36 ([.v (.bool s2), lr 8 (xs2.take 8)])), (7, .box 36 ([.v (.bool false), .v (.slice none 0 0)]))]⟩ ?_ (fun hD10110100010 => ?_)
  · skip
    refine anyS [1, 4] (by kernel_rfl) rfl ?_
    refine ⟨⟨_, rfl, ?_⟩, ⟨_, rfl, ?_⟩, trivial⟩
    · skip
      refine mV hTT (.d (.one (.v (.bool s1)))) rfl ?_
      refine mNil ?_
      refine tN ?_
      exact anyW (r := 4) (rs := []) (by kernel_rfl) (wk (sl := [(2, .d (.one (.v (.int .i64 a3)))), (3, .ptr 3 0), (4, .ptr 4 0), (24, .ptr 3 0), (25, .d (.one (.v (.bool s1)))), (26, .ptr 3 1), (27, .d (.one (lr 8 (xs1.take 8)))), (29, .d (.one (.v (.int .i64 a3)))), (7, .ptr 7 0)]) (hp := [(3, .box 36 ([.v (.bool s1), lr 8 (xs1.take 8)])), (4, .box 36 ([.v (.bool s2), lr 8 (xs2.take 8)])), (7, .box 36 ([.v (.bool false), .v (.slice none 0 0)]))]) rfl ⟨hs rfl, hs rfl, hs rfl, hs rfl, hs rfl, hs rfl, hs rfl, hs rfl, hs rfl, trivial⟩ ⟨ho rfl, ho rfl, ho rfl, trivial⟩ rfl) hD11110100010
    · skip
      refine mCO (aCopyO (K := 8) (xs := (xs1.take 8)) (by decide)) rfl rfl rfl rfl rfl ?_
      refine mNil ?_
      refine tN ?_
      exact anyW (r := 1) (rs := [6]) (by kernel_rfl) (wk (sl := [(2, .d (.one (.v (.int .i64 a3)))), (3, .ptr 3 0), (4, .ptr 4 0), (24, .ptr 3 0), (26, .ptr 3 1), (27, .d (.one (lr 8 (xs1.take 8)))), (28, .own 28), (29, .d (.one (.v (.int .i64 a3)))), (7, .ptr 7 0)]) (hp := [(3, .box 36 ([.v (.bool s1), lr 8 (xs1.take 8)])), (4, .box 36 ([.v (.bool s2), lr 8 (xs2.take 8)])), (28, .row 55 1 (((xs1.take 8)).length) (fun i _ => .v (.int .u32 ((List.getD (xs1.take 8) i 0 : Nat) : Int)))), (7, .box 36 ([.v (.bool false), .v (.slice none 0 0)]))]) rfl ⟨hs rfl, hs rfl, hs rfl, hs rfl, hs rfl, hs rfl, hs rfl, hs rfl, hs rfl, trivial⟩ ⟨ho rfl, ho rfl, ho rfl, ho rfl, trivial⟩ rfl) hD10111100010
  refine anyCut 6 #[true, true, true, true, false, true, false, false, false, false, false] ⟨112, [(2, .d (.one (.v (.int .i64 a3)))), (3, .ptr 3 0), (4, .ptr 4 0), (24, .ptr 3 0), (25, .d (.one (.v (.bool s1)))), (26, .ptr 3 1), (27, .d (.one (lr 8 (xs1.take 8)))), (29, .d (.one (.v (.int .i64 a3))))], [(3, .box 36 ([.v (.bool s1), lr 8 (xs1.take 8)])), (4, .box 36 ([.v (.bool s2), lr 8 (xs2.take 8)]))]⟩ ?_ (fun hD11110100000 => ?_)
  · skip
    refine anyS [4, 9] (by kernel_rfl) rfl ?_
    refine ⟨⟨_, rfl, ?_⟩, ⟨_, rfl, ?_⟩, trivial⟩
    · skip
      refine mCO (aCopyO (K := 8) (xs := (xs1.take 8)) (by decide)) rfl rfl rfl rfl rfl ?_
      refine mNil ?_
      refine tN ?_
      exact anyW (r := 6) (rs := [9]) (by kernel_rfl) (wk (sl := [(2, .d (.one (.v (.int .i64 a3)))), (3, .ptr 3 0), (4, .ptr 4 0), (24, .ptr 3 0), (25, .d (.one (.v (.bool s1)))), (26, .ptr 3 1), (27, .d (.one (lr 8 (xs1.take 8)))), (28, .own 28), (29, .d (.one (.v (.int .i64 a3))))]) (hp := [(3, .box 36 ([.v (.bool s1), lr 8 (xs1.take 8)])), (4, .box 36 ([.v (.bool s2), lr 8 (xs2.take 8)])), (28, .row 55 1 (((xs1.take 8)).length) (fun i _ => .v (.int .u32 ((List.getD (xs1.take 8) i 0 : Nat) : Int))))]) rfl ⟨hs rfl, hs rfl, hs rfl, hs rfl, hs rfl, hs rfl, hs rfl, hs rfl, hs rfl, trivial⟩ ⟨ho rfl, ho rfl, ho rfl, trivial⟩ rfl) hD11111100000
    · skip
      refine mN hTT (.box 36 ([.v (.bool false), .v (.slice none 0 0)])) rfl rfl rfl ?_
      refine mNil ?_
      refine tN ?_
      exact anyW (r := 4) (rs := []) (by kernel_rfl) (wk (sl := [(2, .d (.one (.v (.int .i64 a3)))), (3, .ptr 3 0), (4, .ptr 4 0), (24, .ptr 3 0), (25, .d (.one (.v (.bool s1)))), (26, .ptr 3 1), (27, .d (.one (lr 8 (xs1.take 8)))), (29, .d (.one (.v (.int .i64 a3)))), (7, .ptr 7 0)]) (hp := [(3, .box 36 ([.v (.bool s1), lr 8 (xs1.take 8)])), (4, .box 36 ([.v (.bool s2), lr 8 (xs2.take 8)])), (7, .box 36 ([.v (.bool false), .v (.slice none 0 0)]))]) rfl ⟨hs rfl, hs rfl, hs rfl, hs rfl, hs rfl, hs rfl, hs rfl, hs rfl, hs rfl, trivial⟩ ⟨ho rfl, ho rfl, ho rfl, trivial⟩ rfl) hD11110100010
  refine anyCut 7 #[true, true, true, false, false, false, false, false, false, true, false] ⟨112, [(2, .d (.one (.v (.int .i64 a3)))), (3, .ptr 3 0), (4, .ptr 4 0), (24, .ptr 3 0), (25, .d (.one (.v (.bool s1)))), (26, .ptr 3 1), (7, .ptr 7 0)], [(3, .box 36 ([.v (.bool s1), lr 8 (xs1.take 8)])), (4, .box 36 ([.v (.bool s2), lr 8 (xs2.take 8)])), (7, .box 36 ([.v (.bool false), .v (.slice none 0 0)]))]⟩ ?_ (fun hD11100000010 => ?_)
  · skip
    refine anyS [3, 5] (by kernel_rfl) rfl ?_
    refine ⟨⟨_, rfl, ?_⟩, ⟨_, rfl, ?_⟩, trivial⟩
    · skip
      refine mV hTT (.d (.one (lr 8 (xs1.take 8)))) rfl ?_
      refine mNil ?_
      refine tN ?_
      exact anyW (r := 4) (rs := [5]) (by kernel_rfl) (wk (sl := [(2, .d (.one (.v (.int .i64 a3)))), (3, .ptr 3 0), (4, .ptr 4 0), (24, .ptr 3 0), (25, .d (.one (.v (.bool s1)))), (26, .ptr 3 1), (27, .d (.one (lr 8 (xs1.take 8)))), (7, .ptr 7 0)]) (hp := [(3, .box 36 ([.v (.bool s1), lr 8 (xs1.take 8)])), (4, .box 36 ([.v (.bool s2), lr 8 (xs2.take 8)])), (7, .box 36 ([.v (.bool false), .v (.slice none 0 0)]))]) rfl ⟨hs rfl, hs rfl, hs rfl, hs rfl, hs rfl, hs rfl, hs rfl, hs rfl, trivial⟩ ⟨ho rfl, ho rfl, ho rfl, trivial⟩ rfl) hD11110000010
    · skip
      refine mV hTT _ rfl ?_
      refine mNil ?_
      refine tN ?_
      exact anyW (r := 3) (rs := []) (by kernel_rfl) (wk (sl := [(2, .d (.one (.v (.int .i64 a3)))), (3, .ptr 3 0), (4, .ptr 4 0), (24, .ptr 3 0), (25, .d (.one (.v (.bool s1)))), (26, .ptr 3 1), (29, .d (.one (.v (.int .i64 a3)))), (7, .ptr 7 0)]) (hp := [(3, .box 36 ([.v (.bool s1), lr 8 (xs1.take 8)])), (4, .box 36 ([.v (.bool s2), lr 8 (xs2.take 8)])), (7, .box 36 ([.v (.bool false), .v (.slice none 0 0)]))]) rfl ⟨hs rfl, hs rfl, hs rfl, hs rfl, hs rfl, hs rfl, hs rfl, hs rfl, trivial⟩ ⟨ho rfl, ho rfl, ho rfl, trivial⟩ rfl) hD11100100010
  refine anyCut 7 #[true, false, true, true, false, true, false, false, false, false, false] ⟨112, [(2, .d (.one (.v (.int .i64 a3)))), (3, .ptr 3 0), (4, .ptr 4 0), (24, .ptr 3 0), (26, .ptr 3 1), (27, .d (.one (lr 8 (xs1.take 8)))), (29, .d (.one (.v (.int .i64 a3))))], [(3, .box 36 ([.v (.bool s1), lr 8 (xs1.take 8)])), (4, .box 36 ([.v (.bool s2), lr 8 (xs2.take 8)]))]⟩ ?_ (fun hD10110100000 => ?_)
  · skip
    refine anyS [1, 4, 9] (by kernel_rfl) rfl ?_
    refine ⟨⟨_, rfl, ?_⟩, ⟨_, rfl, ?_⟩, ⟨_, rfl, ?_⟩, trivial⟩
    · skip
      refine mV hTT (.d (.one (.v (.bool s1)))) rfl ?_
      refine mNil ?_
      refine tN ?_
      exact anyW (r := 4) (rs := [9]) (by kernel_rfl) (wk (sl := [(2, .d (.one (.v (.int .i64 a3)))), (3, .ptr 3 0), (4, .ptr 4 0), (24, .ptr 3 0), (25, .d (.one (.v (.bool s1)))), (26, .ptr 3 1), (27, .d (.one (lr 8 (xs1.take 8)))), (29, .d (.one (.v (.int .i64 a3))))]) (hp := [(3, .box 36 ([.v (.bool s1), lr 8 (xs1.take 8)])), (4, .box 36 ([.v (.bool s2), lr 8 (xs2.take 8)]))]) rfl ⟨hs rfl, hs rfl, hs rfl, hs rfl, hs rfl, hs rfl, hs rfl, hs rfl, trivial⟩ ⟨ho rfl, ho rfl, trivial⟩ rfl) hD11110100000
    · skip
      refine mCO (aCopyO (K := 8) (xs := (xs1.take 8)) (by decide)) rfl rfl rfl rfl rfl ?_
      refine mNil ?_
      refine tN ?_
      exact anyW (r := 1) (rs := [6, 9]) (by kernel_rfl) (wk (sl := [(2, .d (.one (.v (.int .i64 a3)))), (3, .ptr 3 0), (4, .ptr 4 0), (24, .ptr 3 0), (26, .ptr 3 1), (27, .d (.one (lr 8 (xs1.take 8)))), (28, .own 28), (29, .d (.one (.v (.int .i64 a3))))]) (hp := [(3, .box 36 ([.v (.bool s1), lr 8 (xs1.take 8)])), (4, .box 36 ([.v (.bool s2), lr 8 (xs2.take 8)])), (28, .row 55 1 (((xs1.take 8)).length) (fun i _ => .v (.int .u32 ((List.getD (xs1.take 8) i 0 : Nat) : Int))))]) rfl ⟨hs rfl, hs rfl, hs rfl, hs rfl, hs rfl, hs rfl, hs rfl, hs rfl, trivial⟩ ⟨ho rfl, ho rfl, ho rfl, trivial⟩ rfl) hD10111100000
    · skip
      refine mN hTT (.box 36 ([.v (.bool false), .v (.slice none 0 0)])) rfl rfl rfl ?_
      refine mNil ?_
      refine tN ?_
      exact anyW (r := 1) (rs := [4]) (by kernel_rfl) (wk (sl := [(2, .d (.one (.v (.int .i64 a3)))), (3, .ptr 3 0), (4, .ptr 4 0), (24, .ptr 3 0), (26, .ptr 3 1), (27, .d (.one (lr 8 (xs1.take 8)))), (29, .d (.one (.v (.int .i64 a3)))), (7, .ptr 7 0)]) (hp := [(3, .box 36 ([.v (.bool s1), lr 8 (xs1.take 8)])), (4, .box 36 ([.v (.bool s2), lr 8 (xs2.take 8)])), (7, .box 36 ([.v (.bool false), .v (.slice none 0 0)]))]) rfl ⟨hs rfl, hs rfl, hs rfl, hs rfl, hs rfl, hs rfl, hs rfl, hs rfl, trivial⟩ ⟨ho rfl, ho rfl, ho rfl, trivial⟩ rfl) hD10110100010
  refine anyCut 7 #[false, false, true, true, true, false, false, false, false, true, false] ⟨112, [(2, .d (.one (.v (.int .i64 a3)))), (3, .ptr 3 0), (4, .ptr 4 0), (26, .ptr 3 1), (27, .d (.one (lr 8 (xs1.take 8)))), (28, .own 28), (7, .ptr 7 0)], [(3, .box 36 ([.v (.bool s1), lr 8 (xs1.take 8)])), (4, .box 36 ([.v (.bool s2), lr 8 (xs2.take 8)])), (28, .row 55 1 (((xs1.take 8)).length) (fun i _ => .v (.int .u32 ((List.getD (xs1.take 8) i 0 : Nat) : Int)))), (7, .box 36 ([.v (.bool false), .v (.slice none 0 0)]))]⟩ ?_ (fun hD00111000010 => ?_)
  · skip
    refine anyS [0, 5] (by kernel_rfl) rfl ?_
    refine ⟨⟨_, rfl, ?_⟩, ⟨_, rfl, ?_⟩, trivial⟩
    · skip
      refine mV hTT (.ptr 3 0) rfl ?_
      refine mNil ?_
      refine tN ?_
      exact anyW (r := 1) (rs := [5]) (by kernel_rfl) (wk (sl := [(2, .d (.one (.v (.int .i64 a3)))), (3, .ptr 3 0), (4, .ptr 4 0), (24, .ptr 3 0), (26, .ptr 3 1), (27, .d (.one (lr 8 (xs1.take 8)))), (28, .own 28), (7, .ptr 7 0)]) (hp := [(3, .box 36 ([.v (.bool s1), lr 8 (xs1.take 8)])), (4, .box 36 ([.v (.bool s2), lr 8 (xs2.take 8)])), (28, .row 55 1 (((xs1.take 8)).length) (fun i _ => .v (.int .u32 ((List.getD (xs1.take 8) i 0 : Nat) : Int)))), (7, .box 36 ([.v (.bool false), .v (.slice none 0 0)]))]) rfl ⟨hs rfl, hs rfl, hs rfl, hs rfl, hs rfl, hs rfl, hs rfl, hs rfl, trivial⟩ ⟨ho rfl, ho rfl, ho rfl, ho rfl, trivial⟩ rfl) hD10111000010
    · skip
      refine mV hTT _ rfl ?_
      refine mNil ?_
      refine tN ?_
      exact anyW (r := 0) (rs := [6]) (by kernel_rfl) (wk (sl := [(2, .d (.one (.v (.int .i64 a3)))), (3, .ptr 3 0), (4, .ptr 4 0), (26, .ptr 3 1), (27, .d (.one (lr 8 (xs1.take 8)))), (28, .own 28), (29, .d (.one (.v (.int .i64 a3)))), (7, .ptr 7 0)]) (hp := [(3, .box 36 ([.v (.bool s1), lr 8 (xs1.take 8)])), (4, .box 36 ([.v (.bool s2), lr 8 (xs2.take 8)])), (28, .row 55 1 (((xs1.take 8)).length) (fun i _ => .v (.int .u32 ((List.getD (xs1.take 8) i 0 : Nat) : Int)))), (7, .box 36 ([.v (.bool false), .v (.slice none 0 0)]))]) rfl ⟨hs rfl, hs rfl, hs rfl, hs rfl, hs rfl, hs rfl, hs rfl, hs rfl, trivial⟩ ⟨ho rfl, ho rfl, ho rfl, ho rfl, trivial⟩ rfl) hD00111100010
  refine anyCut 7 #[true, true, false, false, false, true, false, false, false, true, false] ⟨112, [(2, .d (.one (.v (.int .i64 a3)))), (3, .ptr 3 0), (4, .ptr 4 0), (24, .ptr 3 0), (25, .d (.one (.v (.bool s1)))), (29, .d (.one (.v (.int .i64 a3)))), (7, .ptr 7 0)], [(3, .box 36 ([.v (.bool s1), lr 8 (xs1.take 8)])), (4, .box 36 ([.v (.bool s2), lr 8 (xs2.take 8)])), (7, .box 36 ([.v (.bool false), .v (.slice none 0 0)]))]⟩ ?_ (fun hD11000100010 => ?_)
  · skip
    refine anyS [2] (by kernel_rfl) rfl ?_
    refine ⟨⟨_, rfl, ?_⟩, trivial⟩
    · skip
      refine mV hTT (.ptr 3 1) rfl ?_
      refine mNil ?_
      refine tN ?_
      exact anyW (r := 3) (rs := []) (by kernel_rfl) (wk (sl := [(2, .d (.one (.v (.int .i64 a3)))), (3, .ptr 3 0), (4, .ptr 4 0), (24, .ptr 3 0), (25, .d (.one (.v (.bool s1)))), (26, .ptr 3 1), (29, .d (.one (.v (.int .i64 a3)))), (7, .ptr 7 0)]) (hp := [(3, .box 36 ([.v (.bool s1), lr 8 (xs1.take 8)])), (4, .box 36 ([.v (.bool s2), lr 8 (xs2.take 8)])), (7, .box 36 ([.v (.bool false), .v (.slice none 0 0)]))]) rfl ⟨hs rfl, hs rfl, hs rfl, hs rfl, hs rfl, hs rfl, hs rfl, hs rfl, trivial⟩ ⟨ho rfl, ho rfl, ho rfl, trivial⟩ rfl) hD11100100010
  refine anyCut 7 #[false, false, true, true, true, true, false, false, false, false, false] ⟨112, [(2, .d (.one (.v (.int .i64 a3)))), (3, .ptr 3 0), (4, .ptr 4 0), (26, .ptr 3 1), (27, .d (.one (lr 8 (xs1.take 8)))), (28, .own 28), (29, .d (.one (.v (.int .i64 a3))))], [(3, .box 36 ([.v (.bool s1), lr 8 (xs1.take 8)])), (4, .box 36 ([.v (.bool s2), lr 8 (xs2.take 8)])), (28, .row 55 1 (((xs1.take 8)).length) (fun i _ => .v (.int .u32 ((List.getD (xs1.take 8) i 0 : Nat) : Int))))]⟩ ?_ (fun hD00111100000 => ?_)
  · skip
    refine anyS [0, 6, 9] (by kernel_rfl) rfl ?_
    refine ⟨⟨_, rfl, ?_⟩, ⟨_, rfl, ?_⟩, ⟨_, rfl, ?_⟩, trivial⟩
    · skip
      refine mV hTT (.ptr 3 0) rfl ?_
      refine mNil ?_
      refine tN ?_
      exact anyW (r := 1) (rs := [6, 9]) (by kernel_rfl) (wk (sl := [(2, .d (.one (.v (.int .i64 a3)))), (3, .ptr 3 0), (4, .ptr 4 0), (24, .ptr 3 0), (26, .ptr 3 1), (27, .d (.one (lr 8 (xs1.take 8)))), (28, .own 28), (29, .d (.one (.v (.int .i64 a3))))]) (hp := [(3, .box 36 ([.v (.bool s1), lr 8 (xs1.take 8)])), (4, .box 36 ([.v (.bool s2), lr 8 (xs2.take 8)])), (28, .row 55 1 (((xs1.take 8)).length) (fun i _ => .v (.int .u32 ((List.getD (xs1.take 8) i 0 : Nat) : Int))))]) rfl ⟨hs rfl, hs rfl, hs rfl, hs rfl, hs rfl, hs rfl, hs rfl, hs rfl, trivial⟩ ⟨ho rfl, ho rfl, ho rfl, trivial⟩ rfl) hD10111100000
    · skip
      refine mC0 (ACall.le (dl DV.same (dl DV.same dl0)) (le_int hk0) (aWithin (v := a3) (n := 4) (by decide) (by decide) h31 h32)) rfl rfl rfl ?_
      refine mNil ?_
      refine tN ?_
      exact anyW (r := 0) (rs := [7, 9]) (by kernel_rfl) (wk (sl := [(2, .d (.one (.v (.int .i64 a3)))), (3, .ptr 3 0), (4, .ptr 4 0), (26, .ptr 3 1), (27, .d (.one (lr 8 (xs1.take 8)))), (28, .own 28), (29, .d (.one (.v (.int .i64 a3)))), (30, .d (.one (.v (.int .i64 ((k0 : Nat) : Int)))))]) (hp := [(3, .box 36 ([.v (.bool s1), lr 8 (xs1.take 8)])), (4, .box 36 ([.v (.bool s2), lr 8 (xs2.take 8)])), (28, .row 55 1 (((xs1.take 8)).length) (fun i _ => .v (.int .u32 ((List.getD (xs1.take 8) i 0 : Nat) : Int))))]) rfl ⟨hs rfl, hs rfl, hs rfl, hs rfl, hs rfl, hs rfl, hs rfl, hs rfl, trivial⟩ ⟨ho rfl, ho rfl, ho rfl, trivial⟩ rfl) hD00111110000
    · skip
      refine mN hTT (.box 36 ([.v (.bool false), .v (.slice none 0 0)])) rfl rfl rfl ?_
      refine mNil ?_
      refine tN ?_
      exact anyW (r := 0) (rs := [6]) (by kernel_rfl) (wk (sl := [(2, .d (.one (.v (.int .i64 a3)))), (3, .ptr 3 0), (4, .ptr 4 0), (26, .ptr 3 1), (27, .d (.one (lr 8 (xs1.take 8)))), (28, .own 28), (29, .d (.one (.v (.int .i64 a3)))), (7, .ptr 7 0)]) (hp := [(3, .box 36 ([.v (.bool s1), lr 8 (xs1.take 8)])), (4, .box 36 ([.v (.bool s2), lr 8 (xs2.take 8)])), (28, .row 55 1 (((xs1.take 8)).length) (fun i _ => .v (.int .u32 ((List.getD (xs1.take 8) i 0 : Nat) : Int)))), (7, .box 36 ([.v (.bool false), .v (.slice none 0 0)]))]) rfl ⟨hs rfl, hs rfl, hs rfl, hs rfl, hs rfl, hs rfl, hs rfl, hs rfl, trivial⟩ ⟨ho rfl, ho rfl, ho rfl, ho rfl, trivial⟩ rfl) hD00111100010
  refine anyCut 7 #[true, false, true, true, false, false, false, false, false, true, false] ⟨112, [(2, .d (.one (.v (.int .i64 a3)))), (3, .ptr 3 0), (4, .ptr 4 0), (24, .ptr 3 0), (26, .ptr 3 1), (27, .d (.one (lr 8 (xs1.take 8)))), (7, .ptr 7 0)], [(3, .box 36 ([.v (.bool s1), lr 8 (xs1.take 8)])), (4, .box 36 ([.v (.bool s2), lr 8 (xs2.take 8)])), (7, .box 36 ([.v (.bool false), .v (.slice none 0 0)]))]⟩ ?_ (fun hD10110000010 => ?_)
  · skip
    refine anyS [1, 4, 5] (by kernel_rfl) rfl ?_
    refine ⟨⟨_, rfl, ?_⟩, ⟨_, rfl, ?_⟩, ⟨_, rfl, ?_⟩, trivial⟩
    · skip
      refine mV hTT (.d (.one (.v (.bool s1)))) rfl ?_
      refine mNil ?_
      refine tN ?_
      exact anyW (r := 4) (rs := [5]) (by kernel_rfl) (wk (sl := [(2, .d (.one (.v (.int .i64 a3)))), (3, .ptr 3 0), (4, .ptr 4 0), (24, .ptr 3 0), (25, .d (.one (.v (.bool s1)))), (26, .ptr 3 1), (27, .d (.one (lr 8 (xs1.take 8)))), (7, .ptr 7 0)]) (hp := [(3, .box 36 ([.v (.bool s1), lr 8 (xs1.take 8)])), (4, .box 36 ([.v (.bool s2), lr 8 (xs2.take 8)])), (7, .box 36 ([.v (.bool false), .v (.slice none 0 0)]))]) rfl ⟨hs rfl, hs rfl, hs rfl, hs rfl, hs rfl, hs rfl, hs rfl, hs rfl, trivial⟩ ⟨ho rfl, ho rfl, ho rfl, trivial⟩ rfl) hD11110000010
    · skip
      refine mCO (aCopyO (K := 8) (xs := (xs1.take 8)) (by decide)) rfl rfl rfl rfl rfl ?_
      refine mNil ?_
      refine tN ?_
      exact anyW (r := 1) (rs := [5]) (by kernel_rfl) (wk (sl := [(2, .d (.one (.v (.int .i64 a3)))), (3, .ptr 3 0), (4, .ptr 4 0), (24, .ptr 3 0), (26, .ptr 3 1), (27, .d (.one (lr 8 (xs1.take 8)))), (28, .own 28), (7, .ptr 7 0)]) (hp := [(3, .box 36 ([.v (.bool s1), lr 8 (xs1.take 8)])), (4, .box 36 ([.v (.bool s2), lr 8 (xs2.take 8)])), (28, .row 55 1 (((xs1.take 8)).length) (fun i _ => .v (.int .u32 ((List.getD (xs1.take 8) i 0 : Nat) : Int)))), (7, .box 36 ([.v (.bool false), .v (.slice none 0 0)]))]) rfl ⟨hs rfl, hs rfl, hs rfl, hs rfl, hs rfl, hs rfl, hs rfl, hs rfl, trivial⟩ ⟨ho rfl, ho rfl, ho rfl, ho rfl, trivial⟩ rfl) hD10111000010
    · skip
      refine mV hTT _ rfl ?_
      refine mNil ?_
      refine tN ?_
      exact anyW (r := 1) (rs := [4]) (by kernel_rfl) (wk (sl := [(2, .d (.one (.v (.int .i64 a3)))), (3, .ptr 3 0), (4, .ptr 4 0), (24, .ptr 3 0), (26, .ptr 3 1), (27, .d (.one (lr 8 (xs1.take 8)))), (29, .d (.one (.v (.int .i64 a3)))), (7, .ptr 7 0)]) (hp := [(3, .box 36 ([.v (.bool s1), lr 8 (xs1.take 8)])), (4, .box 36 ([.v (.bool s2), lr 8 (xs2.take 8)])), (7, .box 36 ([.v (.bool false), .v (.slice none 0 0)]))]) rfl ⟨hs rfl, hs rfl, hs rfl, hs rfl, hs rfl, hs rfl, hs rfl, hs rfl, trivial⟩ ⟨ho rfl, ho rfl, ho rfl, trivial⟩ rfl) hD10110100010
  refine anyCut 7 #[true, false, true, true, true, false, false, false, false, false, false] ⟨112, [(2, .d (.one (.v (.int .i64 a3)))), (3, .ptr 3 0), (4, .ptr 4 0), (24, .ptr 3 0), (26, .ptr 3 1), (27, .d (.one (lr 8 (xs1.take 8)))), (28, .own 28)], [(3, .box 36 ([.v (.bool s1), lr 8 (xs1.take 8)])), (4, .box 36 ([.v (.bool s2), lr 8 (xs2.take 8)])), (28, .row 55 1 (((xs1.take 8)).length) (fun i _ => .v (.int .u32 ((List.getD (xs1.take 8) i 0 : Nat) : Int))))]⟩ ?_ (fun hD10111000000 => ?_)
  · skip
    refine anyS [1, 5, 9] (by kernel_rfl) rfl ?_
    refine ⟨⟨_, rfl, ?_⟩, ⟨_, rfl, ?_⟩, ⟨_, rfl, ?_⟩, trivial⟩
    · skip
      refine mV hTT (.d (.one (.v (.bool s1)))) rfl ?_
      refine mNil ?_
      refine tN ?_
      exact anyW (r := 5) (rs := [9]) (by kernel_rfl) (wk (sl := [(2, .d (.one (.v (.int .i64 a3)))), (3, .ptr 3 0), (4, .ptr 4 0), (24, .ptr 3 0), (25, .d (.one (.v (.bool s1)))), (26, .ptr 3 1), (27, .d (.one (lr 8 (xs1.take 8)))), (28, .own 28)]) (hp := [(3, .box 36 ([.v (.bool s1), lr 8 (xs1.take 8)])), (4, .box 36 ([.v (.bool s2), lr 8 (xs2.take 8)])), (28, .row 55 1 (((xs1.take 8)).length) (fun i _ => .v (.int .u32 ((List.getD (xs1.take 8) i 0 : Nat) : Int))))]) rfl ⟨hs rfl, hs rfl, hs rfl, hs rfl, hs rfl, hs rfl, hs rfl, hs rfl, trivial⟩ ⟨ho rfl, ho rfl, ho rfl, trivial⟩ rfl) hD11111000000
    · skip
      refine mV hTT _ rfl ?_
      refine mNil ?_
      refine tN ?_
      exact anyW (r := 1) (rs := [6, 9]) (by kernel_rfl) (wk (sl := [(2, .d (.one (.v (.int .i64 a3)))), (3, .ptr 3 0), (4, .ptr 4 0), (24, .ptr 3 0), (26, .ptr 3 1), (27, .d (.one (lr 8 (xs1.take 8)))), (28, .own 28), (29, .d (.one (.v (.int .i64 a3))))]) (hp := [(3, .box 36 ([.v (.bool s1), lr 8 (xs1.take 8)])), (4, .box 36 ([.v (.bool s2), lr 8 (xs2.take 8)])), (28, .row 55 1 (((xs1.take 8)).length) (fun i _ => .v (.int .u32 ((List.getD (xs1.take 8) i 0 : Nat) : Int))))]) rfl ⟨hs rfl, hs rfl, hs rfl, hs rfl, hs rfl, hs rfl, hs rfl, hs rfl, trivial⟩ ⟨ho rfl, ho rfl, ho rfl, trivial⟩ rfl) hD10111100000
    · skip
      refine mN hTT (.box 36 ([.v (.bool false), .v (.slice none 0 0)])) rfl rfl rfl ?_
      refine mNil ?_
      refine tN ?_
      exact anyW (r := 1) (rs := [5]) (by kernel_rfl) (wk (sl := [(2, .d (.one (.v (.int .i64 a3)))), (3, .ptr 3 0), (4, .ptr 4 0), (24, .ptr 3 0), (26, .ptr 3 1), (27, .d (.one (lr 8 (xs1.take 8)))), (28, .own 28), (7, .ptr 7 0)]) (hp := [(3, .box 36 ([.v (.bool s1), lr 8 (xs1.take 8)])), (4, .box 36 ([.v (.bool s2), lr 8 (xs2.take 8)])), (28, .row 55 1 (((xs1.take 8)).length) (fun i _ => .v (.int .u32 ((List.getD (xs1.take 8) i 0 : Nat) : Int)))), (7, .box 36 ([.v (.bool false), .v (.slice none 0 0)]))]) rfl ⟨hs rfl, hs rfl, hs rfl, hs rfl, hs rfl, hs rfl, hs rfl, hs rfl, trivial⟩ ⟨ho rfl, ho rfl, ho rfl, ho rfl, trivial⟩ rfl) hD10111000010
  refine anyCut 7 #[false, false, true, true, false, true, false, false, false, true, false] ⟨112, [(2, .d (.one (.v (.int .i64 a3)))), (3, .ptr 3 0), (4, .ptr 4 0), (26, .ptr 3 1), (27, .d (.one (lr 8 (xs1.take 8)))), (29, .d (.one (.v (.int .i64 a3)))), (7, .ptr 7 0)], [(3, .box 36 ([.v (.bool s1), lr 8 (xs1.take 8)])), (4, .box 36 ([.v (.bool s2), lr 8 (xs2.take 8)])), (7, .box 36 ([.v (.bool false), .v (.slice none 0 0)]))]⟩ ?_ (fun hD00110100010 => ?_)
  · skip
    refine anyS [0, 4] (by kernel_rfl) rfl ?_
    refine ⟨⟨_, rfl, ?_⟩, ⟨_, rfl, ?_⟩, trivial⟩
    · skip
      refine mV hTT (.ptr 3 0) rfl ?_
      refine mNil ?_
      refine tN ?_
      exact anyW (r := 1) (rs := [4]) (by kernel_rfl) (wk (sl := [(2, .d (.one (.v (.int .i64 a3)))), (3, .ptr 3 0), (4, .ptr 4 0), (24, .ptr 3 0), (26, .ptr 3 1), (27, .d (.one (lr 8 (xs1.take 8)))), (29, .d (.one (.v (.int .i64 a3)))), (7, .ptr 7 0)]) (hp := [(3, .box 36 ([.v (.bool s1), lr 8 (xs1.take 8)])), (4, .box 36 ([.v (.bool s2), lr 8 (xs2.take 8)])), (7, .box 36 ([.v (.bool false), .v (.slice none 0 0)]))]) rfl ⟨hs rfl, hs rfl, hs rfl, hs rfl, hs rfl, hs rfl, hs rfl, hs rfl, trivial⟩ ⟨ho rfl, ho rfl, ho rfl, trivial⟩ rfl) hD10110100010
    · skip
      refine mCO (aCopyO (K := 8) (xs := (xs1.take 8)) (by decide)) rfl rfl rfl rfl rfl ?_
      refine mNil ?_
      refine tN ?_
      exact anyW (r := 0) (rs := [6]) (by kernel_rfl) (wk (sl := [(2, .d (.one (.v (.int .i64 a3)))), (3, .ptr 3 0), (4, .ptr 4 0), (26, .ptr 3 1), (27, .d (.one (lr 8 (xs1.take 8)))), (28, .own 28), (29, .d (.one (.v (.int .i64 a3)))), (7, .ptr 7 0)]) (hp := [(3, .box 36 ([.v (.bool s1), lr 8 (xs1.take 8)])), (4, .box 36 ([.v (.bool s2), lr 8 (xs2.take 8)])), (28, .row 55 1 (((xs1.take 8)).length) (fun i _ => .v (.int .u32 ((List.getD (xs1.take 8) i 0 : Nat) : Int)))), (7, .box 36 ([.v (.bool false), .v (.slice none 0 0)]))]) rfl ⟨hs rfl, hs rfl, hs rfl, hs rfl, hs rfl, hs rfl, hs rfl, hs rfl, trivial⟩ ⟨ho rfl, ho rfl, ho rfl, ho rfl, trivial⟩ rfl) hD00111100010
  refine anyCut 7 #[true, false, true, false, false, true, false, false, false, true, false] ⟨112, [(2, .d (.one (.v (.int .i64 a3)))), (3, .ptr 3 0), (4, .ptr 4 0), (24, .ptr 3 0), (26, .ptr 3 1), (29, .d (.one (.v (.int .i64 a3)))), (7, .ptr 7 0)], [(3, .box 36 ([.v (.bool s1), lr 8 (xs1.take 8)])), (4, .box 36 ([.v (.bool s2), lr 8 (xs2.take 8)])), (7, .box 36 ([.v (.bool false), .v (.slice none 0 0)]))]⟩ ?_ (fun hD10100100010 => ?_)
  · skip
    refine anyS [1, 3] (by kernel_rfl) rfl ?_
    refine ⟨⟨_, rfl, ?_⟩, ⟨_, rfl, ?_⟩, trivial⟩
    · skip
      refine mV hTT (.d (.one (.v (.bool s1)))) rfl ?_
      refine mNil ?_
      refine tN ?_
      exact anyW (r := 3) (rs := []) (by kernel_rfl) (wk (sl := [(2, .d (.one (.v (.int .i64 a3)))), (3, .ptr 3 0), (4, .ptr 4 0), (24, .ptr 3 0), (25, .d (.one (.v (.bool s1)))), (26, .ptr 3 1), (29, .d (.one (.v (.int .i64 a3)))), (7, .ptr 7 0)]) (hp := [(3, .box 36 ([.v (.bool s1), lr 8 (xs1.take 8)])), (4, .box 36 ([.v (.bool s2), lr 8 (xs2.take 8)])), (7, .box 36 ([.v (.bool false), .v (.slice none 0 0)]))]) rfl ⟨hs rfl, hs rfl, hs rfl, hs rfl, hs rfl, hs rfl, hs rfl, hs rfl, trivial⟩ ⟨ho rfl, ho rfl, ho rfl, trivial⟩ rfl) hD11100100010
    · skip
      refine mV hTT (.d (.one (lr 8 (xs1.take 8)))) rfl ?_
      refine mNil ?_
      refine tN ?_
      exact anyW (r := 1) (rs := [4]) (by kernel_rfl) (wk (sl := [(2, .d (.one (.v (.int .i64 a3)))), (3, .ptr 3 0), (4, .ptr 4 0), (24, .ptr 3 0), (26, .ptr 3 1), (27, .d (.one (lr 8 (xs1.take 8)))), (29, .d (.one (.v (.int .i64 a3)))), (7, .ptr 7 0)]) (hp := [(3, .box 36 ([.v (.bool s1), lr 8 (xs1.take 8)])), (4, .box 36 ([.v (.bool s2), lr 8 (xs2.take 8)])), (7, .box 36 ([.v (.bool false), .v (.slice none 0 0)]))]) rfl ⟨hs rfl, hs rfl, hs rfl, hs rfl, hs rfl, hs rfl, hs rfl, hs rfl, trivial⟩ ⟨ho rfl, ho rfl, ho rfl, trivial⟩ rfl) hD10110100010
  refine anyCut 7 #[true, true, true, true, false, false, false, false, false, false, false] ⟨112, [(2, .d (.one (.v (.int .i64 a3)))), (3, .ptr 3 0), (4, .ptr 4 0), (24, .ptr 3 0), (25, .d (.one (.v (.bool s1)))), (26, .ptr 3 1), (27, .d (.one (lr 8 (xs1.take 8))))], [(3, .box 36 ([.v (.bool s1), lr 8 (xs1.take 8)])), (4, .box 36 ([.v (.bool s2), lr 8 (xs2.take 8)]))]⟩ ?_ (fun hD11110000000 => ?_)
  · skip
    refine anyS [4, 5, 9] (by kernel_rfl) rfl ?_
    refine ⟨⟨_, rfl, ?_⟩, ⟨_, rfl, ?_⟩, ⟨_, rfl, ?_⟩, trivial⟩
    · skip
      refine mCO (aCopyO (K := 8) (xs := (xs1.take 8)) (by decide)) rfl rfl rfl rfl rfl ?_
      refine mNil ?_
      refine tN ?_
      exact anyW (r := 5) (rs := [9]) (by kernel_rfl) (wk (sl := [(2, .d (.one (.v (.int .i64 a3)))), (3, .ptr 3 0), (4, .ptr 4 0), (24, .ptr 3 0), (25, .d (.one (.v (.bool s1)))), (26, .ptr 3 1), (27, .d (.one (lr 8 (xs1.take 8)))), (28, .own 28)]) (hp := [(3, .box 36 ([.v (.bool s1), lr 8 (xs1.take 8)])), (4, .box 36 ([.v (.bool s2), lr 8 (xs2.take 8)])), (28, .row 55 1 (((xs1.take 8)).length) (fun i _ => .v (.int .u32 ((List.getD (xs1.take 8) i 0 : Nat) : Int))))]) rfl ⟨hs rfl, hs rfl, hs rfl, hs rfl, hs rfl, hs rfl, hs rfl, hs rfl, trivial⟩ ⟨ho rfl, ho rfl, ho rfl, trivial⟩ rfl) hD11111000000
    · skip
      refine mV hTT _ rfl ?_
      refine mNil ?_
      refine tN ?_
      exact anyW (r := 4) (rs := [9]) (by kernel_rfl) (wk (sl := [(2, .d (.one (.v (.int .i64 a3)))), (3, .ptr 3 0), (4, .ptr 4 0), (24, .ptr 3 0), (25, .d (.one (.v (.bool s1)))), (26, .ptr 3 1), (27, .d (.one (lr 8 (xs1.take 8)))), (29, .d (.one (.v (.int .i64 a3))))]) (hp := [(3, .box 36 ([.v (.bool s1), lr 8 (xs1.take 8)])), (4, .box 36 ([.v (.bool s2), lr 8 (xs2.take 8)]))]) rfl ⟨hs rfl, hs rfl, hs rfl, hs rfl, hs rfl, hs rfl, hs rfl, hs rfl, trivial⟩ ⟨ho rfl, ho rfl, trivial⟩ rfl) hD11110100000
    · skip
      refine mN hTT (.box 36 ([.v (.bool false), .v (.slice none 0 0)])) rfl rfl rfl ?_
      refine mNil ?_
      refine tN ?_
      exact anyW (r := 4) (rs := [5]) (by kernel_rfl) (wk (sl := [(2, .d (.one (.v (.int .i64 a3)))), (3, .ptr 3 0), (4, .ptr 4 0), (24, .ptr 3 0), (25, .d (.one (.v (.bool s1)))), (26, .ptr 3 1), (27, .d (.one (lr 8 (xs1.take 8)))), (7, .ptr 7 0)]) (hp := [(3, .box 36 ([.v (.bool s1), lr 8 (xs1.take 8)])), (4, .box 36 ([.v (.bool s2), lr 8 (xs2.take 8)])), (7, .box 36 ([.v (.bool false), .v (.slice none 0 0)]))]) rfl ⟨hs rfl, hs rfl, hs rfl, hs rfl, hs rfl, hs rfl, hs rfl, hs rfl, trivial⟩ ⟨ho rfl, ho rfl, ho rfl, trivial⟩ rfl) hD11110000010
  refine anyCut 7 #[true, true, true, false, false, true, false, false, false, false, false] ⟨112, [(2, .d (.one (.v (.int .i64 a3)))), (3, .ptr 3 0), (4, .ptr 4 0), (24, .ptr 3 0), (25, .d (.one (.v (.bool s1)))), (26, .ptr 3 1), (29, .d (.one (.v (.int .i64 a3))))], [(3, .box 36 ([.v (.bool s1), lr 8 (xs1.take 8)])), (4, .box 36 ([.v (.bool s2), lr 8 (xs2.take 8)]))]⟩ ?_ (fun hD11100100000 => ?_)
  · skip
    refine anyS [3, 9] (by kernel_rfl) rfl ?_
    refine ⟨⟨_, rfl, ?_⟩, ⟨_, rfl, ?_⟩, trivial⟩
    · skip
      refine mV hTT (.d (.one (lr 8 (xs1.take 8)))) rfl ?_
      refine mNil ?_
      refine tN ?_
      exact anyW (r := 4) (rs := [9]) (by kernel_rfl) (wk (sl := [(2, .d (.one (.v (.int .i64 a3)))), (3, .ptr 3 0), (4, .ptr 4 0), (24, .ptr 3 0), (25, .d (.one (.v (.bool s1)))), (26, .ptr 3 1), (27, .d (.one (lr 8 (xs1.take 8)))), (29, .d (.one (.v (.int .i64 a3))))]) (hp := [(3, .box 36 ([.v (.bool s1), lr 8 (xs1.take 8)])), (4, .box 36 ([.v (.bool s2), lr 8 (xs2.take 8)]))]) rfl ⟨hs rfl, hs rfl, hs rfl, hs rfl, hs rfl, hs rfl, hs rfl, hs rfl, trivial⟩ ⟨ho rfl, ho rfl, trivial⟩ rfl) hD11110100000
    · skip
      refine mN hTT (.box 36 ([.v (.bool false), .v (.slice none 0 0)])) rfl rfl rfl ?_
      refine mNil ?_
      refine tN ?_
      exact anyW (r := 3) (rs := []) (by kernel_rfl) (wk (sl := [(2, .d (.one (.v (.int .i64 a3)))), (3, .ptr 3 0), (4, .ptr 4 0), (24, .ptr 3 0), (25, .d (.one (.v (.bool s1)))), (26, .ptr 3 1), (29, .d (.one (.v (.int .i64 a3)))), (7, .ptr 7 0)]) (hp := [(3, .box 36 ([.v (.bool s1), lr 8 (xs1.take 8)])), (4, .box 36 ([.v (.bool s2), lr 8 (xs2.take 8)])), (7, .box 36 ([.v (.bool false), .v (.slice none 0 0)]))]) rfl ⟨hs rfl, hs rfl, hs rfl, hs rfl, hs rfl, hs rfl, hs rfl, hs rfl, trivial⟩ ⟨ho rfl, ho rfl, ho rfl, trivial⟩ rfl) hD11100100010
  refine anyCut 8 #[false, false, true, false, false, true, false, false, false, true, false] ⟨112, [(2, .d (.one (.v (.int .i64 a3)))), (3, .ptr 3 0), (4, .ptr 4 0), (26, .ptr 3 1), (29, .d (.one (.v (.int .i64 a3)))), (7, .ptr 7 0)], [(3, .box 36 ([.v (.bool s1), lr 8 (xs1.take 8)])), (4, .box 36 ([.v (.bool s2), lr 8 (xs2.take 8)])), (7, .box 36 ([.v (.bool false), .v (.slice none 0 0)]))]⟩ ?_ (fun hD00100100010 => ?_)
  · skip
    refine anyS [0, 3] (by kernel_rfl) rfl ?_
    refine ⟨⟨_, rfl, ?_⟩, ⟨_, rfl, ?_⟩, trivial⟩
    · skip
      refine mV hTT (.ptr 3 0) rfl ?_
      refine mNil ?_
      refine tN ?_
      exact anyW (r := 1) (rs := [3]) (by kernel_rfl) (wk (sl := [(2, .d (.one (.v (.int .i64 a3)))), (3, .ptr 3 0), (4, .ptr 4 0), (24, .ptr 3 0), (26, .ptr 3 1), (29, .d (.one (.v (.int .i64 a3)))), (7, .ptr 7 0)]) (hp := [(3, .box 36 ([.v (.bool s1), lr 8 (xs1.take 8)])), (4, .box 36 ([.v (.bool s2), lr 8 (xs2.take 8)])), (7, .box 36 ([.v (.bool false), .v (.slice none 0 0)]))]) rfl ⟨hs rfl, hs rfl, hs rfl, hs rfl, hs rfl, hs rfl, hs rfl, trivial⟩ ⟨ho rfl, ho rfl, ho rfl, trivial⟩ rfl) hD10100100010
    · skip
      refine mV hTT (.d (.one (lr 8 (xs1.take 8)))) rfl ?_
      refine mNil ?_
      refine tN ?_
      exact anyW (r := 0) (rs := [4]) (by kernel_rfl) (wk (sl := [(2, .d (.one (.v (.int .i64 a3)))), (3, .ptr 3 0), (4, .ptr 4 0), (26, .ptr 3 1), (27, .d (.one (lr 8 (xs1.take 8)))), (29, .d (.one (.v (.int .i64 a3)))), (7, .ptr 7 0)]) (hp := [(3, .box 36 ([.v (.bool s1), lr 8 (xs1.take 8)])), (4, .box 36 ([.v (.bool s2), lr 8 (xs2.take 8)])), (7, .box 36 ([.v (.bool false), .v (.slice none 0 0)]))]) rfl ⟨hs rfl, hs rfl, hs rfl, hs rfl, hs rfl, hs rfl, hs rfl, trivial⟩ ⟨ho rfl, ho rfl, ho rfl, trivial⟩ rfl) hD00110100010
  refine anyCut 8 #[true, false, true, true, false, false, false, false, false, false, false] ⟨112, [(2, .d (.one (.v (.int .i64 a3)))), (3, .ptr 3 0), (4, .ptr 4 0), (24, .ptr 3 0), (26, .ptr 3 1), (27, .d (.one (lr 8 (xs1.take 8))))], [(3, .box 36 ([.v (.bool s1), lr 8 (xs1.take 8)])), (4, .box 36 ([.v (.bool s2), lr 8 (xs2.take 8)]))]⟩ ?_ (fun hD10110000000 => ?_)
  · skip
    refine anyS [1, 4, 5, 9] (by kernel_rfl) rfl ?_
    refine ⟨⟨_, rfl, ?_⟩, ⟨_, rfl, ?_⟩, ⟨_, rfl, ?_⟩, ⟨_, rfl, ?_⟩, trivial⟩
    · skip
      refine mV hTT (.d (.one (.v (.bool s1)))) rfl ?_
      refine mNil ?_
      refine tN ?_
      exact anyW (r := 4) (rs := [5, 9]) (by kernel_rfl) (wk (sl := [(2, .d (.one (.v (.int .i64 a3)))), (3, .ptr 3 0), (4, .ptr 4 0), (24, .ptr 3 0), (25, .d (.one (.v (.bool s1)))), (26, .ptr 3 1), (27, .d (.one (lr 8 (xs1.take 8))))]) (hp := [(3, .box 36 ([.v (.bool s1), lr 8 (xs1.take 8)])), (4, .box 36 ([.v (.bool s2), lr 8 (xs2.take 8)]))]) rfl ⟨hs rfl, hs rfl, hs rfl, hs rfl, hs rfl, hs rfl, hs rfl, trivial⟩ ⟨ho rfl, ho rfl, trivial⟩ rfl) hD11110000000
    · skip
      refine mCO (aCopyO (K := 8) (xs := (xs1.take 8)) (by decide)) rfl rfl rfl rfl rfl ?_
      refine mNil ?_
      refine tN ?_
      exact anyW (r := 1) (rs := [5, 9]) (by kernel_rfl) (wk (sl := [(2, .d (.one (.v (.int .i64 a3)))), (3, .ptr 3 0), (4, .ptr 4 0), (24, .ptr 3 0), (26, .ptr 3 1), (27, .d (.one (lr 8 (xs1.take 8)))), (28, .own 28)]) (hp := [(3, .box 36 ([.v (.bool s1), lr 8 (xs1.take 8)])), (4, .box 36 ([.v (.bool s2), lr 8 (xs2.take 8)])), (28, .row 55 1 (((xs1.take 8)).length) (fun i _ => .v (.int .u32 ((List.getD (xs1.take 8) i 0 : Nat) : Int))))]) rfl ⟨hs rfl, hs rfl, hs rfl, hs rfl, hs rfl, hs rfl, hs rfl, trivial⟩ ⟨ho rfl, ho rfl, ho rfl, trivial⟩ rfl) hD10111000000
    · skip
      refine mV hTT _ rfl ?_
      refine mNil ?_
      refine tN ?_
      exact anyW (r := 1) (rs := [4, 9]) (by kernel_rfl) (wk (sl := [(2, .d (.one (.v (.int .i64 a3)))), (3, .ptr 3 0), (4, .ptr 4 0), (24, .ptr 3 0), (26, .ptr 3 1), (27, .d (.one (lr 8 (xs1.take 8)))), (29, .d (.one (.v (.int .i64 a3))))]) (hp := [(3, .box 36 ([.v (.bool s1), lr 8 (xs1.take 8)])), (4, .box 36 ([.v (.bool s2), lr 8 (xs2.take 8)]))]) rfl ⟨hs rfl, hs rfl, hs rfl, hs rfl, hs rfl, hs rfl, hs rfl, trivial⟩ ⟨ho rfl, ho rfl, trivial⟩ rfl) hD10110100000
    · skip
      refine mN hTT (.box 36 ([.v (.bool false), .v (.slice none 0 0)])) rfl rfl rfl ?_
      refine mNil ?_
      refine tN ?_
      exact anyW (r := 1) (rs := [4, 5]) (by kernel_rfl) (wk (sl := [(2, .d (.one (.v (.int .i64 a3)))), (3, .ptr 3 0), (4, .ptr 4 0), (24, .ptr 3 0), (26, .ptr 3 1), (27, .d (.one (lr 8 (xs1.take 8)))), (7, .ptr 7 0)]) (hp := [(3, .box 36 ([.v (.bool s1), lr 8 (xs1.take 8)])), (4, .box 36 ([.v (.bool s2), lr 8 (xs2.take 8)])), (7, .box 36 ([.v (.bool false), .v (.slice none 0 0)]))]) rfl ⟨hs rfl, hs rfl, hs rfl, hs rfl, hs rfl, hs rfl, hs rfl, trivial⟩ ⟨ho rfl, ho rfl, ho rfl, trivial⟩ rfl) hD10110000010
  refine anyCut 8 #[false, false, true, true, false, true, false, false, false, false, false] ⟨112, [(2, .d (.one (.v (.int .i64 a3)))), (3, .ptr 3 0), (4, .ptr 4 0), (26, .ptr 3 1), (27, .d (.one (lr 8 (xs1.take 8)))), (29, .d (.one (.v (.int .i64 a3))))], [(3, .box 36 ([.v (.bool s1), lr 8 (xs1.take 8)])), (4, .box 36 ([.v (.bool s2), lr 8 (xs2.take 8)]))]⟩ ?_ (fun hD00110100000 => ?_)
  · skip
    refine anyS [0, 4, 9] (by kernel_rfl) rfl ?_
    refine ⟨⟨_, rfl, ?_⟩, ⟨_, rfl, ?_⟩, ⟨_, rfl, ?_⟩, trivial⟩
    · skip
      refine mV hTT (.ptr 3 0) rfl ?_
      refine mNil ?_
      refine tN ?_
      exact anyW (r := 1) (rs := [4, 9]) (by kernel_rfl) (wk (sl := [(2, .d (.one (.v (.int .i64 a3)))), (3, .ptr 3 0), (4, .ptr 4 0), (24, .ptr 3 0), (26, .ptr 3 1), (27, .d (.one (lr 8 (xs1.take 8)))), (29, .d (.one (.v (.int .i64 a3))))]) (hp := [(3, .box 36 ([.v (.bool s1), lr 8 (xs1.take 8)])), (4, .box 36 ([.v (.bool s2), lr 8 (xs2.take 8)]))]) rfl ⟨hs rfl, hs rfl, hs rfl, hs rfl, hs rfl, hs rfl, hs rfl, trivial⟩ ⟨ho rfl, ho rfl, trivial⟩ rfl) hD10110100000
    · skip
      refine mCO (aCopyO (K := 8) (xs := (xs1.take 8)) (by decide)) rfl rfl rfl rfl rfl ?_
      refine mNil ?_
      refine tN ?_
      exact anyW (r := 0) (rs := [6, 9]) (by kernel_rfl) (wk (sl := [(2, .d (.one (.v (.int .i64 a3)))), (3, .ptr 3 0), (4, .ptr 4 0), (26, .ptr 3 1), (27, .d (.one (lr 8 (xs1.take 8)))), (28, .own 28), (29, .d (.one (.v (.int .i64 a3))))]) (hp := [(3, .box 36 ([.v (.bool s1), lr 8 (xs1.take 8)])), (4, .box 36 ([.v (.bool s2), lr 8 (xs2.take 8)])), (28, .row 55 1 (((xs1.take 8)).length) (fun i _ => .v (.int .u32 ((List.getD (xs1.take 8) i 0 : Nat) : Int))))]) rfl ⟨hs rfl, hs rfl, hs rfl, hs rfl, hs rfl, hs rfl, hs rfl, trivial⟩ ⟨ho rfl, ho rfl, ho rfl, trivial⟩ rfl) hD00111100000
    · skip
      refine mN hTT (.box 36 ([.v (.bool false), .v (.slice none 0 0)])) rfl rfl rfl ?_
      refine mNil ?_
      refine tN ?_
      exact anyW (r := 0) (rs := [4]) (by kernel_rfl) (wk (sl := [(2, .d (.one (.v (.int .i64 a3)))), (3, .ptr 3 0), (4, .ptr 4 0), (26, .ptr 3 1), (27, .d (.one (lr 8 (xs1.take 8)))), (29, .d (.one (.v (.int .i64 a3)))), (7, .ptr 7 0)]) (hp := [(3, .box 36 ([.v (.bool s1), lr 8 (xs1.take 8)])), (4, .box 36 ([.v (.bool s2), lr 8 (xs2.take 8)])), (7, .box 36 ([.v (.bool false), .v (.slice none 0 0)]))]) rfl ⟨hs rfl, hs rfl, hs rfl, hs rfl, hs rfl, hs rfl, hs rfl, trivial⟩ ⟨ho rfl, ho rfl, ho rfl, trivial⟩ rfl) hD00110100010
  refine anyCut 8 #[true, false, true, false, false, true, false, false, false, false, false] ⟨112, [(2, .d (.one (.v (.int .i64 a3)))), (3, .ptr 3 0), (4, .ptr 4 0), (24, .ptr 3 0), (26, .ptr 3 1), (29, .d (.one (.v (.int .i64 a3))))], [(3, .box 36 ([.v (.bool s1), lr 8 (xs1.take 8)])), (4, .box 36 ([.v (.bool s2), lr 8 (xs2.take 8)]))]⟩ ?_ (fun hD10100100000 => ?_)
  · skip
    refine anyS [1, 3, 9] (by kernel_rfl) rfl ?_
    refine ⟨⟨_, rfl, ?_⟩, ⟨_, rfl, ?_⟩, ⟨_, rfl, ?_⟩, trivial⟩
    · skip
      refine mV hTT (.d (.one (.v (.bool s1)))) rfl ?_
      refine mNil ?_
      refine tN ?_
      exact anyW (r := 3) (rs := [9]) (by kernel_rfl) (wk (sl := [(2, .d (.one (.v (.int .i64 a3)))), (3, .ptr 3 0), (4, .ptr 4 0), (24, .ptr 3 0), (25, .d (.one (.v (.bool s1)))), (26, .ptr 3 1), (29, .d (.one (.v (.int .i64 a3))))]) (hp := [(3, .box 36 ([.v (.bool s1), lr 8 (xs1.take 8)])), (4, .box 36 ([.v (.bool s2), lr 8 (xs2.take 8)]))]) rfl ⟨hs rfl, hs rfl, hs rfl, hs rfl, hs rfl, hs rfl, hs rfl, trivial⟩ ⟨ho rfl, ho rfl, trivial⟩ rfl) hD11100100000
    · skip
      refine mV hTT (.d (.one (lr 8 (xs1.take 8)))) rfl ?_
      refine mNil ?_
      refine tN ?_
      exact anyW (r := 1) (rs := [4, 9]) (by kernel_rfl) (wk (sl := [(2, .d (.one (.v (.int .i64 a3)))), (3, .ptr 3 0), (4, .ptr 4 0), (24, .ptr 3 0), (26, .ptr 3 1), (27, .d (.one (lr 8 (xs1.take 8)))), (29, .d (.one (.v (.int .i64 a3))))]) (hp := [(3, .box 36 ([.v (.bool s1), lr 8 (xs1.take 8)])), (4, .box 36 ([.v (.bool s2), lr 8 (xs2.take 8)]))]) rfl ⟨hs rfl, hs rfl, hs rfl, hs rfl, hs rfl, hs rfl, hs rfl, trivial⟩ ⟨ho rfl, ho rfl, trivial⟩ rfl) hD10110100000
    · skip
      refine mN hTT (.box 36 ([.v (.bool false), .v (.slice none 0 0)])) rfl rfl rfl ?_
      refine mNil ?_
      refine tN ?_
      exact anyW (r := 1) (rs := [3]) (by kernel_rfl) (wk (sl := [(2, .d (.one (.v (.int .i64 a3)))), (3, .ptr 3 0), (4, .ptr 4 0), (24, .ptr 3 0), (26, .ptr 3 1), (29, .d (.one (.v (.int .i64 a3)))), (7, .ptr 7 0)]) (hp := [(3, .box 36 ([.v (.bool s1), lr 8 (xs1.take 8)])), (4, .box 36 ([.v (.bool s2), lr 8 (xs2.take 8)])), (7, .box 36 ([.v (.bool false), .v (.slice none 0 0)]))]) rfl ⟨hs rfl, hs rfl, hs rfl, hs rfl, hs rfl, hs rfl, hs rfl, trivial⟩ ⟨ho rfl, ho rfl, ho rfl, trivial⟩ rfl) hD10100100010
  refine anyCut 8 #[true, false, true, false, false, false, false, false, false, true, false] ⟨112, [(2, .d (.one (.v (.int .i64 a3)))), (3, .ptr 3 0), (4, .ptr 4 0), (24, .ptr 3 0), (26, .ptr 3 1), (7, .ptr 7 0)], [(3, .box 36 ([.v (.bool s1), lr 8 (xs1.take 8)])), (4, .box 36 ([.v (.bool s2), lr 8 (xs2.take 8)])), (7, .box 36 ([.v (.bool false), .v (.slice none 0 0)]))]⟩ ?_ (fun hD10100000010 => ?_)
  · skip
    refine anyS [1, 3, 5] (by kernel_rfl) rfl ?_
    refine ⟨⟨_, rfl, ?_⟩, ⟨_, rfl, ?_⟩, ⟨_, rfl, ?_⟩, trivial⟩
    · skip
      refine mV hTT (.d (.one (.v (.bool s1)))) rfl ?_
      refine mNil ?_
      refine tN ?_
      exact anyW (r := 3) (rs := [5]) (by kernel_rfl) (wk (sl := [(2, .d (.one (.v (.int .i64 a3)))), (3, .ptr 3 0), (4, .ptr 4 0), (24, .ptr 3 0), (25, .d (.one (.v (.bool s1)))), (26, .ptr 3 1), (7, .ptr 7 0)]) (hp := [(3, .box 36 ([.v (.bool s1), lr 8 (xs1.take 8)])), (4, .box 36 ([.v (.bool s2), lr 8 (xs2.take 8)])), (7, .box 36 ([.v (.bool false), .v (.slice none 0 0)]))]) rfl ⟨hs rfl, hs rfl, hs rfl, hs rfl, hs rfl, hs rfl, hs rfl, trivial⟩ ⟨ho rfl, ho rfl, ho rfl, trivial⟩ rfl) hD11100000010
    · skip
      refine mV hTT (.d (.one (lr 8 (xs1.take 8)))) rfl ?_
      refine mNil ?_
      refine tN ?_
      exact anyW (r := 1) (rs := [4, 5]) (by kernel_rfl) (wk (sl := [(2, .d (.one (.v (.int .i64 a3)))), (3, .ptr 3 0), (4, .ptr 4 0), (24, .ptr 3 0), (26, .ptr 3 1), (27, .d (.one (lr 8 (xs1.take 8)))), (7, .ptr 7 0)]) (hp := [(3, .box 36 ([.v (.bool s1), lr 8 (xs1.take 8)])), (4, .box 36 ([.v (.bool s2), lr 8 (xs2.take 8)])), (7, .box 36 ([.v (.bool false), .v (.slice none 0 0)]))]) rfl ⟨hs rfl, hs rfl, hs rfl, hs rfl, hs rfl, hs rfl, hs rfl, trivial⟩ ⟨ho rfl, ho rfl, ho rfl, trivial⟩ rfl) hD10110000010
    · skip
      refine mV hTT _ rfl ?_
      refine mNil ?_
      refine tN ?_
      exact anyW (r := 1) (rs := [3]) (by kernel_rfl) (wk (sl := [(2, .d (.one (.v (.int .i64 a3)))), (3, .ptr 3 0), (4, .ptr 4 0), (24, .ptr 3 0), (26, .ptr 3 1), (29, .d (.one (.v (.int .i64 a3)))), (7, .ptr 7 0)]) (hp := [(3, .box 36 ([.v (.bool s1), lr 8 (xs1.take 8)])), (4, .box 36 ([.v (.bool s2), lr 8 (xs2.take 8)])), (7, .box 36 ([.v (.bool false), .v (.slice none 0 0)]))]) rfl ⟨hs rfl, hs rfl, hs rfl, hs rfl, hs rfl, hs rfl, hs rfl, trivial⟩ ⟨ho rfl, ho rfl, ho rfl, trivial⟩ rfl) hD10100100010
  refine anyCut 8 #[true, true, false, false, false, false, false, false, false, true, false] ⟨112, [(2, .d (.one (.v (.int .i64 a3)))), (3, .ptr 3 0), (4, .ptr 4 0), (24, .ptr 3 0), (25, .d (.one (.v (.bool s1)))), (7, .ptr 7 0)], [(3, .box 36 ([.v (.bool s1), lr 8 (xs1.take 8)])), (4, .box 36 ([.v (.bool s2), lr 8 (xs2.take 8)])), (7, .box 36 ([.v (.bool false), .v (.slice none 0 0)]))]⟩ ?_ (fun hD11000000010 => ?_)
  · skip
    refine anyS [2, 5] (by kernel_rfl) rfl ?_
    refine ⟨⟨_, rfl, ?_⟩, ⟨_, rfl, ?_⟩, trivial⟩
    · skip
      refine mV hTT (.ptr 3 1) rfl ?_
      refine mNil ?_
      refine tN ?_
      exact anyW (r := 3) (rs := [5]) (by kernel_rfl) (wk (sl := [(2, .d (.one (.v (.int .i64 a3)))), (3, .ptr 3 0), (4, .ptr 4 0), (24, .ptr 3 0), (25, .d (.one (.v (.bool s1)))), (26, .ptr 3 1), (7, .ptr 7 0)]) (hp := [(3, .box 36 ([.v (.bool s1), lr 8 (xs1.take 8)])), (4, .box 36 ([.v (.bool s2), lr 8 (xs2.take 8)])), (7, .box 36 ([.v (.bool false), .v (.slice none 0 0)]))]) rfl ⟨hs rfl, hs rfl, hs rfl, hs rfl, hs rfl, hs rfl, hs rfl, trivial⟩ ⟨ho rfl, ho rfl, ho rfl, trivial⟩ rfl) hD11100000010
    · skip
      refine mV hTT _ rfl ?_
      refine mNil ?_
      refine tN ?_
      exact anyW (r := 2) (rs := []) (by kernel_rfl) (wk (sl := [(2, .d (.one (.v (.int .i64 a3)))), (3, .ptr 3 0), (4, .ptr 4 0), (24, .ptr 3 0), (25, .d (.one (.v (.bool s1)))), (29, .d (.one (.v (.int .i64 a3)))), (7, .ptr 7 0)]) (hp := [(3, .box 36 ([.v (.bool s1), lr 8 (xs1.take 8)])), (4, .box 36 ([.v (.bool s2), lr 8 (xs2.take 8)])), (7, .box 36 ([.v (.bool false), .v (.slice none 0 0)]))]) rfl ⟨hs rfl, hs rfl, hs rfl, hs rfl, hs rfl, hs rfl, hs rfl, trivial⟩ ⟨ho rfl, ho rfl, ho rfl, trivial⟩ rfl) hD11000100010
  refine anyCut 8 #[true, true, false, false, false, true, false, false, false, false, false] ⟨112, [(2, .d (.one (.v (.int .i64 a3)))), (3, .ptr 3 0), (4, .ptr 4 0), (24, .ptr 3 0), (25, .d (.one (.v (.bool s1)))), (29, .d (.one (.v (.int .i64 a3))))], [(3, .box 36 ([.v (.bool s1), lr 8 (xs1.take 8)])), (4, .box 36 ([.v (.bool s2), lr 8 (xs2.take 8)]))]⟩ ?_ (fun hD11000100000 => ?_)
  · skip
    refine anyS [2, 9] (by kernel_rfl) rfl ?_
    refine ⟨⟨_, rfl, ?_⟩, ⟨_, rfl, ?_⟩, trivial⟩
    · skip
      refine mV hTT (.ptr 3 1) rfl ?_
      refine mNil ?_
      refine tN ?_
      exact anyW (r := 3) (rs := [9]) (by kernel_rfl) (wk (sl := [(2, .d (.one (.v (.int .i64 a3)))), (3, .ptr 3 0), (4, .ptr 4 0), (24, .ptr 3 0), (25, .d (.one (.v (.bool s1)))), (26, .ptr 3 1), (29, .d (.one (.v (.int .i64 a3))))]) (hp := [(3, .box 36 ([.v (.bool s1), lr 8 (xs1.take 8)])), (4, .box 36 ([.v (.bool s2), lr 8 (xs2.take 8)]))]) rfl ⟨hs rfl, hs rfl, hs rfl, hs rfl, hs rfl, hs rfl, hs rfl, trivial⟩ ⟨ho rfl, ho rfl, trivial⟩ rfl) hD11100100000
    · skip
      refine mN hTT (.box 36 ([.v (.bool false), .v (.slice none 0 0)])) rfl rfl rfl ?_
      refine mNil ?_
      refine tN ?_
      exact anyW (r := 2) (rs := []) (by kernel_rfl) (wk (sl := [(2, .d (.one (.v (.int .i64 a3)))), (3, .ptr 3 0), (4, .ptr 4 0), (24, .ptr 3 0), (25, .d (.one (.v (.bool s1)))), (29, .d (.one (.v (.int .i64 a3)))), (7, .ptr 7 0)]) (hp := [(3, .box 36 ([.v (.bool s1), lr 8 (xs1.take 8)])), (4, .box 36 ([.v (.bool s2), lr 8 (xs2.take 8)])), (7, .box 36 ([.v (.bool false), .v (.slice none 0 0)]))]) rfl ⟨hs rfl, hs rfl, hs rfl, hs rfl, hs rfl, hs rfl, hs rfl, trivial⟩ ⟨ho rfl, ho rfl, ho rfl, trivial⟩ rfl) hD11000100010
  refine anyCut 8 #[true, false, false, false, false, true, false, false, false, true, false] ⟨112, [(2, .d (.one (.v (.int .i64 a3)))), (3, .ptr 3 0), (4, .ptr 4 0), (24, .ptr 3 0), (29, .d (.one (.v (.int .i64 a3)))), (7, .ptr 7 0)], [(3, .box 36 ([.v (.bool s1), lr 8 (xs1.take 8)])), (4, .box 36 ([.v (.bool s2), lr 8 (xs2.take 8)])), (7, .box 36 ([.v (.bool false), .v (.slice none 0 0)]))]⟩ ?_ (fun hD10000100010 => ?_)
  · skip
    refine anyS [1, 2] (by kernel_rfl) rfl ?_
    refine ⟨⟨_, rfl, ?_⟩, ⟨_, rfl, ?_⟩, trivial⟩
    · skip
      refine mV hTT (.d (.one (.v (.bool s1)))) rfl ?_
      refine mNil ?_
      refine tN ?_
      exact anyW (r := 2) (rs := []) (by kernel_rfl) (wk (sl := [(2, .d (.one (.v (.int .i64 a3)))), (3, .ptr 3 0), (4, .ptr 4 0), (24, .ptr 3 0), (25, .d (.one (.v (.bool s1)))), (29, .d (.one (.v (.int .i64 a3)))), (7, .ptr 7 0)]) (hp := [(3, .box 36 ([.v (.bool s1), lr 8 (xs1.take 8)])), (4, .box 36 ([.v (.bool s2), lr 8 (xs2.take 8)])), (7, .box 36 ([.v (.bool false), .v (.slice none 0 0)]))]) rfl ⟨hs rfl, hs rfl, hs rfl, hs rfl, hs rfl, hs rfl, hs rfl, trivial⟩ ⟨ho rfl, ho rfl, ho rfl, trivial⟩ rfl) hD11000100010
    · skip
      refine mV hTT (.ptr 3 1) rfl ?_
      refine mNil ?_
      refine tN ?_
      exact anyW (r := 1) (rs := [3]) (by kernel_rfl) (wk (sl := [(2, .d (.one (.v (.int .i64 a3)))), (3, .ptr 3 0), (4, .ptr 4 0), (24, .ptr 3 0), (26, .ptr 3 1), (29, .d (.one (.v (.int .i64 a3)))), (7, .ptr 7 0)]) (hp := [(3, .box 36 ([.v (.bool s1), lr 8 (xs1.take 8)])), (4, .box 36 ([.v (.bool s2), lr 8 (xs2.take 8)])), (7, .box 36 ([.v (.bool false), .v (.slice none 0 0)]))]) rfl ⟨hs rfl, hs rfl, hs rfl, hs rfl, hs rfl, hs rfl, hs rfl, trivial⟩ ⟨ho rfl, ho rfl, ho rfl, trivial⟩ rfl) hD10100100010
  refine anyCut 8 #[true, true, true, false, false, false, false, false, false, false, false] ⟨112, [(2, .d (.one (.v (.int .i64 a3)))), (3, .ptr 3 0), (4, .ptr 4 0), (24, .ptr 3 0), (25, .d (.one (.v (.bool s1)))), (26, .ptr 3 1)], [(3, .box 36 ([.v (.bool s1), lr 8 (xs1.take 8)])), (4, .box 36 ([.v (.bool s2), lr 8 (xs2.take 8)]))]⟩ ?_ (fun hD11100000000 => ?_)
  · skip
    refine anyS [3, 5, 9] (by kernel_rfl) rfl ?_
    refine ⟨⟨_, rfl, ?_⟩, ⟨_, rfl, ?_⟩, ⟨_, rfl, ?_⟩, trivial⟩
    · skip
      refine mV hTT (.d (.one (lr 8 (xs1.take 8)))) rfl ?_
      refine mNil ?_
      refine tN ?_
      exact anyW (r := 4) (rs := [5, 9]) (by kernel_rfl) (wk (sl := [(2, .d (.one (.v (.int .i64 a3)))), (3, .ptr 3 0), (4, .ptr 4 0), (24, .ptr 3 0), (25, .d (.one (.v (.bool s1)))), (26, .ptr 3 1), (27, .d (.one (lr 8 (xs1.take 8))))]) (hp := [(3, .box 36 ([.v (.bool s1), lr 8 (xs1.take 8)])), (4, .box 36 ([.v (.bool s2), lr 8 (xs2.take 8)]))]) rfl ⟨hs rfl, hs rfl, hs rfl, hs rfl, hs rfl, hs rfl, hs rfl, trivial⟩ ⟨ho rfl, ho rfl, trivial⟩ rfl) hD11110000000
    · skip
      refine mV hTT _ rfl ?_
      refine mNil ?_
      refine tN ?_
      exact anyW (r := 3) (rs := [9]) (by kernel_rfl) (wk (sl := [(2, .d (.one (.v (.int .i64 a3)))), (3, .ptr 3 0), (4, .ptr 4 0), (24, .ptr 3 0), (25, .d (.one (.v (.bool s1)))), (26, .ptr 3 1), (29, .d (.one (.v (.int .i64 a3))))]) (hp := [(3, .box 36 ([.v (.bool s1), lr 8 (xs1.take 8)])), (4, .box 36 ([.v (.bool s2), lr 8 (xs2.take 8)]))]) rfl ⟨hs rfl, hs rfl, hs rfl, hs rfl, hs rfl, hs rfl, hs rfl, trivial⟩ ⟨ho rfl, ho rfl, trivial⟩ rfl) hD11100100000
    · skip
      refine mN hTT (.box 36 ([.v (.bool false), .v (.slice none 0 0)])) rfl rfl rfl ?_
      refine mNil ?_
      refine tN ?_
      exact anyW (r := 3) (rs := [5]) (by kernel_rfl) (wk (sl := [(2, .d (.one (.v (.int .i64 a3)))), (3, .ptr 3 0), (4, .ptr 4 0), (24, .ptr 3 0), (25, .d (.one (.v (.bool s1)))), (26, .ptr 3 1), (7, .ptr 7 0)]) (hp := [(3, .box 36 ([.v (.bool s1), lr 8 (xs1.take 8)])), (4, .box 36 ([.v (.bool s2), lr 8 (xs2.take 8)])), (7, .box 36 ([.v (.bool false), .v (.slice none 0 0)]))]) rfl ⟨hs rfl, hs rfl, hs rfl, hs rfl, hs rfl, hs rfl, hs rfl, trivial⟩ ⟨ho rfl, ho rfl, ho rfl, trivial⟩ rfl) hD11100000010
  refine anyCut 8 #[false, false, true, true, true, false, false, false, false, false, false] ⟨112, [(2, .d (.one (.v (.int .i64 a3)))), (3, .ptr 3 0), (4, .ptr 4 0), (26, .ptr 3 1), (27, .d (.one (lr 8 (xs1.take 8)))), (28, .own 28)], [(3, .box 36 ([.v (.bool s1), lr 8 (xs1.take 8)])), (4, .box 36 ([.v (.bool s2), lr 8 (xs2.take 8)])), (28, .row 55 1 (((xs1.take 8)).length) (fun i _ => .v (.int .u32 ((List.getD (xs1.take 8) i 0 : Nat) : Int))))]⟩ ?_ (fun hD00111000000 => ?_)
  · skip
    refine anyS [0, 5, 9] (by kernel_rfl) rfl ?_
    refine ⟨⟨_, rfl, ?_⟩, ⟨_, rfl, ?_⟩, ⟨_, rfl, ?_⟩, trivial⟩
    · skip
      refine mV hTT (.ptr 3 0) rfl ?_
      refine mNil ?_
      refine tN ?_
      exact anyW (r := 1) (rs := [5, 9]) (by kernel_rfl) (wk (sl := [(2, .d (.one (.v (.int .i64 a3)))), (3, .ptr 3 0), (4, .ptr 4 0), (24, .ptr 3 0), (26, .ptr 3 1), (27, .d (.one (lr 8 (xs1.take 8)))), (28, .own 28)]) (hp := [(3, .box 36 ([.v (.bool s1), lr 8 (xs1.take 8)])), (4, .box 36 ([.v (.bool s2), lr 8 (xs2.take 8)])), (28, .row 55 1 (((xs1.take 8)).length) (fun i _ => .v (.int .u32 ((List.getD (xs1.take 8) i 0 : Nat) : Int))))]) rfl ⟨hs rfl, hs rfl, hs rfl, hs rfl, hs rfl, hs rfl, hs rfl, trivial⟩ ⟨ho rfl, ho rfl, ho rfl, trivial⟩ rfl) hD10111000000
    · skip
      refine mV hTT _ rfl ?_
      refine mNil ?_
      refine tN ?_
      exact anyW (r := 0) (rs := [6, 9]) (by kernel_rfl) (wk (sl := [(2, .d (.one (.v (.int .i64 a3)))), (3, .ptr 3 0), (4, .ptr 4 0), (26, .ptr 3 1), (27, .d (.one (lr 8 (xs1.take 8)))), (28, .own 28), (29, .d (.one (.v (.int .i64 a3))))]) (hp := [(3, .box 36 ([.v (.bool s1), lr 8 (xs1.take 8)])), (4, .box 36 ([.v (.bool s2), lr 8 (xs2.take 8)])), (28, .row 55 1 (((xs1.take 8)).length) (fun i _ => .v (.int .u32 ((List.getD (xs1.take 8) i 0 : Nat) : Int))))]) rfl ⟨hs rfl, hs rfl, hs rfl, hs rfl, hs rfl, hs rfl, hs rfl, trivial⟩ ⟨ho rfl, ho rfl, ho rfl, trivial⟩ rfl) hD00111100000
    · skip
      refine mN hTT (.box 36 ([.v (.bool false), .v (.slice none 0 0)])) rfl rfl rfl ?_
      refine mNil ?_
      refine tN ?_
      exact anyW (r := 0) (rs := [5]) (by kernel_rfl) (wk (sl := [(2, .d (.one (.v (.int .i64 a3)))), (3, .ptr 3 0), (4, .ptr 4 0), (26, .ptr 3 1), (27, .d (.one (lr 8 (xs1.take 8)))), (28, .own 28), (7, .ptr 7 0)]) (hp := [(3, .box 36 ([.v (.bool s1), lr 8 (xs1.take 8)])), (4, .box 36 ([.v (.bool s2), lr 8 (xs2.take 8)])), (28, .row 55 1 (((xs1.take 8)).length) (fun i _ => .v (.int .u32 ((List.getD (xs1.take 8) i 0 : Nat) : Int)))), (7, .box 36 ([.v (.bool false), .v (.slice none 0 0)]))]) rfl ⟨hs rfl, hs rfl, hs rfl, hs rfl, hs rfl, hs rfl, hs rfl, trivial⟩ ⟨ho rfl, ho rfl, ho rfl, ho rfl, trivial⟩ rfl) hD00111000010
  refine anyCut 8 #[false, false, true, true, false, false, false, false, false, true, false] ⟨112, [(2, .d (.one (.v (.int .i64 a3)))), (3, .ptr 3 0), (4, .ptr 4 0), (26, .ptr 3 1), (27, .d (.one (lr 8 (xs1.take 8)))), (7, .ptr 7 0)], [(3, .box 36 ([.v (.bool s1), lr 8 (xs1.take 8)])), (4, .box 36 ([.v (.bool s2), lr 8 (xs2.take 8)])), (7, .box 36 ([.v (.bool false), .v (.slice none 0 0)]))]⟩ ?_ (fun hD00110000010 => ?_)
  · skip
    refine anyS [0, 4, 5] (by kernel_rfl) rfl ?_
    refine ⟨⟨_, rfl, ?_⟩, ⟨_, rfl, ?_⟩, ⟨_, rfl, ?_⟩, trivial⟩
    · skip
      refine mV hTT (.ptr 3 0) rfl ?_
      refine mNil ?_
      refine tN ?_
      exact anyW (r := 1) (rs := [4, 5]) (by kernel_rfl) (wk (sl := [(2, .d (.one (.v (.int .i64 a3)))), (3, .ptr 3 0), (4, .ptr 4 0), (24, .ptr 3 0), (26, .ptr 3 1), (27, .d (.one (lr 8 (xs1.take 8)))), (7, .ptr 7 0)]) (hp := [(3, .box 36 ([.v (.bool s1), lr 8 (xs1.take 8)])), (4, .box 36 ([.v (.bool s2), lr 8 (xs2.take 8)])), (7, .box 36 ([.v (.bool false), .v (.slice none 0 0)]))]) rfl ⟨hs rfl, hs rfl, hs rfl, hs rfl, hs rfl, hs rfl, hs rfl, trivial⟩ ⟨ho rfl, ho rfl, ho rfl, trivial⟩ rfl) hD10110000010
    · skip
      refine mCO (aCopyO (K := 8) (xs := (xs1.take 8)) (by decide)) rfl rfl rfl rfl rfl ?_
      refine mNil ?_
      refine tN ?_
      exact anyW (r := 0) (rs := [5]) (by kernel_rfl) (wk (sl := [(2, .d (.one (.v (.int .i64 a3)))), (3, .ptr 3 0), (4, .ptr 4 0), (26, .ptr 3 1), (27, .d (.one (lr 8 (xs1.take 8)))), (28, .own 28), (7, .ptr 7 0)]) (hp := [(3, .box 36 ([.v (.bool s1), lr 8 (xs1.take 8)])), (4, .box 36 ([.v (.bool s2), lr 8 (xs2.take 8)])), (28, .row 55 1 (((xs1.take 8)).length) (fun i _ => .v (.int .u32 ((List.getD (xs1.take 8) i 0 : Nat) : Int)))), (7, .box 36 ([.v (.bool false), .v (.slice none 0 0)]))]) rfl ⟨hs rfl, hs rfl, hs rfl, hs rfl, hs rfl, hs rfl, hs rfl, trivial⟩ ⟨ho rfl, ho rfl, ho rfl, ho rfl, trivial⟩ rfl) hD00111000010
    · skip
      refine mV hTT _ rfl ?_
      refine mNil ?_
      refine tN ?_
      exact anyW (r := 0) (rs := [4]) (by kernel_rfl) (wk (sl := [(2, .d (.one (.v (.int .i64 a3)))), (3, .ptr 3 0), (4, .ptr 4 0), (26, .ptr 3 1), (27, .d (.one (lr 8 (xs1.take 8)))), (29, .d (.one (.v (.int .i64 a3)))), (7, .ptr 7 0)]) (hp := [(3, .box 36 ([.v (.bool s1), lr 8 (xs1.take 8)])), (4, .box 36 ([.v (.bool s2), lr 8 (xs2.take 8)])), (7, .box 36 ([.v (.bool false), .v (.slice none 0 0)]))]) rfl ⟨hs rfl, hs rfl, hs rfl, hs rfl, hs rfl, hs rfl, hs rfl, trivial⟩ ⟨ho rfl, ho rfl, ho rfl, trivial⟩ rfl) hD00110100010
  refine anyCut 9 #[true, false, false, false, false, true, false, false, false, false, false] ⟨112, [(2, .d (.one (.v (.int .i64 a3)))), (3, .ptr 3 0), (4, .ptr 4 0), (24, .ptr 3 0), (29, .d (.one (.v (.int .i64 a3))))], [(3, .box 36 ([.v (.bool s1), lr 8 (xs1.take 8)])), (4, .box 36 ([.v (.bool s2), lr 8 (xs2.take 8)]))]⟩ ?_ (fun hD10000100000 => ?_)
  · skip
    refine anyS [1, 2, 9] (by kernel_rfl) rfl ?_
    refine ⟨⟨_, rfl, ?_⟩, ⟨_, rfl, ?_⟩, ⟨_, rfl, ?_⟩, trivial⟩
    · skip
      refine mV hTT (.d (.one (.v (.bool s1)))) rfl ?_
      refine mNil ?_
      refine tN ?_
      exact anyW (r := 2) (rs := [9]) (by kernel_rfl) (wk (sl := [(2, .d (.one (.v (.int .i64 a3)))), (3, .ptr 3 0), (4, .ptr 4 0), (24, .ptr 3 0), (25, .d (.one (.v (.bool s1)))), (29, .d (.one (.v (.int .i64 a3))))]) (hp := [(3, .box 36 ([.v (.bool s1), lr 8 (xs1.take 8)])), (4, .box 36 ([.v (.bool s2), lr 8 (xs2.take 8)]))]) rfl ⟨hs rfl, hs rfl, hs rfl, hs rfl, hs rfl, hs rfl, trivial⟩ ⟨ho rfl, ho rfl, trivial⟩ rfl) hD11000100000
    · skip
      refine mV hTT (.ptr 3 1) rfl ?_
      refine mNil ?_
      refine tN ?_
      exact anyW (r := 1) (rs := [3, 9]) (by kernel_rfl) (wk (sl := [(2, .d (.one (.v (.int .i64 a3)))), (3, .ptr 3 0), (4, .ptr 4 0), (24, .ptr 3 0), (26, .ptr 3 1), (29, .d (.one (.v (.int .i64 a3))))]) (hp := [(3, .box 36 ([.v (.bool s1), lr 8 (xs1.take 8)])), (4, .box 36 ([.v (.bool s2), lr 8 (xs2.take 8)]))]) rfl ⟨hs rfl, hs rfl, hs rfl, hs rfl, hs rfl, hs rfl, trivial⟩ ⟨ho rfl, ho rfl, trivial⟩ rfl) hD10100100000
    · skip
      refine mN hTT (.box 36 ([.v (.bool false), .v (.slice none 0 0)])) rfl rfl rfl ?_
      refine mNil ?_
      refine tN ?_
      exact anyW (r := 1) (rs := [2]) (by kernel_rfl) (wk (sl := [(2, .d (.one (.v (.int .i64 a3)))), (3, .ptr 3 0), (4, .ptr 4 0), (24, .ptr 3 0), (29, .d (.one (.v (.int .i64 a3)))), (7, .ptr 7 0)]) (hp := [(3, .box 36 ([.v (.bool s1), lr 8 (xs1.take 8)])), (4, .box 36 ([.v (.bool s2), lr 8 (xs2.take 8)])), (7, .box 36 ([.v (.bool false), .v (.slice none 0 0)]))]) rfl ⟨hs rfl, hs rfl, hs rfl, hs rfl, hs rfl, hs rfl, trivial⟩ ⟨ho rfl, ho rfl, ho rfl, trivial⟩ rfl) hD10000100010
  refine anyCut 9 #[true, true, false, false, false, false, false, false, false, false, false] ⟨112, [(2, .d (.one (.v (.int .i64 a3)))), (3, .ptr 3 0), (4, .ptr 4 0), (24, .ptr 3 0), (25, .d (.one (.v (.bool s1))))], [(3, .box 36 ([.v (.bool s1), lr 8 (xs1.take 8)])), (4, .box 36 ([.v (.bool s2), lr 8 (xs2.take 8)]))]⟩ ?_ (fun hD11000000000 => ?_)
  · skip
    refine anyS [2, 5, 9] (by kernel_rfl) rfl ?_
    refine ⟨⟨_, rfl, ?_⟩, ⟨_, rfl, ?_⟩, ⟨_, rfl, ?_⟩, trivial⟩
    · skip
      refine mV hTT (.ptr 3 1) rfl ?_
      refine mNil ?_
      refine tN ?_
      exact anyW (r := 3) (rs := [5, 9]) (by kernel_rfl) (wk (sl := [(2, .d (.one (.v (.int .i64 a3)))), (3, .ptr 3 0), (4, .ptr 4 0), (24, .ptr 3 0), (25, .d (.one (.v (.bool s1)))), (26, .ptr 3 1)]) (hp := [(3, .box 36 ([.v (.bool s1), lr 8 (xs1.take 8)])), (4, .box 36 ([.v (.bool s2), lr 8 (xs2.take 8)]))]) rfl ⟨hs rfl, hs rfl, hs rfl, hs rfl, hs rfl, hs rfl, trivial⟩ ⟨ho rfl, ho rfl, trivial⟩ rfl) hD11100000000
    · skip
      refine mV hTT _ rfl ?_
      refine mNil ?_
      refine tN ?_
      exact anyW (r := 2) (rs := [9]) (by kernel_rfl) (wk (sl := [(2, .d (.one (.v (.int .i64 a3)))), (3, .ptr 3 0), (4, .ptr 4 0), (24, .ptr 3 0), (25, .d (.one (.v (.bool s1)))), (29, .d (.one (.v (.int .i64 a3))))]) (hp := [(3, .box 36 ([.v (.bool s1), lr 8 (xs1.take 8)])), (4, .box 36 ([.v (.bool s2), lr 8 (xs2.take 8)]))]) rfl ⟨hs rfl, hs rfl, hs rfl, hs rfl, hs rfl, hs rfl, trivial⟩ ⟨ho rfl, ho rfl, trivial⟩ rfl) hD11000100000
    · skip
      refine mN hTT (.box 36 ([.v (.bool false), .v (.slice none 0 0)])) rfl rfl rfl ?_
      refine mNil ?_
      refine tN ?_
      exact anyW (r := 2) (rs := [5]) (by kernel_rfl) (wk (sl := [(2, .d (.one (.v (.int .i64 a3)))), (3, .ptr 3 0), (4, .ptr 4 0), (24, .ptr 3 0), (25, .d (.one (.v (.bool s1)))), (7, .ptr 7 0)]) (hp := [(3, .box 36 ([.v (.bool s1), lr 8 (xs1.take 8)])), (4, .box 36 ([.v (.bool s2), lr 8 (xs2.take 8)])), (7, .box 36 ([.v (.bool false), .v (.slice none 0 0)]))]) rfl ⟨hs rfl, hs rfl, hs rfl, hs rfl, hs rfl, hs rfl, trivial⟩ ⟨ho rfl, ho rfl, ho rfl, trivial⟩ rfl) hD11000000010
  refine anyCut 9 #[false, false, true, true, false, false, false, false, false, false, false] ⟨112, [(2, .d (.one (.v (.int .i64 a3)))), (3, .ptr 3 0), (4, .ptr 4 0), (26, .ptr 3 1), (27, .d (.one (lr 8 (xs1.take 8))))], [(3, .box 36 ([.v (.bool s1), lr 8 (xs1.take 8)])), (4, .box 36 ([.v (.bool s2), lr 8 (xs2.take 8)]))]⟩ ?_ (fun hD00110000000 => ?_)
  · skip
    refine anyS [0, 4, 5, 9] (by kernel_rfl) rfl ?_
    refine ⟨⟨_, rfl, ?_⟩, ⟨_, rfl, ?_⟩, ⟨_, rfl, ?_⟩, ⟨_, rfl, ?_⟩, trivial⟩
    · skip
      refine mV hTT (.ptr 3 0) rfl ?_
      refine mNil ?_
      refine tN ?_
      exact anyW (r := 1) (rs := [4, 5, 9]) (by kernel_rfl) (wk (sl := [(2, .d (.one (.v (.int .i64 a3)))), (3, .ptr 3 0), (4, .ptr 4 0), (24, .ptr 3 0), (26, .ptr 3 1), (27, .d (.one (lr 8 (xs1.take 8))))]) (hp := [(3, .box 36 ([.v (.bool s1), lr 8 (xs1.take 8)])), (4, .box 36 ([.v (.bool s2), lr 8 (xs2.take 8)]))]) rfl ⟨hs rfl, hs rfl, hs rfl, hs rfl, hs rfl, hs rfl, trivial⟩ ⟨ho rfl, ho rfl, trivial⟩ rfl) hD10110000000
    · skip
      refine mCO (aCopyO (K := 8) (xs := (xs1.take 8)) (by decide)) rfl rfl rfl rfl rfl ?_
      refine mNil ?_
      refine tN ?_
      exact anyW (r := 0) (rs := [5, 9]) (by kernel_rfl) (wk (sl := [(2, .d (.one (.v (.int .i64 a3)))), (3, .ptr 3 0), (4, .ptr 4 0), (26, .ptr 3 1), (27, .d (.one (lr 8 (xs1.take 8)))), (28, .own 28)]) (hp := [(3, .box 36 ([.v (.bool s1), lr 8 (xs1.take 8)])), (4, .box 36 ([.v (.bool s2), lr 8 (xs2.take 8)])), (28, .row 55 1 (((xs1.take 8)).length) (fun i _ => .v (.int .u32 ((List.getD (xs1.take 8) i 0 : Nat) : Int))))]) rfl ⟨hs rfl, hs rfl, hs rfl, hs rfl, hs rfl, hs rfl, trivial⟩ ⟨ho rfl, ho rfl, ho rfl, trivial⟩ rfl) hD00111000000
    · skip
      refine mV hTT _ rfl ?_
      refine mNil ?_
      refine tN ?_
      exact anyW (r := 0) (rs := [4, 9]) (by kernel_rfl) (wk (sl := [(2, .d (.one (.v (.int .i64 a3)))), (3, .ptr 3 0), (4, .ptr 4 0), (26, .ptr 3 1), (27, .d (.one (lr 8 (xs1.take 8)))), (29, .d (.one (.v (.int .i64 a3))))]) (hp := [(3, .box 36 ([.v (.bool s1), lr 8 (xs1.take 8)])), (4, .box 36 ([.v (.bool s2), lr 8 (xs2.take 8)]))]) rfl ⟨hs rfl, hs rfl, hs rfl, hs rfl, hs rfl, hs rfl, trivial⟩ ⟨ho rfl, ho rfl, trivial⟩ rfl) hD00110100000
    · skip
      refine mN hTT (.box 36 ([.v (.bool false), .v (.slice none 0 0)])) rfl rfl rfl ?_
      refine mNil ?_
      refine tN ?_
      exact anyW (r := 0) (rs := [4, 5]) (by kernel_rfl) (wk (sl := [(2, .d (.one (.v (.int .i64 a3)))), (3, .ptr 3 0), (4, .ptr 4 0), (26, .ptr 3 1), (27, .d (.one (lr 8 (xs1.take 8)))), (7, .ptr 7 0)]) (hp := [(3, .box 36 ([.v (.bool s1), lr 8 (xs1.take 8)])), (4, .box 36 ([.v (.bool s2), lr 8 (xs2.take 8)])), (7, .box 36 ([.v (.bool false), .v (.slice none 0 0)]))]) rfl ⟨hs rfl, hs rfl, hs rfl, hs rfl, hs rfl, hs rfl, trivial⟩ ⟨ho rfl, ho rfl, ho rfl, trivial⟩ rfl) hD00110000010
  refine anyCut 9 #[true, false, false, false, false, false, false, false, false, true, false] ⟨112, [(2, .d (.one (.v (.int .i64 a3)))), (3, .ptr 3 0), (4, .ptr 4 0), (24, .ptr 3 0), (7, .ptr 7 0)], [(3, .box 36 ([.v (.bool s1), lr 8 (xs1.take 8)])), (4, .box 36 ([.v (.bool s2), lr 8 (xs2.take 8)])), (7, .box 36 ([.v (.bool false), .v (.slice none 0 0)]))]⟩ ?_ (fun hD10000000010 => ?_)
  · skip
    refine anyS [1, 2, 5] (by kernel_rfl) rfl ?_
    refine ⟨⟨_, rfl, ?_⟩, ⟨_, rfl, ?_⟩, ⟨_, rfl, ?_⟩, trivial⟩
    · skip
      refine mV hTT (.d (.one (.v (.bool s1)))) rfl ?_
      refine mNil ?_
      refine tN ?_
      exact anyW (r := 2) (rs := [5]) (by kernel_rfl) (wk (sl := [(2, .d (.one (.v (.int .i64 a3)))), (3, .ptr 3 0), (4, .ptr 4 0), (24, .ptr 3 0), (25, .d (.one (.v (.bool s1)))), (7, .ptr 7 0)]) (hp := [(3, .box 36 ([.v (.bool s1), lr 8 (xs1.take 8)])), (4, .box 36 ([.v (.bool s2), lr 8 (xs2.take 8)])), (7, .box 36 ([.v (.bool false), .v (.slice none 0 0)]))]) rfl ⟨hs rfl, hs rfl, hs rfl, hs rfl, hs rfl, hs rfl, trivial⟩ ⟨ho rfl, ho rfl, ho rfl, trivial⟩ rfl) hD11000000010
    · skip
      refine mV hTT (.ptr 3 1) rfl ?_
      refine mNil ?_
      refine tN ?_
      exact anyW (r := 1) (rs := [3, 5]) (by kernel_rfl) (wk (sl := [(2, .d (.one (.v (.int .i64 a3)))), (3, .ptr 3 0), (4, .ptr 4 0), (24, .ptr 3 0), (26, .ptr 3 1), (7, .ptr 7 0)]) (hp := [(3, .box 36 ([.v (.bool s1), lr 8 (xs1.take 8)])), (4, .box 36 ([.v (.bool s2), lr 8 (xs2.take 8)])), (7, .box 36 ([.v (.bool false), .v (.slice none 0 0)]))]) rfl ⟨hs rfl, hs rfl, hs rfl, hs rfl, hs rfl, hs rfl, trivial⟩ ⟨ho rfl, ho rfl, ho rfl, trivial⟩ rfl) hD10100000010
    · skip
      refine mV hTT _ rfl ?_
      refine mNil ?_
      refine tN ?_
      exact anyW (r := 1) (rs := [2]) (by kernel_rfl) (wk (sl := [(2, .d (.one (.v (.int .i64 a3)))), (3, .ptr 3 0), (4, .ptr 4 0), (24, .ptr 3 0), (29, .d (.one (.v (.int .i64 a3)))), (7, .ptr 7 0)]) (hp := [(3, .box 36 ([.v (.bool s1), lr 8 (xs1.take 8)])), (4, .box 36 ([.v (.bool s2), lr 8 (xs2.take 8)])), (7, .box 36 ([.v (.bool false), .v (.slice none 0 0)]))]) rfl ⟨hs rfl, hs rfl, hs rfl, hs rfl, hs rfl, hs rfl, trivial⟩ ⟨ho rfl, ho rfl, ho rfl, trivial⟩ rfl) hD10000100010
  refine anyCut 9 #[false, false, true, false, false, true, false, false, false, false, false] ⟨112, [(2, .d (.one (.v (.int .i64 a3)))), (3, .ptr 3 0), (4, .ptr 4 0), (26, .ptr 3 1), (29, .d (.one (.v (.int .i64 a3))))], [(3, .box 36 ([.v (.bool s1), lr 8 (xs1.take 8)])), (4, .box 36 ([.v (.bool s2), lr 8 (xs2.take 8)]))]⟩ ?_ (fun hD00100100000 => ?_)
  · skip
    refine anyS [0, 3, 9] (by kernel_rfl) rfl ?_
    refine ⟨⟨_, rfl, ?_⟩, ⟨_, rfl, ?_⟩, ⟨_, rfl, ?_⟩, trivial⟩
    · skip
      refine mV hTT (.ptr 3 0) rfl ?_
      refine mNil ?_
      refine tN ?_
      exact anyW (r := 1) (rs := [3, 9]) (by kernel_rfl) (wk (sl := [(2, .d (.one (.v (.int .i64 a3)))), (3, .ptr 3 0), (4, .ptr 4 0), (24, .ptr 3 0), (26, .ptr 3 1), (29, .d (.one (.v (.int .i64 a3))))]) (hp := [(3, .box 36 ([.v (.bool s1), lr 8 (xs1.take 8)])), (4, .box 36 ([.v (.bool s2), lr 8 (xs2.take 8)]))]) rfl ⟨hs rfl, hs rfl, hs rfl, hs rfl, hs rfl, hs rfl, trivial⟩ ⟨ho rfl, ho rfl, trivial⟩ rfl) hD10100100000
    · skip
      refine mV hTT (.d (.one (lr 8 (xs1.take 8)))) rfl ?_
      refine mNil ?_
      refine tN ?_
      exact anyW (r := 0) (rs := [4, 9]) (by kernel_rfl) (wk (sl := [(2, .d (.one (.v (.int .i64 a3)))), (3, .ptr 3 0), (4, .ptr 4 0), (26, .ptr 3 1), (27, .d (.one (lr 8 (xs1.take 8)))), (29, .d (.one (.v (.int .i64 a3))))]) (hp := [(3, .box 36 ([.v (.bool s1), lr 8 (xs1.take 8)])), (4, .box 36 ([.v (.bool s2), lr 8 (xs2.take 8)]))]) rfl ⟨hs rfl, hs rfl, hs rfl, hs rfl, hs rfl, hs rfl, trivial⟩ ⟨ho rfl, ho rfl, trivial⟩ rfl) hD00110100000
    · skip
      refine mN hTT (.box 36 ([.v (.bool false), .v (.slice none 0 0)])) rfl rfl rfl ?_
      refine mNil ?_
      refine tN ?_
      exact anyW (r := 0) (rs := [3]) (by kernel_rfl) (wk (sl := [(2, .d (.one (.v (.int .i64 a3)))), (3, .ptr 3 0), (4, .ptr 4 0), (26, .ptr 3 1), (29, .d (.one (.v (.int .i64 a3)))), (7, .ptr 7 0)]) (hp := [(3, .box 36 ([.v (.bool s1), lr 8 (xs1.take 8)])), (4, .box 36 ([.v (.bool s2), lr 8 (xs2.take 8)])), (7, .box 36 ([.v (.bool false), .v (.slice none 0 0)]))]) rfl ⟨hs rfl, hs rfl, hs rfl, hs rfl, hs rfl, hs rfl, trivial⟩ ⟨ho rfl, ho rfl, ho rfl, trivial⟩ rfl) hD00100100010
  refine anyCut 9 #[false, false, false, false, false, true, false, false, false, true, false] ⟨112, [(2, .d (.one (.v (.int .i64 a3)))), (3, .ptr 3 0), (4, .ptr 4 0), (29, .d (.one (.v (.int .i64 a3)))), (7, .ptr 7 0)], [(3, .box 36 ([.v (.bool s1), lr 8 (xs1.take 8)])), (4, .box 36 ([.v (.bool s2), lr 8 (xs2.take 8)])), (7, .box 36 ([.v (.bool false), .v (.slice none 0 0)]))]⟩ ?_ (fun hD00000100010 => ?_)
  · skip
    refine anyS [0, 2] (by kernel_rfl) rfl ?_
    refine ⟨⟨_, rfl, ?_⟩, ⟨_, rfl, ?_⟩, trivial⟩
    · skip
      refine mV hTT (.ptr 3 0) rfl ?_
      refine mNil ?_
      refine tN ?_
      exact anyW (r := 1) (rs := [2]) (by kernel_rfl) (wk (sl := [(2, .d (.one (.v (.int .i64 a3)))), (3, .ptr 3 0), (4, .ptr 4 0), (24, .ptr 3 0), (29, .d (.one (.v (.int .i64 a3)))), (7, .ptr 7 0)]) (hp := [(3, .box 36 ([.v (.bool s1), lr 8 (xs1.take 8)])), (4, .box 36 ([.v (.bool s2), lr 8 (xs2.take 8)])), (7, .box 36 ([.v (.bool false), .v (.slice none 0 0)]))]) rfl ⟨hs rfl, hs rfl, hs rfl, hs rfl, hs rfl, hs rfl, trivial⟩ ⟨ho rfl, ho rfl, ho rfl, trivial⟩ rfl) hD10000100010
    · skip
      refine mV hTT (.ptr 3 1) rfl ?_
      refine mNil ?_
      refine tN ?_
      exact anyW (r := 0) (rs := [3]) (by kernel_rfl) (wk (sl := [(2, .d (.one (.v (.int .i64 a3)))), (3, .ptr 3 0), (4, .ptr 4 0), (26, .ptr 3 1), (29, .d (.one (.v (.int .i64 a3)))), (7, .ptr 7 0)]) (hp := [(3, .box 36 ([.v (.bool s1), lr 8 (xs1.take 8)])), (4, .box 36 ([.v (.bool s2), lr 8 (xs2.take 8)])), (7, .box 36 ([.v (.bool false), .v (.slice none 0 0)]))]) rfl ⟨hs rfl, hs rfl, hs rfl, hs rfl, hs rfl, hs rfl, trivial⟩ ⟨ho rfl, ho rfl, ho rfl, trivial⟩ rfl) hD00100100010
  refine anyCut 9 #[true, false, true, false, false, false, false, false, false, false, false] ⟨112, [(2, .d (.one (.v (.int .i64 a3)))), (3, .ptr 3 0), (4, .ptr 4 0), (24, .ptr 3 0), (26, .ptr 3 1)], [(3, .box 36 ([.v (.bool s1), lr 8 (xs1.take 8)])), (4, .box 36 ([.v (.bool s2), lr 8 (xs2.take 8)]))]⟩ ?_ (fun hD10100000000 => ?_)
  · skip
    refine anyS [1, 3, 5, 9] (by kernel_rfl) rfl ?_
    refine ⟨⟨_, rfl, ?_⟩, ⟨_, rfl, ?_⟩, ⟨_, rfl, ?_⟩, ⟨_, rfl, ?_⟩, trivial⟩
    · skip
      refine mV hTT (.d (.one (.v (.bool s1)))) rfl ?_
      refine mNil ?_
      refine tN ?_
      exact anyW (r := 3) (rs := [5, 9]) (by kernel_rfl) (wk (sl := [(2, .d (.one (.v (.int .i64 a3)))), (3, .ptr 3 0), (4, .ptr 4 0), (24, .ptr 3 0), (25, .d (.one (.v (.bool s1)))), (26, .ptr 3 1)]) (hp := [(3, .box 36 ([.v (.bool s1), lr 8 (xs1.take 8)])), (4, .box 36 ([.v (.bool s2), lr 8 (xs2.take 8)]))]) rfl ⟨hs rfl, hs rfl, hs rfl, hs rfl, hs rfl, hs rfl, trivial⟩ ⟨ho rfl, ho rfl, trivial⟩ rfl) hD11100000000
    · skip
      refine mV hTT (.d (.one (lr 8 (xs1.take 8)))) rfl ?_
      refine mNil ?_
      refine tN ?_
      exact anyW (r := 1) (rs := [4, 5, 9]) (by kernel_rfl) (wk (sl := [(2, .d (.one (.v (.int .i64 a3)))), (3, .ptr 3 0), (4, .ptr 4 0), (24, .ptr 3 0), (26, .ptr 3 1), (27, .d (.one (lr 8 (xs1.take 8))))]) (hp := [(3, .box 36 ([.v (.bool s1), lr 8 (xs1.take 8)])), (4, .box 36 ([.v (.bool s2), lr 8 (xs2.take 8)]))]) rfl ⟨hs rfl, hs rfl, hs rfl, hs rfl, hs rfl, hs rfl, trivial⟩ ⟨ho rfl, ho rfl, trivial⟩ rfl) hD10110000000
    · skip
      refine mV hTT _ rfl ?_
      refine mNil ?_
      refine tN ?_
      exact anyW (r := 1) (rs := [3, 9]) (by kernel_rfl) (wk (sl := [(2, .d (.one (.v (.int .i64 a3)))), (3, .ptr 3 0), (4, .ptr 4 0), (24, .ptr 3 0), (26, .ptr 3 1), (29, .d (.one (.v (.int .i64 a3))))]) (hp := [(3, .box 36 ([.v (.bool s1), lr 8 (xs1.take 8)])), (4, .box 36 ([.v (.bool s2), lr 8 (xs2.take 8)]))]) rfl ⟨hs rfl, hs rfl, hs rfl, hs rfl, hs rfl, hs rfl, trivial⟩ ⟨ho rfl, ho rfl, trivial⟩ rfl) hD10100100000
    · skip
      refine mN hTT (.box 36 ([.v (.bool false), .v (.slice none 0 0)])) rfl rfl rfl ?_
      refine mNil ?_
      refine tN ?_
      exact anyW (r := 1) (rs := [3, 5]) (by kernel_rfl) (wk (sl := [(2, .d (.one (.v (.int .i64 a3)))), (3, .ptr 3 0), (4, .ptr 4 0), (24, .ptr 3 0), (26, .ptr 3 1), (7, .ptr 7 0)]) (hp := [(3, .box 36 ([.v (.bool s1), lr 8 (xs1.take 8)])), (4, .box 36 ([.v (.bool s2), lr 8 (xs2.take 8)])), (7, .box 36 ([.v (.bool false), .v (.slice none 0 0)]))]) rfl ⟨hs rfl, hs rfl, hs rfl, hs rfl, hs rfl, hs rfl, trivial⟩ ⟨ho rfl, ho rfl, ho rfl, trivial⟩ rfl) hD10100000010
  refine anyCut 9 #[false, false, true, false, false, false, false, false, false, true, false] ⟨112, [(2, .d (.one (.v (.int .i64 a3)))), (3, .ptr 3 0), (4, .ptr 4 0), (26, .ptr 3 1), (7, .ptr 7 0)], [(3, .box 36 ([.v (.bool s1), lr 8 (xs1.take 8)])), (4, .box 36 ([.v (.bool s2), lr 8 (xs2.take 8)])), (7, .box 36 ([.v (.bool false), .v (.slice none 0 0)]))]⟩ ?_ (fun hD00100000010 => ?_)
  · skip
    refine anyS [0, 3, 5] (by kernel_rfl) rfl ?_
    refine ⟨⟨_, rfl, ?_⟩, ⟨_, rfl, ?_⟩, ⟨_, rfl, ?_⟩, trivial⟩
    · skip
      refine mV hTT (.ptr 3 0) rfl ?_
      refine mNil ?_
      refine tN ?_
      exact anyW (r := 1) (rs := [3, 5]) (by kernel_rfl) (wk (sl := [(2, .d (.one (.v (.int .i64 a3)))), (3, .ptr 3 0), (4, .ptr 4 0), (24, .ptr 3 0), (26, .ptr 3 1), (7, .ptr 7 0)]) (hp := [(3, .box 36 ([.v (.bool s1), lr 8 (xs1.take 8)])), (4, .box 36 ([.v (.bool s2), lr 8 (xs2.take 8)])), (7, .box 36 ([.v (.bool false), .v (.slice none 0 0)]))]) rfl ⟨hs rfl, hs rfl, hs rfl, hs rfl, hs rfl, hs rfl, trivial⟩ ⟨ho rfl, ho rfl, ho rfl, trivial⟩ rfl) hD10100000010
    · skip
      refine mV hTT (.d (.one (lr 8 (xs1.take 8)))) rfl ?_
      refine mNil ?_
      refine tN ?_
      exact anyW (r := 0) (rs := [4, 5]) (by kernel_rfl) (wk (sl := [(2, .d (.one (.v (.int .i64 a3)))), (3, .ptr 3 0), (4, .ptr 4 0), (26, .ptr 3 1), (27, .d (.one (lr 8 (xs1.take 8)))), (7, .ptr 7 0)]) (hp := [(3, .box 36 ([.v (.bool s1), lr 8 (xs1.take 8)])), (4, .box 36 ([.v (.bool s2), lr 8 (xs2.take 8)])), (7, .box 36 ([.v (.bool false), .v (.slice none 0 0)]))]) rfl ⟨hs rfl, hs rfl, hs rfl, hs rfl, hs rfl, hs rfl, trivial⟩ ⟨ho rfl, ho rfl, ho rfl, trivial⟩ rfl) hD00110000010
    · skip
      refine mV hTT _ rfl ?_
      refine mNil ?_
      refine tN ?_
      exact anyW (r := 0) (rs := [3]) (by kernel_rfl) (wk (sl := [(2, .d (.one (.v (.int .i64 a3)))), (3, .ptr 3 0), (4, .ptr 4 0), (26, .ptr 3 1), (29, .d (.one (.v (.int .i64 a3)))), (7, .ptr 7 0)]) (hp := [(3, .box 36 ([.v (.bool s1), lr 8 (xs1.take 8)])), (4, .box 36 ([.v (.bool s2), lr 8 (xs2.take 8)])), (7, .box 36 ([.v (.bool false), .v (.slice none 0 0)]))]) rfl ⟨hs rfl, hs rfl, hs rfl, hs rfl, hs rfl, hs rfl, trivial⟩ ⟨ho rfl, ho rfl, ho rfl, trivial⟩ rfl) hD00100100010
  refine anyCut 10 #[true, false, false, false, false, false, false, false, false, false, false] ⟨112, [(2, .d (.one (.v (.int .i64 a3)))), (3, .ptr 3 0), (4, .ptr 4 0), (24, .ptr 3 0)], [(3, .box 36 ([.v (.bool s1), lr 8 (xs1.take 8)])), (4, .box 36 ([.v (.bool s2), lr 8 (xs2.take 8)]))]⟩ ?_ (fun hD10000000000 => ?_)
  · skip
    refine anyS [1, 2, 5, 9] (by kernel_rfl) rfl ?_
    refine ⟨⟨_, rfl, ?_⟩, ⟨_, rfl, ?_⟩, ⟨_, rfl, ?_⟩, ⟨_, rfl, ?_⟩, trivial⟩
    · skip
      refine mV hTT (.d (.one (.v (.bool s1)))) rfl ?_
      refine mNil ?_
      refine tN ?_
      exact anyW (r := 2) (rs := [5, 9]) (by kernel_rfl) (wk (sl := [(2, .d (.one (.v (.int .i64 a3)))), (3, .ptr 3 0), (4, .ptr 4 0), (24, .ptr 3 0), (25, .d (.one (.v (.bool s1))))]) (hp := [(3, .box 36 ([.v (.bool s1), lr 8 (xs1.take 8)])), (4, .box 36 ([.v (.bool s2), lr 8 (xs2.take 8)]))]) rfl ⟨hs rfl, hs rfl, hs rfl, hs rfl, hs rfl, trivial⟩ ⟨ho rfl, ho rfl, trivial⟩ rfl) hD11000000000
    · skip
      refine mV hTT (.ptr 3 1) rfl ?_
      refine mNil ?_
      refine tN ?_
      exact anyW (r := 1) (rs := [3, 5, 9]) (by kernel_rfl) (wk (sl := [(2, .d (.one (.v (.int .i64 a3)))), (3, .ptr 3 0), (4, .ptr 4 0), (24, .ptr 3 0), (26, .ptr 3 1)]) (hp := [(3, .box 36 ([.v (.bool s1), lr 8 (xs1.take 8)])), (4, .box 36 ([.v (.bool s2), lr 8 (xs2.take 8)]))]) rfl ⟨hs rfl, hs rfl, hs rfl, hs rfl, hs rfl, trivial⟩ ⟨ho rfl, ho rfl, trivial⟩ rfl) hD10100000000
    · skip
      refine mV hTT _ rfl ?_
      refine mNil ?_
      refine tN ?_
      exact anyW (r := 1) (rs := [2, 9]) (by kernel_rfl) (wk (sl := [(2, .d (.one (.v (.int .i64 a3)))), (3, .ptr 3 0), (4, .ptr 4 0), (24, .ptr 3 0), (29, .d (.one (.v (.int .i64 a3))))]) (hp := [(3, .box 36 ([.v (.bool s1), lr 8 (xs1.take 8)])), (4, .box 36 ([.v (.bool s2), lr 8 (xs2.take 8)]))]) rfl ⟨hs rfl, hs rfl, hs rfl, hs rfl, hs rfl, trivial⟩ ⟨ho rfl, ho rfl, trivial⟩ rfl) hD10000100000
    · skip
      refine mN hTT (.box 36 ([.v (.bool false), .v (.slice none 0 0)])) rfl rfl rfl ?_
      refine mNil ?_
      refine tN ?_
      exact anyW (r := 1) (rs := [2, 5]) (by kernel_rfl) (wk (sl := [(2, .d (.one (.v (.int .i64 a3)))), (3, .ptr 3 0), (4, .ptr 4 0), (24, .ptr 3 0), (7, .ptr 7 0)]) (hp := [(3, .box 36 ([.v (.bool s1), lr 8 (xs1.take 8)])), (4, .box 36 ([.v (.bool s2), lr 8 (xs2.take 8)])), (7, .box 36 ([.v (.bool false), .v (.slice none 0 0)]))]) rfl ⟨hs rfl, hs rfl, hs rfl, hs rfl, hs rfl, trivial⟩ ⟨ho rfl, ho rfl, ho rfl, trivial⟩ rfl) hD10000000010
  refine anyCut 10 #[false, false, false, false, false, true, false, false, false, false, false] ⟨112, [(2, .d (.one (.v (.int .i64 a3)))), (3, .ptr 3 0), (4, .ptr 4 0), (29, .d (.one (.v (.int .i64 a3))))], [(3, .box 36 ([.v (.bool s1), lr 8 (xs1.take 8)])), (4, .box 36 ([.v (.bool s2), lr 8 (xs2.take 8)]))]⟩ ?_ (fun hD00000100000 => ?_)
  · skip
    refine anyS [0, 2, 9] (by kernel_rfl) rfl ?_
    refine ⟨⟨_, rfl, ?_⟩, ⟨_, rfl, ?_⟩, ⟨_, rfl, ?_⟩, trivial⟩
    · skip
      refine mV hTT (.ptr 3 0) rfl ?_
      refine mNil ?_
      refine tN ?_
      exact anyW (r := 1) (rs := [2, 9]) (by kernel_rfl) (wk (sl := [(2, .d (.one (.v (.int .i64 a3)))), (3, .ptr 3 0), (4, .ptr 4 0), (24, .ptr 3 0), (29, .d (.one (.v (.int .i64 a3))))]) (hp := [(3, .box 36 ([.v (.bool s1), lr 8 (xs1.take 8)])), (4, .box 36 ([.v (.bool s2), lr 8 (xs2.take 8)]))]) rfl ⟨hs rfl, hs rfl, hs rfl, hs rfl, hs rfl, trivial⟩ ⟨ho rfl, ho rfl, trivial⟩ rfl) hD10000100000
    · skip
      refine mV hTT (.ptr 3 1) rfl ?_
      refine mNil ?_
      refine tN ?_
      exact anyW (r := 0) (rs := [3, 9]) (by kernel_rfl) (wk (sl := [(2, .d (.one (.v (.int .i64 a3)))), (3, .ptr 3 0), (4, .ptr 4 0), (26, .ptr 3 1), (29, .d (.one (.v (.int .i64 a3))))]) (hp := [(3, .box 36 ([.v (.bool s1), lr 8 (xs1.take 8)])), (4, .box 36 ([.v (.bool s2), lr 8 (xs2.take 8)]))]) rfl ⟨hs rfl, hs rfl, hs rfl, hs rfl, hs rfl, trivial⟩ ⟨ho rfl, ho rfl, trivial⟩ rfl) hD00100100000
    · skip
      refine mN hTT (.box 36 ([.v (.bool false), .v (.slice none 0 0)])) rfl rfl rfl ?_
      refine mNil ?_
      refine tN ?_
      exact anyW (r := 0) (rs := [2]) (by kernel_rfl) (wk (sl := [(2, .d (.one (.v (.int .i64 a3)))), (3, .ptr 3 0), (4, .ptr 4 0), (29, .d (.one (.v (.int .i64 a3)))), (7, .ptr 7 0)]) (hp := [(3, .box 36 ([.v (.bool s1), lr 8 (xs1.take 8)])), (4, .box 36 ([.v (.bool s2), lr 8 (xs2.take 8)])), (7, .box 36 ([.v (.bool false), .v (.slice none 0 0)]))]) rfl ⟨hs rfl, hs rfl, hs rfl, hs rfl, hs rfl, trivial⟩ ⟨ho rfl, ho rfl, ho rfl, trivial⟩ rfl) hD00000100010
  refine anyCut 10 #[false, false, true, false, false, false, false, false, false, false, false] ⟨112, [(2, .d (.one (.v (.int .i64 a3)))), (3, .ptr 3 0), (4, .ptr 4 0), (26, .ptr 3 1)], [(3, .box 36 ([.v (.bool s1), lr 8 (xs1.take 8)])), (4, .box 36 ([.v (.bool s2), lr 8 (xs2.take 8)]))]⟩ ?_ (fun hD00100000000 => ?_)
  · skip
    refine anyS [0, 3, 5, 9] (by kernel_rfl) rfl ?_
    refine ⟨⟨_, rfl, ?_⟩, ⟨_, rfl, ?_⟩, ⟨_, rfl, ?_⟩, ⟨_, rfl, ?_⟩, trivial⟩
    · skip
      refine mV hTT (.ptr 3 0) rfl ?_
      refine mNil ?_
      refine tN ?_
      exact anyW (r := 1) (rs := [3, 5, 9]) (by kernel_rfl) (wk (sl := [(2, .d (.one (.v (.int .i64 a3)))), (3, .ptr 3 0), (4, .ptr 4 0), (24, .ptr 3 0), (26, .ptr 3 1)]) (hp := [(3, .box 36 ([.v (.bool s1), lr 8 (xs1.take 8)])), (4, .box 36 ([.v (.bool s2), lr 8 (xs2.take 8)]))]) rfl ⟨hs rfl, hs rfl, hs rfl, hs rfl, hs rfl, trivial⟩ ⟨ho rfl, ho rfl, trivial⟩ rfl) hD10100000000
    · skip
      refine mV hTT (.d (.one (lr 8 (xs1.take 8)))) rfl ?_
      refine mNil ?_
      refine tN ?_
      exact anyW (r := 0) (rs := [4, 5, 9]) (by kernel_rfl) (wk (sl := [(2, .d (.one (.v (.int .i64 a3)))), (3, .ptr 3 0), (4, .ptr 4 0), (26, .ptr 3 1), (27, .d (.one (lr 8 (xs1.take 8))))]) (hp := [(3, .box 36 ([.v (.bool s1), lr 8 (xs1.take 8)])), (4, .box 36 ([.v (.bool s2), lr 8 (xs2.take 8)]))]) rfl ⟨hs rfl, hs rfl, hs rfl, hs rfl, hs rfl, trivial⟩ ⟨ho rfl, ho rfl, trivial⟩ rfl) hD00110000000
    · skip
      refine mV hTT _ rfl ?_
      refine mNil ?_
      refine tN ?_
      exact anyW (r := 0) (rs := [3, 9]) (by kernel_rfl) (wk (sl := [(2, .d (.one (.v (.int .i64 a3)))), (3, .ptr 3 0), (4, .ptr 4 0), (26, .ptr 3 1), (29, .d (.one (.v (.int .i64 a3))))]) (hp := [(3, .box 36 ([.v (.bool s1), lr 8 (xs1.take 8)])), (4, .box 36 ([.v (.bool s2), lr 8 (xs2.take 8)]))]) rfl ⟨hs rfl, hs rfl, hs rfl, hs rfl, hs rfl, trivial⟩ ⟨ho rfl, ho rfl, trivial⟩ rfl) hD00100100000
    · skip
      refine mN hTT (.box 36 ([.v (.bool false), .v (.slice none 0 0)])) rfl rfl rfl ?_
      refine mNil ?_
      refine tN ?_
      exact anyW (r := 0) (rs := [3, 5]) (by kernel_rfl) (wk (sl := [(2, .d (.one (.v (.int .i64 a3)))), (3, .ptr 3 0), (4, .ptr 4 0), (26, .ptr 3 1), (7, .ptr 7 0)]) (hp := [(3, .box 36 ([.v (.bool s1), lr 8 (xs1.take 8)])), (4, .box 36 ([.v (.bool s2), lr 8 (xs2.take 8)])), (7, .box 36 ([.v (.bool false), .v (.slice none 0 0)]))]) rfl ⟨hs rfl, hs rfl, hs rfl, hs rfl, hs rfl, trivial⟩ ⟨ho rfl, ho rfl, ho rfl, trivial⟩ rfl) hD00100000010
  refine anyCut 10 #[false, false, false, false, false, false, false, false, false, true, false] ⟨112, [(2, .d (.one (.v (.int .i64 a3)))), (3, .ptr 3 0), (4, .ptr 4 0), (7, .ptr 7 0)], [(3, .box 36 ([.v (.bool s1), lr 8 (xs1.take 8)])), (4, .box 36 ([.v (.bool s2), lr 8 (xs2.take 8)])), (7, .box 36 ([.v (.bool false), .v (.slice none 0 0)]))]⟩ ?_ (fun hD00000000010 => ?_)
  · skip
    refine anyS [0, 2, 5] (by kernel_rfl) rfl ?_
    refine ⟨⟨_, rfl, ?_⟩, ⟨_, rfl, ?_⟩, ⟨_, rfl, ?_⟩, trivial⟩
    · skip
      refine mV hTT (.ptr 3 0) rfl ?_
      refine mNil ?_
      refine tN ?_
      exact anyW (r := 1) (rs := [2, 5]) (by kernel_rfl) (wk (sl := [(2, .d (.one (.v (.int .i64 a3)))), (3, .ptr 3 0), (4, .ptr 4 0), (24, .ptr 3 0), (7, .ptr 7 0)]) (hp := [(3, .box 36 ([.v (.bool s1), lr 8 (xs1.take 8)])), (4, .box 36 ([.v (.bool s2), lr 8 (xs2.take 8)])), (7, .box 36 ([.v (.bool false), .v (.slice none 0 0)]))]) rfl ⟨hs rfl, hs rfl, hs rfl, hs rfl, hs rfl, trivial⟩ ⟨ho rfl, ho rfl, ho rfl, trivial⟩ rfl) hD10000000010
    · skip
      refine mV hTT (.ptr 3 1) rfl ?_
      refine mNil ?_
      refine tN ?_
      exact anyW (r := 0) (rs := [3, 5]) (by kernel_rfl) (wk (sl := [(2, .d (.one (.v (.int .i64 a3)))), (3, .ptr 3 0), (4, .ptr 4 0), (26, .ptr 3 1), (7, .ptr 7 0)]) (hp := [(3, .box 36 ([.v (.bool s1), lr 8 (xs1.take 8)])), (4, .box 36 ([.v (.bool s2), lr 8 (xs2.take 8)])), (7, .box 36 ([.v (.bool false), .v (.slice none 0 0)]))]) rfl ⟨hs rfl, hs rfl, hs rfl, hs rfl, hs rfl, trivial⟩ ⟨ho rfl, ho rfl, ho rfl, trivial⟩ rfl) hD00100000010
    · skip
      refine mV hTT _ rfl ?_
      refine mNil ?_
      refine tN ?_
      exact anyW (r := 0) (rs := [2]) (by kernel_rfl) (wk (sl := [(2, .d (.one (.v (.int .i64 a3)))), (3, .ptr 3 0), (4, .ptr 4 0), (29, .d (.one (.v (.int .i64 a3)))), (7, .ptr 7 0)]) (hp := [(3, .box 36 ([.v (.bool s1), lr 8 (xs1.take 8)])), (4, .box 36 ([.v (.bool s2), lr 8 (xs2.take 8)])), (7, .box 36 ([.v (.bool false), .v (.slice none 0 0)]))]) rfl ⟨hs rfl, hs rfl, hs rfl, hs rfl, hs rfl, trivial⟩ ⟨ho rfl, ho rfl, ho rfl, trivial⟩ rfl) hD00000100010
  refine anyS [0, 2, 5, 9] (by kernel_rfl) rfl ?_
  refine ⟨⟨_, rfl, ?_⟩, ⟨_, rfl, ?_⟩, ⟨_, rfl, ?_⟩, ⟨_, rfl, ?_⟩, trivial⟩
  · skip
    refine mV hTT (.ptr 3 0) rfl ?_
    refine mNil ?_
    refine tN ?_
    exact anyW (r := 1) (rs := [2, 5, 9]) (by kernel_rfl) (wk (sl := [(2, .d (.one (.v (.int .i64 a3)))), (3, .ptr 3 0), (4, .ptr 4 0), (24, .ptr 3 0)]) (hp := [(3, .box 36 ([.v (.bool s1), lr 8 (xs1.take 8)])), (4, .box 36 ([.v (.bool s2), lr 8 (xs2.take 8)]))]) rfl ⟨hs rfl, hs rfl, hs rfl, hs rfl, trivial⟩ ⟨ho rfl, ho rfl, trivial⟩ rfl) hD10000000000
  · skip
    refine mV hTT (.ptr 3 1) rfl ?_
    refine mNil ?_
    refine tN ?_
    exact anyW (r := 0) (rs := [3, 5, 9]) (by kernel_rfl) (wk (sl := [(2, .d (.one (.v (.int .i64 a3)))), (3, .ptr 3 0), (4, .ptr 4 0), (26, .ptr 3 1)]) (hp := [(3, .box 36 ([.v (.bool s1), lr 8 (xs1.take 8)])), (4, .box 36 ([.v (.bool s2), lr 8 (xs2.take 8)]))]) rfl ⟨hs rfl, hs rfl, hs rfl, hs rfl, trivial⟩ ⟨ho rfl, ho rfl, trivial⟩ rfl) hD00100000000
  · skip
    refine mV hTT _ rfl ?_
    refine mNil ?_
    refine tN ?_
    exact anyW (r := 0) (rs := [2, 9]) (by kernel_rfl) (wk (sl := [(2, .d (.one (.v (.int .i64 a3)))), (3, .ptr 3 0), (4, .ptr 4 0), (29, .d (.one (.v (.int .i64 a3))))]) (hp := [(3, .box 36 ([.v (.bool s1), lr 8 (xs1.take 8)])), (4, .box 36 ([.v (.bool s2), lr 8 (xs2.take 8)]))]) rfl ⟨hs rfl, hs rfl, hs rfl, hs rfl, trivial⟩ ⟨ho rfl, ho rfl, trivial⟩ rfl) hD00000100000
  · skip
    refine mN hTT (.box 36 ([.v (.bool false), .v (.slice none 0 0)])) rfl rfl rfl ?_
    refine mNil ?_
    refine tN ?_
    exact anyW (r := 0) (rs := [2, 5]) (by kernel_rfl) (wk (sl := [(2, .d (.one (.v (.int .i64 a3)))), (3, .ptr 3 0), (4, .ptr 4 0), (7, .ptr 7 0)]) (hp := [(3, .box 36 ([.v (.bool s1), lr 8 (xs1.take 8)])), (4, .box 36 ([.v (.bool s2), lr 8 (xs2.take 8)])), (7, .box 36 ([.v (.bool false), .v (.slice none 0 0)]))]) rfl ⟨hs rfl, hs rfl, hs rfl, hs rfl, trivial⟩ ⟨ho rfl, ho rfl, ho rfl, trivial⟩ rfl) hD00000000010

end Go.Proofs.Ytlkdlicbhhackaa

/-
  A SLICE OF INTEGERS THAT CAME IN, AS THE WALKS READ IT ('Rw').
-/
set_option linter.unusedVariables false
set_option linter.unusedSimpArgs false
namespace Go.Proofs.Ytlkdlicbhhackaa
open Go.RowKit

/-- A row that came in (in the words of the rows' shells) is a row as the walks read it: kind k, each from 0 to B - 1. -/
theorem rw_in {k : IntKind} {B : Nat} {w : World} {a : Option Addr} {len cap : Nat} {zs : List Int}
    (h : (a = none ∧ len = 0 ∧ cap = 0 ∧ zs = []) ∨ ∃ x, a = some x ∧ len ≤ cap ∧ cap ≤ maxLen ∧ zs.length = cap ∧ (∀ i, i < zs.length → w.cell? (x.add i) = some (.int k (zs.getD i 0))) ∧ ∀ n ∈ zs, (Lit.int k n).wf = true)
    (hk : ∀ z : Int, (Lit.int k z).wf = true → 0 ≤ z ∧ z < (B : Int)) :
    len ≤ 9223372036854775807 ∧ ∃ xs, Rw k B w a len cap xs := by
  rcases h with ⟨rfl, rfl, rfl, rfl⟩ | ⟨x, rfl, hlc, hcm, hz, hcell, hwf⟩
  · exact ⟨by omega, [], Rw.nil k B w⟩
  · have hm : maxLen = 9223372036854775807 := by decide
    refine ⟨by omega, (zs.take len).map Int.toNat, by rw [List.length_map, List.length_take]; omega, hlc, (fun e => nomatch e), ?_, ?_⟩
    · intro n hn
      obtain ⟨z, hz, rfl⟩ := List.mem_map.1 hn
      have := hk z (hwf z (List.mem_of_mem_take hz))
      omega
    · by_cases h0 : len = 0
      · left; subst h0; rfl
      · right
        obtain ⟨b, off, sp⟩ := x
        have hc0 := hcell 0 (by omega)
        obtain rfl : sp = none := by
          cases sp with
          | none => rfl
          | some s =>
            exfalso
            simp only [Addr.add, if_true, World.cell?] at hc0
            split at hc0 <;> simp_all
        refine ⟨b, off, rfl, fun j hj => ?_⟩
        have hj2 : j < len := by simp [ints] at hj; omega
        have hcj := hcell j (by omega)
        have hzj : zs.getD j 0 = zs[j]'(by omega) := by rw [List.getD_eq_getElem?_getD, List.getElem?_eq_getElem (by omega)]; rfl
        have e1 : (⟨b, off, none⟩ : Addr).add j = ⟨b, off + j, none⟩ := by
          unfold Addr.add
          split
          · next h => subst h; rfl
          · rfl
        rw [e1, hzj] at hcj
        rw [hcj]
        have hw := hk _ (hwf _ (List.getElem_mem (l := zs) (n := j) (by omega)))
        simp only [ints, List.map_map, List.getElem_map, List.getElem_take, Function.comp]
        rw [Int.toNat_of_nonneg hw.1]

theorem wf_u32 (z : Int) (h : (Lit.int .u32 z).wf = true) : 0 ≤ z ∧ z < (B32 : Int) := by
  simp only [Lit.wf, Bool.and_eq_true, decide_eq_true_eq] at h
  have h1 : IntKind.u32.min = 0 := by decide
  have h2 : IntKind.u32.max = 4294967295 := by decide
  have h3 : (B32 : Int) = 4294967296 := by decide
  omega

theorem wf_int {z : Int} (h : (Lit.int .i64 z).wf = true) : -9223372036854775808 ≤ z ∧ z ≤ 9223372036854775807 := by
  simp only [Lit.wf, Bool.and_eq_true, decide_eq_true_eq] at h
  have h1 : IntKind.i64.min = -9223372036854775808 := by decide
  have h2 : IntKind.i64.max = 9223372036854775807 := by decide
  omega

end Go.Proofs.Ytlkdlicbhhackaa

/-
  WHAT COMES IN: rows of limbs, rows of rows, as the walks read them.
-/
set_option linter.unusedVariables false
set_option linter.unusedSimpArgs false
namespace Go.Proofs.Ytlkdlicbhhackaa
open Go.RowKit Go.ChangeShapes Go.WideShapes

section
variable {H : Type} {enc : TypeId × Value → H} {P : Program} {w : World}

/-- A row of limbs that came in. -/
theorem in_u32s {t e : TypeId} {fuel : Nat} {cs : List Value} {x : DataW H × List MemPlace} (ht : P.underlying t = some (.slice e)) (he : P.underlying e = some (.int .u32)) (hc : P.cellsOf e = 1)
    (h : DataW.trod enc P w 0 (fun _ => true) true fuel t cs = some x) :
    ∃ a len cap, cs = [.slice a len cap] ∧ len ≤ 9223372036854775807 ∧ ∃ xs, Rw .u32 B32 w a len cap xs := by
  rcases open_ints ht he hc h with ⟨rfl, _⟩ | ⟨a, l, c, zs, rfl, _, hl, hm, hz, _, hcell, hwz⟩
  · exact ⟨none, 0, 0, rfl, by omega, [], Rw.nil _ _ _⟩
  · exact ⟨some a, l, c, rfl, rw_in (.inr ⟨_, rfl, hl, hm, by simpa using hz, hcell, hwz⟩) wf_u32⟩

/-- A row of rows of limbs that came in: each element is a row of limbs. -/
def InRows (w : World) (ao : Option Addr) (n : Nat) : Prop :=
  ∀ j, j < n → ∃ b off a k d xs, ao = some ⟨b, off, none⟩ ∧ w.cell? ⟨b, off + j, none⟩ = some (.slice a k d) ∧ k ≤ 9223372036854775807 ∧ Rw .u32 B32 w a k d xs

theorem add_plain {b off j : Nat} : (⟨b, off, none⟩ : Addr).add j = ⟨b, off + j, none⟩ := by
  unfold Addr.add
  split
  · next h => subst h; rfl
  · rfl

/-- The address of a cell that can be read has no spot. -/
theorem plain_of_cell {a : Addr} {v : Value} (h : w.cell? (a.add 0) = some v) : ∃ b off, a = ⟨b, off, none⟩ := by
  obtain ⟨b, off, sp⟩ := a
  cases sp with
  | none => exact ⟨b, off, rfl⟩
  | some s =>
    exfalso
    simp only [Addr.add, if_true, World.cell?] at h
    split at h <;> simp_all

theorem in_rows {t e e' : TypeId} {fuel : Nat} {cs : List Value} {x : DataW H × List MemPlace} (ht : P.underlying t = some (.slice e)) (he : P.underlying e = some (.slice e')) (he' : P.underlying e' = some (.int .u32)) (hc : P.cellsOf e = 1) (hc' : P.cellsOf e' = 1)
    (h : DataW.trod enc P w 0 (fun _ => true) true fuel t cs = some x) :
    ∃ a len cap, cs = [.slice a len cap] ∧ len ≤ 9223372036854775807 ∧ len ≤ cap ∧ InRows w a len := by
  rcases Go.Deep.open_slice1 ht hc h with ⟨rfl, _⟩ | ⟨a, len, cap, m, n, V, D, Pl, rfl, _, hl, hm, hmm, _, hx⟩
  · exact ⟨none, 0, 0, rfl, by omega, Nat.le_refl _, fun j hj => absurd hj (by omega)⟩
  · have hmax : maxLen = 9223372036854775807 := by decide
    refine ⟨some a, len, cap, rfl, by omega, hl, fun j hj => ?_⟩
    have hm2 : m = cap := by simpa using hmm
    obtain ⟨b, off, rfl⟩ := plain_of_cell (hx 0 (by omega)).1
    obtain ⟨h1, h2⟩ := hx j (by omega)
    obtain ⟨a', k, d, he1, hk, xs, hr⟩ := in_u32s he he' hc' h2
    rw [add_plain] at h1
    exact ⟨b, off, a', k, d, xs, rfl, by rw [h1]; exact congrArg some (List.cons.inj he1).1, hk, hr⟩

end
end Go.Proofs.Ytlkdlicbhhackaa

/-
  WHAT COMES IN, in the abstract machine's words; a law's answer as the rows ask for it. No condition; nothing of the program.
-/
set_option linter.unusedVariables false
set_option linter.unusedSimpArgs false
namespace Go.Proofs.Ytlkdlicbhhackaa
open Go.RowKit Go.ChangeShapes Go.WideShapes

def nb : BS := fun _ => False
abbrev MX : Nat := 9223372036854775807
theorem am_law {P : Program} {f : FuncId} {args : List DV} (h : ACall P f args (.d (.one (.v (.bool true))))) {w : World} {vs : List Value} (hvs : DsR nb w args vs) : Calls P f vs.toArray w fun e w' => e = .returned (.bool true) ∧ Below w.heap.size w w' :=
  (h.go nb w vs (fun _ h => h.elim) hvs).mono fun e w' ⟨v, he, hb, hv⟩ => ⟨by have h1 : v = .bool true := (show LfR nb w' (.v (.bool true)) v from hv).1; rw [he, h1], hb⟩

section
variable {H : Type} {enc : TypeId × Value → H} {P : Program} {w : World}
theorem am_lim {t e : TypeId} {fuel : Nat} {cs : List Value} {x : DataW H × List MemPlace} (ht : P.underlying t = some (.slice e)) (he : P.underlying e = some (.int .u32)) (hc : P.cellsOf e = 1)
    (h : DataW.trod enc P w 0 (fun _ => true) true fuel t cs = some x) : ∃ v xs, cs = [v] ∧ LfR nb w (lr MX xs) v := by
  obtain ⟨a, len, cap, e1, hl, xs, hr⟩ := in_u32s ht he hc h
  exact ⟨_, xs, e1, lr_R hr hl (fun _ _ _ h => h.elim)⟩
theorem am_int {r : Reach} {b0 : Nat} {t e : TypeId} {f0 f1 : Field} {v : Value} {d : DataW H} {p : List MemPlace} (hs : P.underlying t = some (.struct #[f0, f1])) (hone : Deep.oneCellFields P #[f0, f1] = true) (hC : P.cellsOf t = 2)
    (h0 : P.underlying f0.type = some .bool) (h1 : P.underlying f1.type = some (.slice e)) (he : P.underlying e = some (.int .u32)) (hc : P.cellsOf e = 1)
    (hv : Value.okWide P w r b0 t v) (h : DataW.Trod enc P w 0 (fun _ => true) true t v d p) :
    ∃ s xs, DR nb w (.agg [.v (.bool s), lr MX xs]) v := by
  obtain ⟨v0, v1, y0, y1, m, rfl, _, _, k0, k1⟩ := Joins.open_agg2 hs hone hC hv h
  obtain ⟨v1', xs, e1, hr⟩ := am_lim h1 he hc k1
  obtain ⟨s, e0⟩ : ∃ s, v0 = .bool s := by
    obtain ⟨b', hb, _⟩ := DataW.trod_bool h0 k0
    exact ⟨b', (List.cons.inj hb).1⟩
  subst e0
  obtain rfl := (List.cons.inj e1).1
  exact ⟨s, xs, _, rfl, ⟨rfl, rfl⟩, hr, trivial⟩
theorem am_pol {t e u : TypeId} {f0 f1 : Field} {fuel : Nat} {cs : List Value} {x : DataW H × List MemPlace} (ht : P.underlying t = some (.slice e)) (hs : P.underlying e = some (.struct #[f0, f1])) (hC : P.cellsOf e = 2)
    (ho : f0.offset = 0 ∧ f1.offset = 1 ∧ P.cellsOf f0.type = 1 ∧ P.cellsOf f1.type = 1)
    (h0 : P.underlying f0.type = some .bool) (h1 : P.underlying f1.type = some (.slice u)) (hu : P.underlying u = some (.int .u32)) (hc : P.cellsOf u = 1)
    (h : DataW.trod enc P w 0 (fun _ => true) true fuel t cs = some x) : ∃ v n f, cs = [v] ∧ LfR nb w (arow MX n f) v := by
  obtain ⟨o0, o1, k0, k1⟩ := ho
  rcases Go.Deep.open_slice ht h with ⟨hcs, _⟩ | ⟨a, len, cap, m, n, D, Pl, hcs, _, hl, hm, hmm, _, hx⟩
  · exact ⟨_, 0, fun _ => (false, []), hcs, none, 0, rfl, Nat.le_refl _, fun _ => rfl, fun i hi => absurd hi (Nat.not_lt_zero _)⟩
  · have hmax : maxLen = 9223372036854775807 := by decide
    have hm2 : m = cap := by simpa using hmm
    have key : ∀ j, j < len → ∃ F : Bool × List Nat, ∃ b off v1, a = ⟨b, off, none⟩ ∧ w.cell? ⟨b, off + j * 2, none⟩ = some (.bool F.1) ∧ w.cell? ⟨b, off + j * 2 + 1, none⟩ = some v1 ∧ LfR nb w (lr MX F.2) v1 := by
      intro j hj
      have hfirst : ∃ v0, w.cell? (a.add 0) = some v0 := by
        obtain ⟨cs, h2, _⟩ := hx 0 (by omega)
        rw [hC] at h2
        obtain ⟨_, hlen, hcell⟩ := World.cells?_some h2
        have h3 := hcell 0 (by omega)
        rw [Nat.zero_mul, show (a.add 0).add 0 = a.add 0 by simp [Addr.add]] at h3
        exact ⟨_, h3.trans (List.getElem?_eq_getElem (by omega))⟩
      obtain ⟨v0, hv0⟩ := hfirst
      obtain ⟨b, off, rfl⟩ := plain_of_cell hv0
      obtain ⟨cs, h2, h3⟩ := hx j (by omega)
      rw [hC] at h2
      obtain ⟨_, hlen, hcell⟩ := World.cells?_some h2
      obtain ⟨y0, y1, q, _, _, t0, t1⟩ := trod_struct2 hs h3
      match cs, hlen with
      | [c0, c1], _ =>
        rw [o0, k0] at t0
        rw [o1, k1] at t1
        obtain ⟨s, hb, _⟩ := DataW.trod_bool h0 t0
        obtain ⟨v1, xs, e1, hr⟩ := am_lim h1 hu hc t1
        obtain rfl : c0 = .bool s := (List.cons.inj hb).1
        obtain rfl : c1 = v1 := (List.cons.inj e1).1
        have g0 := hcell 0 (by simp)
        have g1 := hcell 1 (by simp)
        rw [add_plain, add_plain] at g0 g1
        exact ⟨(s, xs), b, off, c1, rfl, g0, g1, hr⟩
    refine ⟨_, len, fun j => if h : j < len then (key j h).choose else (false, []), hcs, some a, cap, rfl, hl, (fun e => nomatch e), fun j hj => ?_⟩
    obtain ⟨b, off, v1, rfl, h2, h3, h4⟩ := (key j hj).choose_spec
    refine ⟨b, off, rfl, fun h => h.elim, World.block_lt_of_cell? w _ h2, fun q hq => ?_⟩
    match q, hq with
    | 0, _ =>
      refine ⟨_, h2, ?_⟩
      show LfR nb w (.v (.bool (if h : j < len then (key j h).choose else (false, [])).1)) _
      rw [dif_pos hj]; exact ⟨rfl, rfl⟩
    | 1, _ =>
      refine ⟨_, h3, ?_⟩
      show LfR nb w (lr MX (if h : j < len then (key j h).choose else (false, [])).2) _
      rw [dif_pos hj]; exact h4
theorem am_pols {t s e u : TypeId} {f0 f1 : Field} {fuel : Nat} {cs : List Value} {x : DataW H × List MemPlace} (hts : P.underlying t = some (.slice s)) (hcs1 : P.cellsOf s = 1) (ht : P.underlying s = some (.slice e)) (hs : P.underlying e = some (.struct #[f0, f1])) (hC : P.cellsOf e = 2)
    (ho : f0.offset = 0 ∧ f1.offset = 1 ∧ P.cellsOf f0.type = 1 ∧ P.cellsOf f1.type = 1)
    (h0 : P.underlying f0.type = some .bool) (h1 : P.underlying f1.type = some (.slice u)) (hu : P.underlying u = some (.int .u32)) (hc : P.cellsOf u = 1)
    (h : DataW.trod enc P w 0 (fun _ => true) true fuel t cs = some x) : ∃ v n ns fs, cs = [v] ∧ LfR nb w (prows MX n ns fs) v := by
  rcases Go.Deep.open_slice1 hts hcs1 h with ⟨rfl, _⟩ | ⟨a, len, cap, m, n, V, D, Pl, rfl, _, hl, hm, hmm, _, hx⟩
  · exact ⟨_, 0, fun _ => 0, fun _ _ => (false, []), rfl, none, 0, rfl, Nat.le_refl _, fun _ => rfl, fun i hi => absurd hi (Nat.not_lt_zero _)⟩
  · have hm2 : m = cap := by simpa using hmm
    have key : ∀ j, j < len → ∃ F : Nat × (Nat → Bool × List Nat), ∃ b off v1, a = ⟨b, off, none⟩ ∧ w.cell? ⟨b, off + j, none⟩ = some v1 ∧ LfR nb w (arow MX F.1 F.2) v1 := by
      intro j hj
      obtain ⟨b, off, rfl⟩ := plain_of_cell (hx 0 (by omega)).1
      obtain ⟨h1', h2⟩ := hx j (by omega)
      obtain ⟨v, n', f, e1, hr⟩ := am_pol ht hs hC ho h0 h1 hu hc h2
      rw [add_plain] at h1'
      obtain e2 := (List.cons.inj e1).1
      exact ⟨(n', f), b, off, v, rfl, by rw [h1', e2], hr⟩
    refine ⟨_, len, fun j => if h : j < len then (key j h).choose.1 else 0, fun j => if h : j < len then (key j h).choose.2 else fun _ => (false, []), rfl, some a, cap, rfl, hl, (fun e => nomatch e), fun j hj => ?_⟩
    obtain ⟨b, off, v1, rfl, h2, h4⟩ := (key j hj).choose_spec
    refine ⟨b, off, rfl, fun h => h.elim, World.block_lt_of_cell? w _ h2, fun q hq => ?_⟩
    obtain rfl : q = 0 := by omega
    refine ⟨_, by rw [Nat.mul_one, Nat.add_zero]; exact h2, ?_⟩
    show LfR nb w (arow MX (if h : j < len then (key j h).choose.1 else 0) (if h : j < len then (key j h).choose.2 else fun _ => (false, []))) _
    rw [dif_pos hj, dif_pos hj]; exact h4
theorem am_i64s {t e : TypeId} {fuel : Nat} {cs : List Value} {x : DataW H × List MemPlace} (ht : P.underlying t = some (.slice e)) (he : P.underlying e = some (.int .i64)) (hc : P.cellsOf e = 1)
    (h : DataW.trod enc P w 0 (fun _ => true) true fuel t cs = some x) : ∃ v n c, cs = [v] ∧ LfR nb w (irow n c) v ∧ ∀ i, i < n → -9223372036854775808 ≤ c i ∧ c i ≤ 9223372036854775807 := by
  rcases open_ints ht he hc h with ⟨rfl, _⟩ | ⟨a, l, c, zs, rfl, _, hl, hm, hz, _, hcell, hwz⟩
  · exact ⟨_, 0, fun _ => 0, rfl, ⟨none, 0, rfl, Nat.le_refl _, fun _ => rfl, fun i hi => absurd hi (Nat.not_lt_zero _)⟩, fun i hi => absurd hi (Nat.not_lt_zero _)⟩
  · have hz' : zs.length = c := by simpa using hz
    refine ⟨_, l, fun i => zs.getD i 0, rfl, ⟨some a, c, rfl, hl, (fun e => nomatch e), fun i hi => ?_⟩, fun i hi => ?_⟩
    · have h0 := hcell 0 (by omega)
      obtain ⟨b, off, rfl⟩ := plain_of_cell h0
      have h1 := hcell i (by omega)
      rw [add_plain] at h1
      refine ⟨b, off, rfl, fun h => h.elim, World.block_lt_of_cell? w _ h1, fun q hq => ?_⟩
      obtain rfl : q = 0 := by omega
      exact ⟨_, by rw [Nat.mul_one, Nat.add_zero]; exact h1, rfl, rfl⟩
    · have hi' : i < zs.length := by omega
      show _ ≤ zs.getD i 0 ∧ zs.getD i 0 ≤ _
      rw [List.getD_eq_getElem?_getD, List.getElem?_eq_getElem hi']
      exact wf_int (hwz _ (List.getElem_mem hi'))
theorem slice_cells {a : Option Addr} {n c : Nat} : (Value.slice a n c).cells.toList = [.slice a n c] := by simp [Value.cells]
theorem am_polT {r : Reach} {b0 : Nat} {d : DataW H} {p : List MemPlace} {v : Value} {t e u : TypeId} {f0 f1 : Field} (ht : P.underlying t = some (.slice e)) (hs : P.underlying e = some (.struct #[f0, f1])) (hC : P.cellsOf e = 2)
    (ho : f0.offset = 0 ∧ f1.offset = 1 ∧ P.cellsOf f0.type = 1 ∧ P.cellsOf f1.type = 1)
    (h0 : P.underlying f0.type = some .bool) (h1 : P.underlying f1.type = some (.slice u)) (hu : P.underlying u = some (.int .u32)) (hc : P.cellsOf u = 1)
    (hv : Value.okWide P w r b0 t v) (h : DataW.Trod enc P w 0 (fun _ => true) true t v d p) : ∃ n f, LfR nb w (arow MX n f) v := by
  obtain ⟨a, len, cap, rfl⟩ := okWide_slice ht hv
  obtain ⟨fuel, hf⟩ := h
  rw [slice_cells] at hf
  obtain ⟨v', n, f, e1, h2⟩ := am_pol ht hs hC ho h0 h1 hu hc hf
  obtain rfl := (List.cons.inj e1).1
  exact ⟨n, f, h2⟩
theorem am_polsT {r : Reach} {b0 : Nat} {d : DataW H} {p : List MemPlace} {v : Value} {t s e u : TypeId} {f0 f1 : Field} (hts : P.underlying t = some (.slice s)) (hcs1 : P.cellsOf s = 1) (ht : P.underlying s = some (.slice e)) (hs : P.underlying e = some (.struct #[f0, f1])) (hC : P.cellsOf e = 2)
    (ho : f0.offset = 0 ∧ f1.offset = 1 ∧ P.cellsOf f0.type = 1 ∧ P.cellsOf f1.type = 1)
    (h0 : P.underlying f0.type = some .bool) (h1 : P.underlying f1.type = some (.slice u)) (hu : P.underlying u = some (.int .u32)) (hc : P.cellsOf u = 1)
    (hv : Value.okWide P w r b0 t v) (h : DataW.Trod enc P w 0 (fun _ => true) true t v d p) : ∃ n ns fs, LfR nb w (prows MX n ns fs) v := by
  obtain ⟨a, len, cap, rfl⟩ := okWide_slice hts hv
  obtain ⟨fuel, hf⟩ := h
  rw [slice_cells] at hf
  obtain ⟨v', n, ns, fs, e1, h2⟩ := am_pols hts hcs1 ht hs hC ho h0 h1 hu hc hf
  obtain rfl := (List.cons.inj e1).1
  exact ⟨n, ns, fs, h2⟩
theorem am_i64sT {r : Reach} {b0 : Nat} {d : DataW H} {p : List MemPlace} {v : Value} {t e : TypeId} (ht : P.underlying t = some (.slice e)) (he : P.underlying e = some (.int .i64)) (hc : P.cellsOf e = 1)
    (hv : Value.okWide P w r b0 t v) (h : DataW.Trod enc P w 0 (fun _ => true) true t v d p) : ∃ n c, LfR nb w (irow n c) v ∧ ∀ i, i < n → -9223372036854775808 ≤ c i ∧ c i ≤ 9223372036854775807 := by
  obtain ⟨a, len, cap, rfl⟩ := okWide_slice ht hv
  obtain ⟨fuel, hf⟩ := h
  rw [slice_cells] at hf
  obtain ⟨v', n, c, e1, h2⟩ := am_i64s ht he hc hf
  obtain rfl := (List.cons.inj e1).1
  exact ⟨n, c, h2⟩
end
end Go.Proofs.Ytlkdlicbhhackaa

