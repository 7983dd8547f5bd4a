/-
  THE ABSTRACT MACHINE, 16: rules for rows of symbolic length; tuples; plain law of division. No condition; nothing of the program.
-/
import Derived.Test.YtkcagkcphobmfaaMq
import Derived.Test.YtkcagkcphobmfaaMp
set_option linter.unusedVariables false
set_option linter.unusedSimpArgs false
namespace Go.Proofs.Ytkcagkcphobmfaa
open Go.RowKit

theorem dle {a b : DV} (h : AV.le (.d a) (.d b)) : ∀ B w v, DR B w a v → DR B w b v := fun B w v hv => h (fun _ => none) B w v hv
theorem le_tup {xs ys : List DV} (h : DsLe xs ys) : AV.le (.tup xs) (.tup ys) := fun ρ B w v ⟨cs, e, hl⟩ => ⟨cs, e, h.ok hl⟩

section
variable {T : TypeId → Option TI} {s : AS} {t e : TypeId} {ti te : TI} {x ix : Operand} {k : IntKind} {z : Int} {sz n id : Nat} {el : Nat → Nat → Lf}
theorem ixR (h1 : T t = some ti) (h2 : ti.elem = some e) (h3 : T e = some te) (h4 : ints2 s ix = some (k, z)) (h5 : geto s x = some (.d (.one (.row sz n el)))) (h6 : Nat.beq sz te.n = true) (hz : 0 ≤ z) (hz2 : z < (n : Int)) : evV T s (.indexAddr t x ix) = some (.d (.one (.at sz (el z.toNat)))) := by
  have h6' := Nat.eq_of_beq_eq_true h6
  simp only [evV, h1, h2, h3, h4, h5]
  rw [if_pos ⟨h6', hz, hz2⟩]; rfl
theorem ixO {e' : TypeId} (h1 : T t = some ti) (h2 : ti.elem = some e) (h3 : T e = some te) (h4 : ints2 s ix = some (k, z)) (h5 : geto s x = some (.own id)) (h7 : lk s.hp id = some (.row e' sz n el)) (h6 : Nat.beq sz te.n = true) (hz : 0 ≤ z) (hz2 : z < (n : Int)) : evV T s (.indexAddr t x ix) = some (.eptr id sz z.toNat 0) := by
  have h6' := Nat.eq_of_beq_eq_true h6
  simp only [evV, h1, h2, h3, h4, h5, h7]
  rw [if_pos ⟨h6', hz, hz2⟩]
theorem slR {hi : Operand} (h1 : T t = some ti) (h2 : ti.elem = some e) (h3 : T e = some te) (h4 : ints2 s hi = some (k, z)) (h5 : geto s x = some (.d (.one (.row sz n el)))) (h6 : Nat.beq sz te.n = true) (hz : 0 ≤ z) (hz2 : z ≤ (n : Int)) : evV T s (.slice t x none (some hi) none) = some (.d (.one (.row sz z.toNat el))) := by
  have h6' := Nat.eq_of_beq_eq_true h6
  simp only [evV, h1, h2, h3, h5, bndV, h4, if_pos hz]
  rw [if_pos ⟨h6', Nat.zero_le _, by omega⟩]
  show some (AV.d (.one (.row sz (z.toNat - 0) fun i j => el (0 + i) j))) = _
  simp only [Nat.sub_zero, Nat.zero_add]
theorem mkO {l c : Operand} {zl zc : Int} {k' : IntKind} {bts nn : Nat} {zz : List Value} (h1 : T t = some ti) (h2 : ti.elem = some e) (h3 : T e = some te) (h4 : ints2 s l = some (k, zl)) (h5 : ints2 s c = some (k', zc)) (h0 : 0 ≤ zl) (h6 : zl ≤ zc) (hb : te.bytes = bts) (hn : te.n = nn) (hzz : te.zero = zz) (h7 : (bts : Int) * zc ≤ 140737488355328) (h8 : zc ≤ 9223372036854775807) (h9 : Nat.beq te.zero.length te.n = true) : evN T s (.makeSlice t l c) = some (.row e nn zl.toNat fun _ j => .v ((zz[j]?).getD undef)) := by
  have h9' := Nat.eq_of_beq_eq_true h9
  subst hb; subst hn; subst hzz
  simp only [evN, h1, h2, h3, h4, h5]
  rw [if_pos ⟨h0, h6, h7, h8, h9'⟩]
end

theorem inc64 {i : Nat} (h : i < 1000000001 := by omega) : IntKind.i64.wrap ((i : Int) + 1) = ((i + 1 : Nat) : Int) := (wr64 (by omega) (by omega)).trans (by omega)

theorem leo_row0 {e : TypeId} {sz : Nat} {el el' : Nat → Nat → Lf} : AO.le (.row e sz 0 el) (.row e sz 0 el') := leo_row fun i hi => absurd hi (Nat.not_lt_zero _)

/-! ### Small numbers -/
theorem shr32 (m : Nat) : Int.fdiv (m : Int) (2 ^ (min (Int.toNat 32) 64)) = ((m / 4294967296 : Nat) : Int) := by
  rw [Int.fdiv_eq_ediv_of_nonneg _ (by decide)]; exact (Int.natCast_ediv m 4294967296).symm
theorem of_row {m : Nat} {el : Nat → Nat → Lf} (hm : m < 18446744073709551616) (h0 : el 0 0 = .v (.int .u32 ((m % 4294967296 : Nat) : Int)) := by rfl) (h1 : el 1 0 = .v (.int .u32 ((m / 4294967296 : Nat) : Int)) := by rfl) : IsL (.row 1 2 el) 2 m := by
  refine (isl_row (xs := [m % 4294967296, m / 4294967296]) rfl ?_ ?_).eq ?_
  · intro x hx
    simp only [B32]
    rcases List.mem_cons.1 hx with rfl | hx
    · exact Nat.mod_lt _ (by decide)
    · rcases List.mem_cons.1 hx with rfl | hx
      · omega
      · simp at hx
  · intro i hi
    match i, hi with
    | 0, _ => exact h0
    | 1, _ => exact h1
  · show m % 4294967296 + B32 * (m / 4294967296 + B32 * 0) = m
    simp only [B32]; omega
theorem one_row {el : Nat → Nat → Lf} (h0 : el 0 0 = .v (.int .u32 1) := by rfl) : IsL (.row 1 1 el) 1 1 := by
  refine (isl_row (xs := [1]) rfl ?_ ?_).eq rfl
  · intro x hx
    simp at hx; subst hx; decide
  · intro i hi
    have hi' : i < 1 := hi
    obtain rfl : i = 0 := by omega
    exact h0
theorem neg_wrap2 (n : Int) (h : n < 0) (h1 : -9223372036854775808 ≤ n) : IntKind.u64.wrap (0 - IntKind.u64.wrap n) = (n.natAbs : Int) := by
  rw [wrap_u64, wrap_u64]; omega
theorem pos_wrap2 (n : Int) (h : ¬ n < 0) (h1 : n ≤ 9223372036854775807) : IntKind.u64.wrap n = (n.natAbs : Int) := by
  rw [wrap_u64]; omega

/-! ### Division -/
theorem zv_ne {t : Bool} {n : Nat} (h : n ≠ 0) : (zv t n).natAbs = n ∧ zv t n ≠ 0 := ⟨zv_abs _ _, fun e => h (by rw [← zv_abs t n, e]; rfl)⟩
theorem dm1 (t : Bool) (m n : Nat) (hn : n ≠ 0) : zv (false != t) (m / n) = zv false m / zv t n ∧ zv false (modZ m n) = zv false m % zv t n := by
  have h := Nat.div_add_mod m n
  have hlt := Nat.mod_lt m (Nat.pos_of_ne_zero hn)
  refine euc ?_ ?_ ?_
  · unfold modZ; rw [if_neg hn]
    have h2 : ((n * (m / n) + m % n : Nat) : Int) = m := by rw [h]
    rw [Int.natCast_add, Int.natCast_mul] at h2
    cases t
    · exact h2.symm
    · show (m : Int) = -(n : Int) * -(((m / n : Nat)) : Int) + (m % n : Nat)
      rw [Int.neg_mul_neg]; exact h2.symm
  · show (0 : Int) ≤ (modZ m n : Nat); exact Int.natCast_nonneg _
  · rw [zv_abs]; show ((modZ m n : Nat) : Int) < _
    unfold modZ; rw [if_neg hn]; omega
theorem dm2 (t : Bool) (m n : Nat) (hn : n ≠ 0) (h0 : modZ m n = 0) : zv (true != t) (m / n) = zv true m / zv t n ∧ zv false (modZ m n) = zv true m % zv t n := by
  have h := Nat.div_add_mod m n
  have h0' : m % n = 0 := by unfold modZ at h0; rw [if_neg hn] at h0; exact h0
  rw [h0]
  refine euc ?_ (by decide) (by rw [zv_abs]; show (0 : Int) < _; omega)
  have h2 : ((n * (m / n) + m % n : Nat) : Int) = m := by rw [h]
  rw [h0', Nat.add_zero, Int.natCast_mul] at h2
  cases t
  · show -(m : Int) = (n : Int) * -(((m / n : Nat)) : Int) + (0 : Nat)
    rw [Int.mul_neg, h2]; simp
  · show -(m : Int) = -(n : Int) * (((m / n : Nat)) : Int) + (0 : Nat)
    rw [Int.neg_mul, h2]; simp
theorem dm3 (t : Bool) (m n : Nat) (hn : n ≠ 0) (h0 : 0 < modZ m n) : zv (true != t) (m / n + 1) = zv true m / zv t n ∧ zv false (n - modZ m n) = zv true m % zv t n := by
  have h := Nat.div_add_mod m n
  have hlt := Nat.mod_lt m (Nat.pos_of_ne_zero hn)
  have e : modZ m n = m % n := by unfold modZ; rw [if_neg hn]
  rw [e] at h0 ⊢
  refine euc ?_ ?_ ?_
  · have h2 : ((n * (m / n) + m % n : Nat) : Int) = m := by rw [h]
    rw [Int.natCast_add, Int.natCast_mul] at h2
    have h3 : ((n - m % n : Nat) : Int) = (n : Int) - (m % n : Nat) := by omega
    generalize m / n = q at h2 ⊢
    generalize m % n = r at h2 h3 ⊢
    cases t
    · show -(m : Int) = (n : Int) * -((((q + 1) : Nat)) : Int) + ((n - r : Nat) : Int)
      rw [h3, Int.natCast_add, Int.mul_neg, Int.mul_add]; simp; omega
    · show -(m : Int) = -(n : Int) * ((((q + 1) : Nat)) : Int) + ((n - r : Nat) : Int)
      rw [h3, Int.natCast_add, Int.neg_mul, Int.mul_add]; simp; omega
  · show (0 : Int) ≤ ((n - m % n : Nat) : Int); exact Int.natCast_nonneg _
  · rw [zv_abs]; show ((n - m % n : Nat) : Int) < _
    omega
/-- The greatest common divisor of the first n. -/
def gcdN (c : Nat → Int) : Nat → Nat
  | 0 => 0
  | n + 1 => Nat.gcd (gcdN c n) (c n).natAbs
theorem gcdN_one {c : Nat → Int} {k n : Nat} (h : gcdN c k = 1) (hk : k ≤ n) : gcdN c n = 1 := by
  obtain ⟨d, rfl⟩ := Nat.exists_eq_add_of_le hk
  clear hk
  induction d with
  | zero => exact h
  | succ d ih => show Nat.gcd (gcdN c (k + d)) _ = 1; rw [ih, Nat.gcd_one_left]
theorem limbs1 {m : Nat} : (limbs m).length = 1 ∧ (limbs m).getD 0 0 = 1 ↔ m = 1 := by
  constructor
  · rintro ⟨h1, h2⟩
    have h3 := val_limbs m
    match h : limbs m, h1 with
    | [x], _ =>
      rw [h] at h2 h3
      simp at h2
      subst h2
      rw [← h3]; rfl
  · rintro rfl; exact ⟨rfl, rfl⟩

/-! ### A region that draws, order by order -/
section
variable {P : Program} {ops : Array Oper} {Q : Qs} {s : AS}
def AllI (p : Nat → Prop) : List Nat → Prop
  | [] => True
  | i :: l => p i ∧ AllI p l
theorem AllI.get {p : Nat → Prop} : ∀ {l : List Nat}, AllI p l → ∀ i ∈ l, p i
  | i :: l, h, k, hk => by
    rcases List.mem_cons.1 hk with rfl | hk
    · exact h.1
    · exact AllI.get h.2 k hk
def AnyA (P : Program) (ops : Array Oper) (Q : Qs) : Nat → Array Bool → AS → Prop
  | 0, listed, s => Region.ready .any ops listed = [] ∧ Q .normal s
  | n + 1, listed, s => (Region.ready .any ops listed = [] → Q .normal s) ∧ ∀ i ∈ Region.ready .any ops listed, ∃ o, ops[i]? = some o ∧ AL P ops (thn (AnyA P ops Q n (listed.setIfInBounds i true)) Q) [o] s
theorem anyS {n : Nat} {listed : Array Bool} (rs : List Nat) (hr : Region.ready .any ops listed = rs) (hne : rs.isEmpty = false) (h : AllI (fun i => ∃ o, ops[i]? = some o ∧ AL P ops (thn (AnyA P ops Q n (listed.setIfInBounds i true)) Q) [o] s) rs) : AnyA P ops Q (n + 1) listed s :=
  ⟨fun e => absurd (hr.symm.trans e) (fun e2 => by subst e2; exact Bool.noConfusion hne), hr ▸ h.get⟩
theorem anyN {n : Nat} {listed : Array Bool} (hr : Region.ready .any ops listed = []) (h : Q .normal s) : AnyA P ops Q n listed s := by
  cases n with
  | zero => exact ⟨hr, h⟩
  | succ n => exact ⟨fun _ => h, by rw [hr]; intro i hi; simp at hi⟩
theorem any_sound {B0 : BS} {w0 : World} : ∀ (n : Nat) (listed : Array Bool) (s : AS) (a : Act) (w : World), AnyA P ops Q n listed s → Den s B0 w0 a w → wpAny P .any ops (DQ Q B0 w0) n listed a w
  | 0, listed, s, a, w, h, hd => ⟨h.1, s, h.2, hd⟩
  | n + 1, listed, s, a, w, h, hd => by
    refine ⟨fun e => ⟨s, h.1 e, hd⟩, fun i hi => ?_⟩
    obtain ⟨o, ho, hal⟩ := h.2 i hi
    have h1 := hal B0 w0 a w hd
    unfold wpOp
    rw [ho]
    simp only [wpList] at h1 ⊢
    have hk : ∀ a w, DQ (thn (AnyA P ops Q n (listed.setIfInBounds i true)) Q) B0 w0 .normal a w → wpAny P .any ops (DQ Q B0 w0) n (listed.setIfInBounds i true) a w := fun a w ⟨s', h3, h4⟩ => any_sound n _ s' a w h3 h4
    split
    · rename_i hw
      rw [if_pos hw] at h1
      rcases h1 with h1 | ⟨h1, h2⟩
      · refine Or.inl ?_
        have h3 := Oper.wp_mono hk h1
        unfold Oper.wp at h3 ⊢
        generalize (execOp a.eval o).run P w = r at h3 ⊢
        cases r <;> first | exact h3 | (rename_i x w'; cases x <;> exact h3)
      · exact Or.inr ⟨h1, h2⟩
    · rename_i hw
      rw [if_neg hw] at h1
      exact hk _ _ h1
theorem cAny {id : Nat} {l : List Oper} (hm : P.follows .mixedOrders = true) (h : AnyA P l.toArray Q l.length (Array.replicate l.length false) s) : AW P (.region id l.toArray true) Q s := by
  intro B0 w0 a w hd
  refine wp_region_any hm ?_
  have hd' : Den s B0 w0 a { w with drawn := w.drawn + 1 } := by
    obtain ⟨ρ, hc, hn, hdf, hs⟩ := hd
    have hK : Keep (Bd ρ B0) w w.drew := ⟨Nat.le_refl _, fun _ _ _ => rfl⟩
    exact ⟨ρ, ⟨hc.bel.drew, hc.b0, fun id v hv => let ⟨ob, h1, h2⟩ := hc.obj id v hv; ⟨ob, h1, h2.mv hK (fun _ _ hB => hB) (fun _ _ => rfl)⟩, hc.dist⟩, hn, hdf, fun t av ht => let ⟨v, h1, h2⟩ := hs t av ht; ⟨v, h1, AR.mv hK (fun _ _ hB => hB) (fun _ _ => rfl) h2⟩⟩
  have := any_sound (P := P) (ops := l.toArray) (Q := Q) l.length _ s a _ h hd'
  rwa [show l.length = l.toArray.size from rfl] at this
end
end Go.Proofs.Ytkcagkcphobmfaa
