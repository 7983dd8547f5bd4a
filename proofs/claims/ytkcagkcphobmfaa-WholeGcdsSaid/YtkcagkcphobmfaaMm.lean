/-
  THE ABSTRACT MACHINE, 13: NUMBERS: rows of limbs and of digits as leaves; whole numbers as the program and as the plain reckoning have them. No condition; nothing of the program.
-/
import Derived.Test.YtkcagkcphobmfaaMl
set_option linter.unusedVariables false
set_option linter.unusedSimpArgs false
namespace Go.Proofs.Ytkcagkcphobmfaa
open Go.RowKit

/-- A whole number by its sign and size. -/
def zv (neg : Bool) (m : Nat) : Int := if neg then -(m : Int) else m
theorem zv_neg (neg : Bool) (m : Nat) : decide (zv neg m < 0) = (neg && decide (0 < m)) := by
  cases neg <;> simp [zv] <;> omega
theorem zv_abs (neg : Bool) (m : Nat) : (zv neg m).natAbs = m := by cases neg <;> simp [zv]
theorem zv_natAbs (z : Int) : zv (decide (z < 0)) z.natAbs = z := by
  unfold zv
  by_cases h : z < 0
  · rw [decide_eq_true h, if_pos rfl]; omega
  · rw [decide_eq_false h, if_neg (by simp)]; omega

/-- A row of integers, of at most K. -/
def rowSm (k : IntKind) (D K : Nat) (xs : List Nat) : Sm where
  p := fun B w v => ∃ a n c, v = .slice a n c ∧ Rw k D w a n c xs ∧ n ≤ K ∧ ∀ x, a = some x → xs ≠ [] → ¬ B x.block
  one := by rintro B w v ⟨a, n, c, rfl, _⟩; rfl
  mv := by
    rintro B B' w w' v ⟨a, n, c, rfl, ⟨h1, h2, h3, h4, h5⟩, h6, h7⟩ hk hB
    refine ⟨a, n, c, rfl, ⟨h1, h2, h3, h4, ?_⟩, h6, fun x hx hne hb => ?_⟩
    · rcases h5 with h5 | ⟨b, off, rfl, h5⟩
      · exact Or.inl h5
      · by_cases hne : xs = []
        · subst hne; exact Or.inl rfl
        · exact Or.inr ⟨b, off, rfl, fun j hj => hk.cell (h5 j hj) (show ¬ B b from h7 ⟨b, off, none⟩ rfl hne)⟩
    · subst hx
      have hlt : x.block < w.heap.size := by
        rcases h5 with h5 | ⟨b, off, he, h5⟩
        · exact absurd (List.map_eq_nil_iff.1 h5) hne
        · cases he
          have hl : 0 < (ints k xs).length := by rw [ints_length]; exact List.length_pos_iff.2 hne
          exact World.block_lt_of_cell? w _ (h5 0 hl)
      exact h7 x rfl hne (hB _ hlt hb)

/-- Limbs, of at most K; digits of four decimals. -/
def lr (K : Nat) (xs : List Nat) : Lf := .ln xs.length (rowSm .u32 B32 K xs)
def dr (K : Nat) (xs : List Nat) : Lf := .ln xs.length (rowSm .i64 B4 K xs)
/-- .. normal. -/
def ln (K m : Nat) : Lf := lr K (limbs m)
def dn (K m : Nat) : Lf := dr K (digs4 m)
/-- A whole number, normal; as the plain reckoning has it. -/
def zn (K : Nat) (z : Int) : List Lf := [.v (.bool (decide (z < 0))), ln K z.natAbs]
def rn (K : Nat) (z : Int) : List Lf := [dn K z.natAbs, .v (.bool (decide (z < 0)))]

/-- What stands there is this number (whatever its form; with noughts on top, perhaps). -/
def IsL (l : Lf) (K m : Nat) : Prop := ∃ xs, (∀ B w c, LfR B w l c → LfR B w (lr K xs) c) ∧ val xs = m
def IsZ (ls : List Lf) (K : Nat) (z : Int) : Prop := ∃ s xs, (∀ B w cs, LsR B w ls cs → LsR B w [.v (.bool s), lr K xs] cs) ∧ zv s (val xs) = z
def IsD (l : Lf) (K m : Nat) : Prop := ∀ B w c, LfR B w l c → LfR B w (dn K m) c
def IsR (ls : List Lf) (K : Nat) (z : Int) : Prop := ∀ B w cs, LsR B w ls cs → LsR B w (rn K z) cs

theorem isl (K m : Nat) : IsL (ln K m) K m := ⟨_, fun _ _ _ h => h, val_limbs m⟩
theorem isz (K : Nat) (z : Int) : IsZ (zn K z) K z := ⟨_, _, fun _ _ _ h => h, by rw [val_limbs]; exact zv_natAbs z⟩
theorem isd (K m : Nat) : IsD (dn K m) K m := fun _ _ _ h => h
theorem isr (K : Nat) (z : Int) : IsR (rn K z) K z := fun _ _ _ h => h
theorem iszr (K : Nat) (s : Bool) (xs : List Nat) : IsZ [.v (.bool s), lr K xs] K (zv s (val xs)) := ⟨_, _, fun _ _ _ h => h, rfl⟩
theorem iszl (K : Nat) (s : Bool) (m : Nat) : IsZ [.v (.bool s), ln K m] K (zv s m) := ⟨_, _, fun _ _ _ h => h, by rw [val_limbs]⟩
theorem islr (K : Nat) (s : Bool) (xs : List Nat) : IsL (lr K xs) K (zv s (val xs)).natAbs := ⟨_, fun _ _ _ h => h, (zv_abs _ _).symm⟩
theorem islv (K : Nat) (xs : List Nat) : IsL (lr K xs) K (val xs) := ⟨_, fun _ _ _ h => h, rfl⟩

theorem lr_R {B : BS} {w : World} {K : Nat} {xs : List Nat} {a : Option Addr} {n c : Nat} (h : Rw .u32 B32 w a n c xs) (hK : n ≤ K) (hB : ∀ x, a = some x → xs ≠ [] → ¬ B x.block) : LfR B w (lr K xs) (.slice a n c) :=
  ⟨⟨a, n, c, rfl, h, hK, hB⟩, a, c, by rw [h.len]⟩
theorem dr_R {B : BS} {w : World} {K : Nat} {xs : List Nat} {a : Option Addr} {n c : Nat} (h : Rw .i64 B4 w a n c xs) (hK : n ≤ K) (hB : ∀ x, a = some x → xs ≠ [] → ¬ B x.block) : LfR B w (dr K xs) (.slice a n c) :=
  ⟨⟨a, n, c, rfl, h, hK, hB⟩, a, c, by rw [h.len]⟩
theorem lr_of {B : BS} {w : World} {K : Nat} {xs : List Nat} {v : Value} (h : LfR B w (lr K xs) v) : ∃ a n c, v = .slice a n c ∧ Rw .u32 B32 w a n c xs ∧ n ≤ K ∧ ∀ x, a = some x → xs ≠ [] → ¬ B x.block := h.1
theorem dr_of {B : BS} {w : World} {K : Nat} {xs : List Nat} {v : Value} (h : LfR B w (dr K xs) v) : ∃ a n c, v = .slice a n c ∧ Rw .i64 B4 w a n c xs ∧ n ≤ K ∧ ∀ x, a = some x → xs ≠ [] → ¬ B x.block := h.1

/-- A row of the call's own keeps out of elder blocks. -/
theorem own_out {B : BS} {w w' : World} {k : IntKind} {D n c : Nat} {a : Option Addr} {xs : List Nat} (hB : ∀ b, B b → b < w.heap.size) (ho : Own w.heap.size w' a c) (hr : Rw k D w' a n c xs) : ∀ x, a = some x → xs ≠ [] → ¬ B x.block := by
  rintro x rfl hne hb
  have h1 := hB _ hb
  rcases ho with h0 | ⟨b, off, cs, e, he, hge, _⟩
  · have h2 := hr.le
    have h3 := hr.len
    have : xs = [] := List.eq_nil_of_length_eq_zero (by omega)
    exact hne this
  · cases he
    simp at h1
    omega

theorem lr_mono {K L : Nat} {xs : List Nat} (h : K ≤ L) : ∀ B w v, LfR B w (lr K xs) v → LfR B w (lr L xs) v := by
  rintro B w v ⟨⟨a, n, c, h1, h2, h3, h4⟩, h5⟩
  exact ⟨⟨a, n, c, h1, h2, Nat.le_trans h3 h, h4⟩, h5⟩
theorem dr_mono {K L : Nat} {xs : List Nat} (h : K ≤ L) : ∀ B w v, LfR B w (dr K xs) v → LfR B w (dr L xs) v := by
  rintro B w v ⟨⟨a, n, c, h1, h2, h3, h4⟩, h5⟩
  exact ⟨⟨a, n, c, h1, h2, Nat.le_trans h3 h, h4⟩, h5⟩
theorem zn_mono {K L : Nat} {z : Int} (h : K ≤ L) : ∀ B w cs, LsR B w (zn K z) cs → LsR B w (zn L z) cs
  | B, w, [a, b], ⟨h1, h2, h3⟩ => ⟨h1, lr_mono h _ _ _ h2, h3⟩
theorem rn_mono {K L : Nat} {z : Int} (h : K ≤ L) : ∀ B w cs, LsR B w (rn K z) cs → LsR B w (rn L z) cs
  | B, w, [a, b], ⟨h1, h2, h3⟩ => ⟨dr_mono h _ _ _ h1, h2, h3⟩
theorem le_agg {ls ms : List Lf} (h : ∀ B w cs, LsR B w ls cs → LsR B w ms cs) : AV.le (.d (.agg ls)) (.d (.agg ms)) := fun ρ B w v ⟨cs, e, hl⟩ => ⟨cs, e, h _ _ _ hl⟩
theorem le_one {l m : Lf} (h : ∀ B w c, LfR B w l c → LfR B w m c) : AV.le (.d (.one l)) (.d (.one m)) := fun ρ B w v hl => h _ _ _ hl
theorem le_zn {K L : Nat} {z y : Int} (h : K ≤ L) (e : z = y) : AV.le (.d (.agg (zn K z))) (.d (.agg (zn L y))) := by subst e; exact le_agg (zn_mono h)
theorem le_rn {K L : Nat} {z y : Int} (h : K ≤ L) (e : z = y) : AV.le (.d (.agg (rn K z))) (.d (.agg (rn L y))) := by subst e; exact le_agg (rn_mono h)
theorem le_int {k : IntKind} {z y : Int} (e : z = y) : AV.le (.d (.one (.v (.int k z)))) (.d (.one (.v (.int k y)))) := by subst e; exact AV.le.rfl
theorem le_bool {b c : Bool} (e : b = c) : AV.le (.d (.one (.v (.bool b)))) (.d (.one (.v (.bool c)))) := by subst e; exact AV.le.rfl
theorem leo_box {t : TypeId} {ls ms : List Lf} (h : ∀ B w cs, LsR B w ls cs → LsR B w ms cs) : AO.le (.box t ls) (.box t ms) := fun B w0 w v ⟨g, vs, h1, h2, h3, h4⟩ => ⟨g, vs, h1, h2, h3, h _ _ _ h4⟩
theorem leo_zn {t : TypeId} {K L : Nat} {z y : Int} (h : K ≤ L) (e : z = y) : AO.le (.box t (zn K z)) (.box t (zn L y)) := by subst e; exact leo_box (zn_mono h)
theorem leo_rn {t : TypeId} {K L : Nat} {z y : Int} (h : K ≤ L) (e : z = y) : AO.le (.box t (rn K z)) (.box t (rn L y)) := by subst e; exact leo_box (rn_mono h)
theorem hs' {sl : List (Nat × AV)} {t : Nat} {a b : AV} (h : lk sl t = some a) (k : AV.le a b) : Has sl (t, b) := ⟨a, h, k⟩
theorem ho' {hp : List (Nat × AO)} {t : Nat} {a b : AO} (h : lk hp t = some a) (k : AO.le a b) : HasO hp (t, b) := ⟨a, h, k⟩

/-- A limb row's cells one by one. -/
theorem le_lrow (K : Nat) (xs : List Nat) : AV.le (.d (.one (lr K xs))) (.d (.one (.row 1 xs.length fun i _ => .v (.int .u32 ((xs.getD i 0 : Nat) : Int))))) := by
  refine le_one fun B w v h => ?_
  obtain ⟨a, n, c, rfl, hr, hn, hb⟩ := lr_of h
  obtain rfl := hr.len
  refine ⟨a, c, rfl, hr.le, hr.2.2.1, fun i hi => ?_⟩
  obtain ⟨b, off, x, rfl, hx, hxB, hc⟩ := hr.at hi
  have hne : xs ≠ [] := fun e => by subst e; simp at hi
  refine ⟨b, off, rfl, hb _ rfl hne, World.block_lt_of_cell? w _ hc, fun j hj => ?_⟩
  have : j = 0 := by omega
  subst this
  refine ⟨_, by rw [Nat.mul_one, Nat.add_zero]; exact hc, ?_, rfl⟩
  obtain ⟨hl, rfl⟩ := List.getElem?_eq_some_iff.1 hx
  simp [hl]
theorem le_drow (K : Nat) (xs : List Nat) : AV.le (.d (.one (dr K xs))) (.d (.one (.row 1 xs.length fun i _ => .v (.int .i64 ((xs.getD i 0 : Nat) : Int))))) := by
  refine le_one fun B w v h => ?_
  obtain ⟨a, n, c, rfl, hr, hn, hb⟩ := dr_of h
  obtain rfl := hr.len
  refine ⟨a, c, rfl, hr.le, hr.2.2.1, fun i hi => ?_⟩
  obtain ⟨b, off, x, rfl, hx, hxB, hc⟩ := hr.at hi
  have hne : xs ≠ [] := fun e => by subst e; simp at hi
  refine ⟨b, off, rfl, hb _ rfl hne, World.block_lt_of_cell? w _ hc, fun j hj => ?_⟩
  have : j = 0 := by omega
  subst this
  refine ⟨_, by rw [Nat.mul_one, Nat.add_zero]; exact hc, ?_, rfl⟩
  obtain ⟨hl, rfl⟩ := List.getElem?_eq_some_iff.1 hx
  simp [hl]

/-- No row at all is a row. -/
theorem nil_lr (K : Nat) : AV.le (.d (.one (.v (.slice none 0 0)))) (.d (.one (ln K 0))) := by
  refine le_one ?_
  rintro B w v ⟨rfl, _⟩
  exact lr_R (Rw.nil _ _ _) (Nat.zero_le _) (fun x h => by cases h)
theorem nil_dr (K : Nat) : AV.le (.d (.one (.v (.slice none 0 0)))) (.d (.one (dn K 0))) := by
  refine le_one ?_
  rintro B w v ⟨rfl, _⟩
  exact dr_R (Rw.nil _ _ _) (Nat.zero_le _) (fun x h => by cases h)
theorem nil_ls {B : BS} {w : World} : ∀ {cs : List Value}, LsR B w [.v (.bool false), .v (.slice none 0 0)] cs → LsR B w (zn 0 0) cs
  | [a, b], h => by
    obtain ⟨h1, ⟨h2, _⟩, h3⟩ := h
    subst h2
    exact ⟨h1, lr_R (Rw.nil _ _ _) (Nat.zero_le _) (fun x h => by cases h), h3⟩
theorem nil_rs {B : BS} {w : World} : ∀ {cs : List Value}, LsR B w [.v (.slice none 0 0), .v (.bool false)] cs → LsR B w (rn 0 0) cs
  | [a, b], h => by
    obtain ⟨⟨h1, _⟩, h2, h3⟩ := h
    subst h1
    exact ⟨dr_R (Rw.nil _ _ _) (Nat.zero_le _) (fun x h => by cases h), h2, h3⟩

theorem IsL.eq {l : Lf} {K m n : Nat} (h : IsL l K m) (e : m = n) : IsL l K n := e ▸ h
theorem IsZ.eq {l : List Lf} {K : Nat} {m n : Int} (h : IsZ l K m) (e : m = n) : IsZ l K n := e ▸ h
theorem IsR.eq {l : List Lf} {K : Nat} {m n : Int} (h : IsR l K m) (e : m = n) : IsR l K n := e ▸ h
theorem IsD.eq {l : Lf} {K m n : Nat} (h : IsD l K m) (e : m = n) : IsD l K n := e ▸ h
theorem IsL.mono {l : Lf} {K L m : Nat} (h : IsL l K m) (hk : K ≤ L) : IsL l L m := let ⟨xs, h1, h2⟩ := h; ⟨xs, fun B w c hc => lr_mono hk _ _ _ (h1 B w c hc), h2⟩
theorem IsD.mono {l : Lf} {K L m : Nat} (h : IsD l K m) (hk : K ≤ L) : IsD l L m := fun B w c hc => dr_mono hk _ _ _ (h B w c hc)
theorem IsZ.mono {ls : List Lf} {K L : Nat} {z : Int} (h : IsZ ls K z) (hk : K ≤ L) : IsZ ls L z := by
  obtain ⟨s, xs, h1, h2⟩ := h
  refine ⟨s, xs, fun B w cs hc => ?_, h2⟩
  have := h1 B w cs hc
  match cs, this with
  | [_, _], ⟨q1, q2, q3⟩ => exact ⟨q1, lr_mono hk _ _ _ q2, q3⟩
theorem IsR.mono {ls : List Lf} {K L : Nat} {z : Int} (h : IsR ls K z) (hk : K ≤ L) : IsR ls L z := fun B w cs hc => rn_mono hk _ _ _ (h B w cs hc)
theorem isz_nil : IsZ [.v (.bool false), .v (.slice none 0 0)] 0 0 := let ⟨s, xs, h1, h2⟩ := isz 0 0; ⟨s, xs, fun B w cs h => h1 B w cs (nil_ls h), h2⟩
theorem isr_nil : IsR [.v (.slice none 0 0), .v (.bool false)] 0 0 := fun B w cs h => nil_rs h
theorem isl_nil : IsL (.v (.slice none 0 0)) 0 0 := by
  refine ⟨[], ?_, rfl⟩
  rintro B w c ⟨rfl, _⟩
  exact lr_R (Rw.nil _ _ _) (Nat.zero_le _) (fun x h => by cases h)
theorem isd_nil : IsD (.v (.slice none 0 0)) 0 0 := by
  rintro B w c ⟨rfl, _⟩
  exact dr_R (Rw.nil _ _ _) (Nat.zero_le _) (fun x h => by cases h)

/-- Cells one by one are a limb row. -/
theorem isl_row {n : Nat} {el : Nat → Nat → Lf} {xs : List Nat} (hn : xs.length = n) (hx : ∀ x ∈ xs, x < B32) (he : ∀ i, i < n → el i 0 = .v (.int .u32 ((xs.getD i 0 : Nat) : Int))) : IsL (.row 1 n el) n (val xs) := by
  refine ⟨xs, ?_, rfl⟩
  rintro B w c ⟨a, cap, rfl, h1, h2, h3⟩
  subst hn
  refine lr_R ⟨rfl, h1, h2, hx, ?_⟩ (Nat.le_refl _) (fun x hx' hne hb => ?_)
  · rcases Nat.eq_zero_or_pos xs.length with h0 | h0
    · have : xs = [] := List.eq_nil_of_length_eq_zero h0
      subst this; exact Or.inl rfl
    · obtain ⟨b, off, rfl, _, _, _⟩ := h3 0 h0
      refine Or.inr ⟨b, off, rfl, fun j hj => ?_⟩
      have hj' : j < xs.length := by simpa [ints] using hj
      obtain ⟨b', off', he', _, _, h4⟩ := h3 j hj'
      cases he'
      obtain ⟨x, hx1, hx2⟩ := h4 0 (by omega)
      rw [he j hj'] at hx2
      obtain ⟨rfl, _⟩ := hx2
      rw [Nat.mul_one, Nat.add_zero] at hx1
      rw [hx1, ints_get]
      simp [hj']
  · obtain ⟨b, off, he', hb', _, _⟩ := h3 0 (List.length_pos_iff.2 hne)
    rw [he'] at hx'
    cases hx'
    exact hb' hb

/-! ### Functions: less is asked, less is said -/
def DsLe : List DV → List DV → Prop
  | [], [] => True
  | a :: as, b :: bs => (∀ B w v, DR B w a v → DR B w b v) ∧ DsLe as bs
  | _, _ => False
theorem dl0 : DsLe [] [] := trivial
theorem dl {a b : DV} {as bs : List DV} (h : ∀ B w v, DR B w a v → DR B w b v) (k : DsLe as bs) : DsLe (a :: as) (b :: bs) := ⟨h, k⟩
theorem DsLe.ok {B : BS} {w : World} : ∀ {as bs : List DV} {vs : List Value}, DsLe as bs → DsR B w as vs → DsR B w bs vs
  | [], [], [], _, h => h
  | a :: as, b :: bs, v :: vs, h, k => ⟨h.1 _ _ _ k.1, DsLe.ok h.2 k.2⟩
theorem ACall.le {P : Program} {f : FuncId} {as bs : List DV} {r r' : AV} (h : DsLe as bs) (hr : AV.le r r') (k : ACall P f bs r) : ACall P f as r' :=
  ⟨k.en, fun B w vs hB hvs => (k.go B w vs hB (h.ok hvs)).mono fun e w' ⟨v, he, hb, hv⟩ => ⟨v, he, hb, hr _ _ _ _ hv⟩⟩
theorem DV.same {a : DV} : ∀ B w v, DR B w a v → DR B w a v := fun _ _ _ h => h
theorem DV.z {a : List Lf} {s : Bool} {K : Nat} {xs : List Nat} (h : ∀ B w cs, LsR B w a cs → LsR B w [.v (.bool s), lr K xs] cs) : ∀ B w v, DR B w (.agg a) v → DR B w (.agg [.v (.bool s), lr K xs]) v := fun B w v ⟨cs, e, hl⟩ => ⟨cs, e, h _ _ _ hl⟩
theorem DV.l {a b : Lf} (h : ∀ B w c, LfR B w a c → LfR B w b c) : ∀ B w v, DR B w (.one a) v → DR B w (.one b) v := fun B w v hl => h _ _ _ hl
theorem DV.g {a b : List Lf} (h : ∀ B w c, LsR B w a c → LsR B w b c) : ∀ B w v, DR B w (.agg a) v → DR B w (.agg b) v := fun B w v ⟨cs, e, hl⟩ => ⟨cs, e, h _ _ _ hl⟩

/-! ### Contracts out of the walks -/

theorem enters {P : Program} {f : FuncId} {fn : Func} (hf : P.funcs[f]? = some fn) (hb : fn.body.isSome = true) (hnm : (fn.name == "runtime.NumGoroutine") = false) : ∀ vs w, (callFunc f vs).run P w = .ok (.enter f vs) w := by
  intro vs w
  have hnm' : ¬ fn.name = "runtime.NumGoroutine" := by simpa using hnm
  obtain ⟨c, hc⟩ := Option.isSome_iff_exists.1 hb
  simp [callFunc, hf, hc, hnm']

theorem limbs_K {w : World} {k c N K : Nat} {a : Option Addr} (h : Rw .u32 B32 w a k c (limbs N)) (hN : N < B32 ^ K) : k ≤ K := by
  have := limbs_le hN
  rwa [h.len] at this
theorem digs_K {w : World} {k c N K : Nat} {a : Option Addr} (h : Rw .i64 B4 w a k c (digs4 N)) (hN : N < B4 ^ K) : k ≤ K := by
  have := digs4_le hN
  rwa [h.len] at this
theorem lr_lt {w : World} {a : Option Addr} {n c K : Nat} {xs : List Nat} (hr : Rw .u32 B32 w a n c xs) (h : n ≤ K) : val xs < B32 ^ K :=
  Nat.lt_of_lt_of_le (val_lt hr.lt) (Nat.pow_le_pow_right (by decide) (by rw [hr.len]; exact h))
theorem dn_lt {w : World} {a : Option Addr} {n c K m : Nat} (hr : Rw .i64 B4 w a n c (digs4 m)) (h : n ≤ K) : m < B4 ^ K := by
  have h3 := val4_lt (digs4_lt m)
  rw [val4_digs4, hr.len] at h3
  exact Nat.lt_of_lt_of_le h3 (Nat.pow_le_pow_right (by decide) h)
theorem max_add_lt {B a b K L : Nat} (hB : 2 ≤ B) (ha : a < B ^ K) (hb : b < B ^ L) : a + b < B ^ (max K L + 1) := by
  have h1 : B ^ K ≤ B ^ (max K L) := Nat.pow_le_pow_right (by omega) (by omega)
  have h2 : B ^ L ≤ B ^ (max K L) := Nat.pow_le_pow_right (by omega) (by omega)
  have h3 : B ^ (max K L + 1) = B ^ (max K L) * B := Nat.pow_succ _ _
  have h4 : B ^ (max K L) * 2 ≤ B ^ (max K L) * B := Nat.mul_le_mul_left _ hB
  omega
theorem mul_lt_pow {B a b K L : Nat} (ha : a < B ^ K) (hb : b < B ^ L) : a * b < B ^ (K + L) := by
  rw [Nat.pow_add]
  have : a * b ≤ a * B ^ L := Nat.mul_le_mul_left _ (Nat.le_of_lt hb)
  have h0 : 0 < B ^ L := by omega
  exact Nat.lt_of_le_of_lt this (Nat.mul_lt_mul_of_pos_right ha h0)

end Go.Proofs.Ytkcagkcphobmfaa
