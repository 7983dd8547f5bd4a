/-
  THE ABSTRACT MACHINE, 1: what is said of values in memory (leaves), of a frame's own objects, of a frame's slots; how it stays while memory is made or an object of the frame's own is written. No condition; nothing of the program.
-/
import Derived.Test.YtkcagkcphobmfaaMem
import Derived.Deep.MidRow
set_option linter.unusedVariables false
set_option linter.unusedSimpArgs false
namespace Go.Proofs.Ytkcagkcphobmfaa
open Go.RowKit

/-- Blocks that are kept out of. -/
abbrev BS := Nat → Prop

/-- The world w' holds what of w lies outside B. -/
structure Keep (B : BS) (w w' : World) : Prop where
  size : w.heap.size ≤ w'.heap.size
  blk : ∀ b, b < w.heap.size → ¬ B b → w'.heap[b]? = w.heap[b]?

theorem Keep.cell {B : BS} {w w' : World} (h : Keep B w w') {a : Addr} {v : Value} (hc : w.cell? a = some v) (hb : ¬ B a.block) : w'.cell? a = some v :=
  (World.cell?_of_block (h.blk a.block (World.block_lt_of_cell? w a hc) hb)).trans hc
theorem Keep.of_below {B : BS} {w w' : World} (h : Below w.heap.size w w') : Keep B w w' := ⟨h.size, fun b hb _ => h.block b hb⟩

/-- Something that may be said of a value in memory; it stays where memory stays. -/
structure Sm where
  p : BS → World → Value → Prop
  one : ∀ B w v, p B w v → v.oneCell' = true
  mv : ∀ (B B' : BS) (w w' : World) (v : Value), p B w v → Keep B w w' → (∀ b, b < w.heap.size → B' b → B b) → p B' w' v

/-- ONE CELL: this value; of which S says something; a slice of length n of which S says more; a slice of n elements of sz cells; a pointer to n cells that nobody writes; a function with what it has caught. -/
inductive Lf where
  | v (x : Value)
  | sm (S : Sm)
  | ln (n : Nat) (S : Sm)
  | row (sz n : Nat) (el : Nat → Nat → Lf)
  | at (n : Nat) (cs : Nat → Lf)
  | fn (f : FuncId) (n : Nat) (caps : Nat → Lf)

def LfR (B : BS) (w : World) : Lf → Value → Prop
  | .v x, c => c = x ∧ x.oneCell' = true
  | .sm S, c => S.p B w c
  | .ln n S, c => S.p B w c ∧ ∃ a cap, c = .slice a n cap
  | .row sz n el, c => ∃ a cap, c = .slice a n cap ∧ n ≤ cap ∧ (a = none → cap = 0) ∧ ∀ i, i < n → ∃ b off, a = some ⟨b, off, none⟩ ∧ ¬ B b ∧ b < w.heap.size ∧ ∀ j, j < sz → ∃ x, w.cell? ⟨b, off + i * sz + j, none⟩ = some x ∧ LfR B w (el i j) x
  | .at n cs, c => ∃ b off, c = .pointer (some ⟨b, off, none⟩) ∧ ¬ B b ∧ b < w.heap.size ∧ ∀ j, j < n → ∃ x, w.cell? ⟨b, off + j, none⟩ = some x ∧ LfR B w (cs j) x
  | .fn f n caps, c => ∃ vs : Array Value, c = .func (.func f) #[] vs ∧ vs.size = n ∧ ∀ j, j < n → ∃ x, vs[j]? = some x ∧ LfR B w (caps j) x

theorem LfR.one {B : BS} {w : World} : ∀ {l : Lf} {c : Value}, LfR B w l c → c.oneCell' = true
  | .v x, c, h => by obtain ⟨rfl, h⟩ := h; exact h
  | .sm S, c, h => S.one _ _ _ h
  | .ln n S, c, h => S.one _ _ _ h.1
  | .row sz n el, c, h => by obtain ⟨a, cap, rfl, _⟩ := h; rfl
  | .at n cs, c, h => by obtain ⟨b, off, rfl, _⟩ := h; rfl
  | .fn f n caps, c, h => by obtain ⟨vs, rfl, _⟩ := h; rfl

theorem LfR.mv {B B' : BS} {w w' : World} (hk : Keep B w w') (hB : ∀ b, b < w.heap.size → B' b → B b) (l : Lf) : ∀ {c : Value}, LfR B w l c → LfR B' w' l c := by
  induction l with
  | v x => intro c h; exact h
  | sm S => intro c h; exact S.mv _ _ _ _ _ h hk hB
  | ln n S => intro c h; exact ⟨S.mv _ _ _ _ _ h.1 hk hB, h.2⟩
  | row sz n el ih =>
    rintro c ⟨a, cap, rfl, hn, ha, h⟩
    refine ⟨a, cap, rfl, hn, ha, fun i hi => ?_⟩
    obtain ⟨b, off, rfl, hb, hlt, hj⟩ := h i hi
    refine ⟨b, off, rfl, fun hb' => hb (hB b hlt hb'), Nat.lt_of_lt_of_le hlt hk.size, fun j hjs => ?_⟩
    obtain ⟨x, hx, hl⟩ := hj j hjs
    exact ⟨x, hk.cell hx hb, ih i j hl⟩
  | «at» n cs ih =>
    rintro c ⟨b, off, rfl, hb, hlt, hj⟩
    refine ⟨b, off, rfl, fun hb' => hb (hB b hlt hb'), Nat.lt_of_lt_of_le hlt hk.size, fun j hjs => ?_⟩
    obtain ⟨x, hx, hl⟩ := hj j hjs
    exact ⟨x, hk.cell hx hb, ih j hl⟩
  | fn f n caps ih =>
    rintro c ⟨vs, rfl, hs, hj⟩
    refine ⟨vs, rfl, hs, fun j hjs => ?_⟩
    obtain ⟨x, hx, hl⟩ := hj j hjs
    exact ⟨x, hx, ih j hl⟩

/-- A ROW OF CELLS. -/
def LsR (B : BS) (w : World) : List Lf → List Value → Prop
  | [], [] => True
  | l :: ls, c :: cs => LfR B w l c ∧ LsR B w ls cs
  | _, _ => False

theorem LsR.len {B : BS} {w : World} : ∀ {ls : List Lf} {cs : List Value}, LsR B w ls cs → ls.length = cs.length
  | [], [], _ => rfl
  | _ :: _, _ :: _, h => congrArg (· + 1) (LsR.len h.2)
theorem LsR.get {B : BS} {w : World} : ∀ {ls : List Lf} {cs : List Value}, LsR B w ls cs → ∀ {j : Nat} {l : Lf}, ls[j]? = some l → ∃ c, cs[j]? = some c ∧ LfR B w l c
  | [], [], _, j, l, h => by simp at h
  | l :: ls, c :: cs, h, 0, l', h' => by
    obtain rfl : l = l' := by simpa using h'
    exact ⟨c, rfl, h.1⟩
  | l :: ls, c :: cs, h, j + 1, l', h' => by
    obtain ⟨x, hx, hl⟩ := LsR.get h.2 (j := j) (l := l') (by simpa using h')
    exact ⟨x, by simpa using hx, hl⟩
theorem LsR.mk {B : BS} {w : World} : ∀ {ls : List Lf} {cs : List Value}, ls.length = cs.length → (∀ (j : Nat) (l : Lf) (c : Value), ls[j]? = some l → cs[j]? = some c → LfR B w l c) → LsR B w ls cs
  | [], [], _, _ => trivial
  | [], _ :: _, h, _ => by simp at h
  | _ :: _, [], h, _ => by simp at h
  | l :: ls, c :: cs, h, hj => ⟨hj 0 l c rfl rfl, LsR.mk (by simpa using h) fun j l' c' h1 h2 => hj (j + 1) l' c' (by simpa using h1) (by simpa using h2)⟩
theorem LsR.mv {B B' : BS} {w w' : World} (hk : Keep B w w') (hB : ∀ b, b < w.heap.size → B' b → B b) : ∀ {ls : List Lf} {cs : List Value}, LsR B w ls cs → LsR B' w' ls cs
  | [], [], _ => trivial
  | _ :: _, _ :: _, h => ⟨LfR.mv hk hB _ h.1, LsR.mv hk hB h.2⟩
theorem LsR.one {B : BS} {w : World} : ∀ {ls : List Lf} {cs : List Value}, LsR B w ls cs → ∀ c ∈ cs, c.oneCell' = true
  | [], [], _, c, hc => by simp at hc
  | _ :: _, _ :: _, h, c, hc => by
    rcases List.mem_cons.1 hc with rfl | hc
    · exact h.1.one
    · exact LsR.one h.2 c hc
theorem LsR.take {B : BS} {w : World} : ∀ (n : Nat) {ls : List Lf} {cs : List Value}, LsR B w ls cs → LsR B w (ls.take n) (cs.take n)
  | 0, _, _, _ => trivial
  | n + 1, [], [], _ => trivial
  | n + 1, _ :: _, _ :: _, h => ⟨h.1, LsR.take n h.2⟩
theorem LsR.drop {B : BS} {w : World} : ∀ (n : Nat) {ls : List Lf} {cs : List Value}, LsR B w ls cs → LsR B w (ls.drop n) (cs.drop n)
  | 0, _, _, h => h
  | n + 1, [], [], _ => trivial
  | n + 1, _ :: _, _ :: _, h => LsR.drop n h.2
theorem LsR.app {B : BS} {w : World} : ∀ {ls ms : List Lf} {cs ds : List Value}, LsR B w ls cs → LsR B w ms ds → LsR B w (ls ++ ms) (cs ++ ds)
  | [], _, [], _, _, k => k
  | _ :: _, _, _ :: _, _, h, k => ⟨h.1, LsR.app h.2 k⟩
theorem LsR.vs {B : BS} {w : World} : ∀ {cs : List Value}, (∀ c ∈ cs, c.oneCell' = true) → LsR B w (cs.map Lf.v) cs
  | [], _ => trivial
  | c :: cs, h => ⟨⟨rfl, h c (by simp)⟩, LsR.vs fun d hd => h d (by simp [hd])⟩

/-- DATA: one cell, or a struct's cells. -/
inductive DV where
  | one (l : Lf)
  | agg (ls : List Lf)

def DV.cells : DV → List Lf
  | .one l => [l]
  | .agg ls => ls

def DR (B : BS) (w : World) : DV → Value → Prop
  | .one l, c => LfR B w l c
  | .agg ls, c => ∃ cs : List Value, c = .agg cs.toArray ∧ LsR B w ls cs

theorem DR.mv {B B' : BS} {w w' : World} (hk : Keep B w w') (hB : ∀ b, b < w.heap.size → B' b → B b) : ∀ {d : DV} {c : Value}, DR B w d c → DR B' w' d c
  | .one l, _, h => LfR.mv hk hB l h
  | .agg _, _, ⟨cs, e, h⟩ => ⟨cs, e, h.mv hk hB⟩

/-- The cells of a value that is data. -/
theorem DR.cells {B : BS} {w : World} : ∀ {d : DV} {c : Value}, DR B w d c → ∃ cs : List Value, c.cells = cs.toArray ∧ LsR B w d.cells cs
  | .one l, c, h => ⟨[c], by
      have := h.one
      cases c <;> first | rfl | exact absurd this Bool.noConfusion, h, trivial⟩
  | .agg ls, c, ⟨cs, e, h⟩ => ⟨cs, by rw [e]; rfl, h⟩

def DsR (B : BS) (w : World) : List DV → List Value → Prop
  | [], [] => True
  | l :: ls, c :: cs => DR B w l c ∧ DsR B w ls cs
  | _, _ => False

theorem DsR.len {B : BS} {w : World} : ∀ {ls : List DV} {cs : List Value}, DsR B w ls cs → ls.length = cs.length
  | [], [], _ => rfl
  | _ :: _, _ :: _, h => congrArg (· + 1) (DsR.len h.2)
theorem DsR.get {B : BS} {w : World} : ∀ {ls : List DV} {cs : List Value}, DsR B w ls cs → ∀ {j : Nat} {l : DV}, ls[j]? = some l → ∃ c, cs[j]? = some c ∧ DR B w l c
  | [], [], _, j, l, h => by simp at h
  | l :: ls, c :: cs, h, 0, l', h' => by
    obtain rfl : l = l' := by simpa using h'
    exact ⟨c, rfl, h.1⟩
  | l :: ls, c :: cs, h, j + 1, l', h' => by
    obtain ⟨x, hx, hl⟩ := DsR.get h.2 (j := j) (l := l') (by simpa using h')
    exact ⟨x, by simpa using hx, hl⟩
theorem DsR.mv {B B' : BS} {w w' : World} (hk : Keep B w w') (hB : ∀ b, b < w.heap.size → B' b → B b) : ∀ {ls : List DV} {cs : List Value}, DsR B w ls cs → DsR B' w' ls cs
  | [], [], _ => trivial
  | _ :: _, _ :: _, h => ⟨h.1.mv hk hB, DsR.mv hk hB h.2⟩

/-- WHAT A SLOT HOLDS: data, several results, a pointer into the frame's own object id, the frame's own row id, a pointer to cell j of element i of that row. -/
inductive AV where
  | d (x : DV)
  | tup (xs : List DV)
  | ptr (id off : Nat)
  | own (id : Nat)
  | eptr (id sz i j : Nat)
  | dead

abbrev Rho := Nat → Option Value

def AR (ρ : Rho) (B : BS) (w : World) : AV → Value → Prop
  | .d x, c => DR B w x c
  | .tup xs, c => ∃ cs : List Value, c = .tuple cs.toArray ∧ DsR B w xs cs
  | .ptr id off, c => ∃ g, ρ id = some (.pointer (some ⟨g, 0, none⟩)) ∧ c = .pointer (some ⟨g, off, none⟩)
  | .own id, c => ρ id = some c ∧ ∃ a n cap, c = .slice a n cap
  | .eptr id sz i j, c => ∃ g n cap, ρ id = some (.slice (some ⟨g, 0, none⟩) n cap) ∧ i < n ∧ c = .pointer (some ⟨g, i * sz + j, none⟩)
  | .dead, _ => True

/-- Does it speak of the object k? -/
def AV.on : AV → Nat → Bool
  | .ptr id _, k | .own id, k | .eptr id _ _ _, k => Nat.beq id k
  | _, _ => false

theorem AR.mv {ρ ρ' : Rho} {B B' : BS} {w w' : World} (hk : Keep B w w') (hB : ∀ b, b < w.heap.size → B' b → B b) : ∀ {av : AV} {c : Value}, (∀ k, av.on k = true → ρ' k = ρ k) → AR ρ B w av c → AR ρ' B' w' av c
  | .d x, _, _, h => DR.mv hk hB h
  | .tup xs, _, _, ⟨cs, e, h⟩ => ⟨cs, e, h.mv hk hB⟩
  | .ptr id off, _, hρ, ⟨g, h, e⟩ => ⟨g, (hρ id (by simp [AV.on])).trans h, e⟩
  | .own id, _, hρ, ⟨h, e⟩ => ⟨(hρ id (by simp [AV.on])).trans h, e⟩
  | .eptr id sz i j, _, hρ, ⟨g, n, cap, h, e⟩ => ⟨g, n, cap, (hρ id (by simp [AV.on])).trans h, e⟩
  | .dead, _, _, _ => trivial

/-- AN OBJECT OF THE FRAME's OWN: a variable of type t; a row of n elements of type e, sz cells each. -/
inductive AO where
  | box (t : TypeId) (cs : List Lf)
  | row (e : TypeId) (sz n : Nat) (el : Nat → Nat → Lf)

def vblk : Value → Option Nat
  | .pointer (some a) => some a.block
  | .slice (some a) _ _ => some a.block
  | _ => none

def OR (B : BS) (w0 w : World) : AO → Value → Prop
  | .box t cs, v => ∃ g vs, v = .pointer (some ⟨g, 0, none⟩) ∧ w0.heap.size ≤ g ∧ Blk w g t vs ∧ LsR B w cs vs
  | .row e sz n el, v => ∃ xs, w.ownsRow w0.heap.size e sz v n xs ∧ ∀ i j, i < n → j < sz → ∃ x, xs[i * sz + j]? = some x ∧ LfR B w (el i j) x

theorem ownsRow_mv {w w' : World} {base : Nat} {e : TypeId} {sz n : Nat} {v : Value} {xs : List Value} (h : w.ownsRow base e sz v n xs) (hb : ∀ b, vblk v = some b → w'.heap[b]? = w.heap[b]?) : w'.ownsRow base e sz v n xs := by
  obtain ⟨h1, h2 | ⟨g, cap, cur, rfl, h3, h4, h5⟩⟩ := h
  · exact ⟨h1, Or.inl h2⟩
  · exact ⟨h1, Or.inr ⟨g, cap, cur, rfl, h3, (hb g rfl).trans h4, h5⟩⟩

theorem OR.mv {B B' : BS} {w0 w w' : World} (hk : Keep B w w') (hB : ∀ b, b < w.heap.size → B' b → B b) : ∀ {ob : AO} {v : Value}, (∀ b, vblk v = some b → w'.heap[b]? = w.heap[b]?) → OR B w0 w ob v → OR B' w0 w' ob v
  | .box t cs, _, hb, ⟨g, vs, e, h1, h2, h3⟩ => ⟨g, vs, e, h1, by subst e; exact (hb g rfl).trans h2, h3.mv hk hB⟩
  | .row e sz n el, _, hb, ⟨xs, h1, h2⟩ => ⟨xs, ownsRow_mv h1 hb, fun i j hi hj => let ⟨x, hx, hl⟩ := h2 i j hi hj; ⟨x, hx, LfR.mv hk hB _ hl⟩⟩

/-- An object's block is there, and of the frame's own. -/
theorem OR.blk {B : BS} {w0 w : World} : ∀ {ob : AO} {v : Value}, OR B w0 w ob v → ∀ b, vblk v = some b → w0.heap.size ≤ b ∧ b < w.heap.size
  | .box t cs, _, ⟨g, vs, e, h1, h2, h3⟩, b, hb => by subst e; cases hb; exact ⟨h1, h2.lt⟩
  | .row e sz n el, _, ⟨xs, ⟨_, Or.inl h⟩, h2⟩, b, hb => by obtain ⟨rfl, _⟩ := h; cases hb
  | .row e sz n el, _, ⟨xs, ⟨_, Or.inr ⟨g, cap, cur, h, h3, h4, h5⟩⟩, h2⟩, b, hb => by subst h; cases hb; exact ⟨h3, lt_of_block h4⟩

/-- Look a thing up; strike it. -/
def lk {α : Type} : List (Nat × α) → Nat → Option α
  | [], _ => none
  | (k, x) :: l, t => bif Nat.beq k t then some x else lk l t
theorem lk_cons {α : Type} (k : Nat) (x : α) (l : List (Nat × α)) (t : Nat) : lk ((k, x) :: l) t = if k = t then some x else lk l t := by
  show (bif Nat.beq k t then some x else lk l t) = _
  by_cases h : k = t
  · rw [if_pos h, show Nat.beq k t = true from by rw [h]; exact Nat.beq_refl t]; rfl
  · rw [if_neg h, show Nat.beq k t = false from by rw [← Bool.not_eq_true]; exact fun e => h (Nat.eq_of_beq_eq_true e)]; rfl
theorem lk_mem {α : Type} : ∀ {l : List (Nat × α)} {t : Nat} {x : α}, lk l t = some x → (t, x) ∈ l
  | [], t, x, h => by cases h
  | (k, y) :: l, t, x, h => by
    rw [lk_cons] at h
    split at h
    · rename_i e; cases h; rw [e]; exact List.mem_cons_self
    · exact List.mem_cons_of_mem _ (lk_mem h)

/-- The blocks that a frame keeps to itself. -/
def Bd (ρ : Rho) (B0 : BS) : BS := fun b => B0 b ∨ ∃ id v, ρ id = some v ∧ vblk v = some b
def up (ρ : Rho) (id : Nat) (v : Value) : Rho := fun k => if k = id then some v else ρ k

/-- The frame's objects, and the world. -/
structure Core (ρ : Rho) (B0 : BS) (w0 w : World) (hp : List (Nat × AO)) : Prop where
  bel : Below w0.heap.size w0 w
  b0 : ∀ b, B0 b → b < w0.heap.size
  obj : ∀ id v, ρ id = some v → ∃ ob, lk hp id = some ob ∧ OR (Bd ρ B0) w0 w ob v
  dist : ∀ id id' v v' b, ρ id = some v → ρ id' = some v' → vblk v = some b → vblk v' = some b → id = id'

section
variable {ρ : Rho} {B0 : BS} {w0 w w' : World} {hp : List (Nat × AO)} {id : Nat} {v : Value} {ob : AO}

theorem Core.bdlt (h : Core ρ B0 w0 w hp) (b : Nat) (hb : Bd ρ B0 b) : b < w.heap.size := by
  rcases hb with hb | ⟨id, v, h1, h2⟩
  · exact Nat.lt_of_lt_of_le (h.b0 b hb) h.bel.size
  · obtain ⟨ob, _, ho⟩ := h.obj id v h1
    exact (ho.blk b h2).2

theorem Core.below (h : Core ρ B0 w0 w hp) (hb : Below w.heap.size w w') : Core ρ B0 w0 w' hp :=
  ⟨h.bel.trans (hb.mono h.bel.size), h.b0, fun id v hv => let ⟨ob, h1, h2⟩ := h.obj id v hv; ⟨ob, h1, h2.mv (.of_below hb) (fun _ _ hB => hB) (fun b hvb => hb.block b (h2.blk b hvb).2)⟩, h.dist⟩

theorem AR.below {av : AV} {c : Value} {B : BS} (h : AR ρ B w av c) (hb : Below w.heap.size w w') : AR ρ B w' av c := AR.mv (.of_below hb) (fun _ _ hB => hB) (fun _ _ => rfl) h

theorem up_new (hn : ρ id = none) (hv : ∀ b, vblk v = some b → w.heap.size ≤ b) : ∀ b, b < w.heap.size → Bd (up ρ id v) B0 b → Bd ρ B0 b := by
  rintro b hb (h | ⟨k, u, h1, h2⟩)
  · exact Or.inl h
  · unfold up at h1
    split at h1
    · cases h1
      have := hv b h2
      omega
    · exact Or.inr ⟨k, u, h1, h2⟩

/-- A new object. -/
theorem Core.new {hp' : List (Nat × AO)} (h : Core ρ B0 w0 w hp) (hn : ρ id = none) (hb : Below w.heap.size w w') (hv : ∀ b, vblk v = some b → w.heap.size ≤ b) (hl : ∀ k ob, lk hp k = some ob → k ≠ id → lk hp' k = some ob) (hi : lk hp' id = some ob)
    (ho : OR (Bd (up ρ id v) B0) w0 w' ob v) : Core (up ρ id v) B0 w0 w' hp' := by
  refine ⟨h.bel.trans (hb.mono h.bel.size), h.b0, fun k u hu => ?_, ?_⟩
  · unfold up at hu
    split at hu
    · rename_i hk
      cases hu
      exact ⟨ob, by rw [hk]; exact hi, ho⟩
    · rename_i hk
      obtain ⟨ob', h1, h2⟩ := h.obj k u hu
      exact ⟨ob', hl k ob' h1 hk, h2.mv (.of_below hb) (up_new hn hv) (fun b hvb => hb.block b (h2.blk b hvb).2)⟩
  · have old : ∀ k u b, ρ k = some u → vblk u = some b → b < w.heap.size := fun k u b h1 h2 => let ⟨_, _, h3⟩ := h.obj k u h1; (h3.blk b h2).2
    intro k k' u u' b h1 h2 h3 h4
    unfold up at h1 h2
    split at h1 <;> split at h2
    · omega
    · cases h1
      have := hv b h3
      have := old k' u' b h2 h4
      omega
    · cases h2
      have := hv b h4
      have := old k u b h1 h3
      omega
    · exact h.dist k k' u u' b h1 h2 h3 h4

theorem AR.new {av : AV} {c : Value} (hn : ρ id = none) (hb : Below w.heap.size w w') (hv : ∀ b, vblk v = some b → w.heap.size ≤ b) (h : AR ρ (Bd ρ B0) w av c) : AR (up ρ id v) (Bd (up ρ id v) B0) w' av c := by
  refine AR.mv (.of_below hb) (up_new hn hv) (fun k hk => ?_) h
  unfold up
  split
  · rename_i e
    subst e
    exfalso
    cases av with
    | ptr i o => obtain ⟨g, h1, _⟩ := h; have e : i = k := (by simpa [AV.on] using hk); rw [e, hn] at h1; cases h1
    | own i => obtain ⟨h1, _⟩ := h; have e : i = k := (by simpa [AV.on] using hk); rw [e, hn] at h1; cases h1
    | eptr i _ _ _ => obtain ⟨g, n, cp, h1, _⟩ := h; have e : i = k := (by simpa [AV.on] using hk); rw [e, hn] at h1; cases h1
    | _ => simp [AV.on] at hk
  · rfl

/-- An object is written (perhaps moved to a new block). -/
theorem Core.write {v' : Value} {ob' : AO} {hp' : List (Nat × AO)} (h : Core ρ B0 w0 w hp) (hid : ρ id = some v) (hk : ∀ b, b < w.heap.size → vblk v ≠ some b → w'.heap[b]? = w.heap[b]?) (hs : w.heap.size ≤ w'.heap.size)
    (hbel : Below w0.heap.size w0 w') (hv : ∀ b, vblk v' = some b → vblk v = some b ∨ w.heap.size ≤ b) (hl : ∀ k ob, lk hp k = some ob → k ≠ id → lk hp' k = some ob) (hi : lk hp' id = some ob')
    (ho : OR (Bd (up ρ id v') B0) w0 w' ob' v') : Core (up ρ id v') B0 w0 w' hp' ∧ Keep (Bd ρ B0) w w' ∧ ∀ b, b < w.heap.size → Bd (up ρ id v') B0 b → Bd ρ B0 b := by
  have hK : Keep (Bd ρ B0) w w' := ⟨hs, fun b hb hB => hk b hb (fun e => hB (Or.inr ⟨id, v, hid, e⟩))⟩
  have hB : ∀ b, b < w.heap.size → Bd (up ρ id v') B0 b → Bd ρ B0 b := by
    rintro b hb (h | ⟨k, u, h1, h2⟩)
    · exact Or.inl h
    · unfold up at h1
      split at h1
      · cases h1
        rcases hv b h2 with h3 | h3
        · exact Or.inr ⟨id, v, hid, h3⟩
        · omega
      · exact Or.inr ⟨k, u, h1, h2⟩
  refine ⟨⟨hbel, h.b0, fun k u hu => ?_, ?_⟩, hK, hB⟩
  · unfold up at hu
    split at hu
    · rename_i hk
      cases hu
      exact ⟨ob', by rw [hk]; exact hi, ho⟩
    · rename_i hne
      obtain ⟨ob1, h1, h2⟩ := h.obj k u hu
      exact ⟨ob1, hl k ob1 h1 hne, h2.mv hK hB (fun b hvb => hk b (h2.blk b hvb).2 (fun e => hne (h.dist k id u v b hu hid hvb e)))⟩
  · have old : ∀ k u b, ρ k = some u → vblk u = some b → b < w.heap.size := fun k u b h1 h2 => let ⟨_, _, h3⟩ := h.obj k u h1; (h3.blk b h2).2
    intro k k' u u' b h1 h2 h3 h4
    unfold up at h1 h2
    split at h1 <;> split at h2
    · omega
    · cases h1
      have h5 := old k' u' b h2 h4
      rcases hv b h3 with h6 | h6
      · have := h.dist id k' v u' b hid h2 h6 h4; omega
      · omega
    · cases h2
      have h5 := old k u b h1 h3
      rcases hv b h4 with h6 | h6
      · have := h.dist k id u v b h1 hid h3 h6; omega
      · omega
    · exact h.dist k k' u u' b h1 h2 h3 h4
end

/-- THE STATE OF A FRAME: so many slots; what some of them hold; its objects. -/
structure AS where
  n : Nat
  sl : List (Nat × AV)
  hp : List (Nat × AO)

def Slots (ρ : Rho) (B : BS) (w : World) (sl : List (Nat × AV)) (a : Act) : Prop := ∀ t av, lk sl t = some av → ∃ v, a.tmps[t]? = some v ∧ AR ρ B w av v

/-- The frame a, in the world w, is as s says; the call began in w0 and keeps out of B0. -/
def Den (s : AS) (B0 : BS) (w0 : World) (a : Act) (w : World) : Prop := ∃ ρ, Core ρ B0 w0 w s.hp ∧ a.tmps.size = s.n ∧ a.defers = [] ∧ Slots ρ (Bd ρ B0) w s.sl a

end Go.Proofs.Ytkcagkcphobmfaa
