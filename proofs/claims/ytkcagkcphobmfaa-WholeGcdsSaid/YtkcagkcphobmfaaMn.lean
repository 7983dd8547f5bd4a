/-
  THE ABSTRACT MACHINE, 14: the rules in the form that a program prints. No condition; nothing of the program.
-/
import Derived.Test.YtkcagkcphobmfaaMm
set_option linter.unusedVariables false
set_option linter.unusedSimpArgs false
namespace Go.Proofs.Ytkcagkcphobmfaa
open Go.RowKit

theorem evi {k : IntKind} {a b : Int} (h : a = b) : some (AV.d (.one (.v (.int k a)))) = some (AV.d (.one (.v (.int k b)))) := by rw [h]
theorem evb {a b : Bool} (h : a = b) : some (AV.d (.one (.v (.bool a)))) = some (AV.d (.one (.v (.bool b)))) := by rw [h]

def isF : Callee → Option FuncId
  | .value (.func f) => some f
  | _ => none

section
variable {P : Program} {ops : Array Oper} {Q : Qs} {o : Oper} {l : List Oper} {s : AS}

theorem isF_fn {cal : Callee} {f : FuncId} (h : isF cal = some f) : fnOf s cal = some (f, []) := by
  unfold isF at h
  split at h
  · cases h; rfl
  · cases h

theorem mC0 {c : Call} {f : FuncId} {ds : List DV} {res : AV} (h : ACall P f ds res) (hc : callOf o.op = some c) (hf : isF c.callee = some f) (ha : getds s c.args.toList = some ds) (k : AL P ops Q l (s.put o.dst res))
    (hg : gst ops s o = some true := by rfl) (hd : dok o.dst s.n = true := by rfl) : AL P ops Q (o :: l) s :=
  mC (cap := []) (by rw [List.append_nil]; exact h) hc (isF_fn hf) ha k hg hd
theorem OpS.C0 {T : TypeId → Option TI} {c : Call} {f : FuncId} {ds : List DV} {res : AV} (h : ACall P f ds res) (hc : callOf o.op = some c) (hf : isF c.callee = some f) (ha : getds s c.args.toList = some ds) (hg : gst ops s o = some true := by rfl) (hd : dok o.dst s.n = true := by rfl) : OpS P T ops o s (s.put o.dst res) :=
  .C (cap := []) (by rw [List.append_nil]; exact h) hc (isF_fn hf) ha hg hd

/-- One after another, and K of what comes of it. -/
inductive ChK (P : Program) (T : TypeId → Option TI) (ops : Array Oper) (K : AS → Prop) : List Oper → AS → Prop
  | nil {s : AS} (h : K s) : ChK P T ops K [] s
  | cons {o : Oper} {l : List Oper} {s s1 : AS} (h : OpS P T ops o s s1) (k : ChK P T ops K l s1) : ChK P T ops K (o :: l) s
theorem ChK.ch {T : TypeId → Option TI} {K : AS → Prop} (h : ChK P T ops K l s) : ∃ s1, Ch P T ops l s s1 ∧ K s1 := by
  induction h with
  | nil h => exact ⟨_, .nil _, h⟩
  | cons h _ ih => obtain ⟨s1, h1, h2⟩ := ih; exact ⟨s1, .cons h h1, h2⟩
theorem cDrawK {T : TypeId → Option TI} (hT : TOk P T) {id : Nat} {l : List Oper} (n : Nat) {s : AS} (hm : P.follows .mixedOrders = true) (hB : Am.allB l.toArray n s.n = true) (h : ChK P T l.toArray (fun s1 => AL P l.toArray Q (l.drop n) s1) (l.take n) s) : AW P (.region id l.toArray true) Q s := by
  obtain ⟨s1, h1, h2⟩ := h.ch
  exact cDraw hT n hm hB h1 h2

theorem cT {c : Operand} {x y : Code} (hc : geto s c = some (.d (.one (.v (.bool true))))) (h : AW P x Q s) : AW P (.cond c x y) Q s := cCond hc (fun _ => h) (fun e => by cases e)
theorem cF {c : Operand} {x y : Code} (hc : geto s c = some (.d (.one (.v (.bool false))))) (h : AW P y Q s) : AW P (.cond c x y) Q s := cCond hc (fun e => by cases e) (fun _ => h)

theorem tN {K : AS → Prop} (h : K s) : thn K Q .normal s := h
theorem tE {K : AS → Prop} {id : Nat} (h : Q (.exit id) s) : thn K Q (.exit id) s := h
theorem tR {K : AS → Prop} (h : Q .ret s) : thn K Q .ret s := h
theorem bN {id : Nat} (h : Q .normal s) : inB id Q .normal s := h
theorem bR {id : Nat} (h : Q .ret s) : inB id Q .ret s := h
theorem bE {id : Nat} (h : Q .normal s) : inB id Q (.exit id) s := by show (if id = id then Q .normal s else Q (.exit id) s); rw [if_pos rfl]; exact h
theorem bX {id id' : Nat} (hne : Nat.beq id' id = false) (h : Q (.exit id') s) : inB id Q (.exit id') s := by
  show (if id' = id then Q .normal s else Q (.exit id') s)
  rw [if_neg (fun e => by rw [e, Nat.beq_refl] at hne; cases hne)]
  exact h
theorem rQ {T : TypeId → Option TI} {rs : List ResultVar} {es : List DV} {r : AV} (h : resE T s rs = some es) (hl : AV.le (resAV es) r) : RetQ T rs r .ret s := ⟨es, h, hl⟩
theorem rQn {T : TypeId → Option TI} {rs : List ResultVar} {es : List DV} {r : AV} (h : resE T s rs = some es) (hl : AV.le (resAV es) r) : RetQ T rs r .normal s := ⟨es, h, hl⟩

theorem wkView {s : AS} (t : Nat) (av' : AV) {av : AV} (h : lk s.sl t = some av) (hl : AV.le av av') : Wk s ⟨s.n, (t, av') :: s.sl, s.hp⟩ := by
  rintro B0 w0 a w ⟨ρ, hc, hn, hdf, hs⟩
  refine ⟨ρ, hc, hn, hdf, fun u av2 hu => ?_⟩
  rw [lk_cons] at hu
  split at hu
  · rename_i e
    cases hu
    subst e
    obtain ⟨v, h1, h2⟩ := hs t av h
    exact ⟨v, h1, hl _ _ _ _ h2⟩
  · exact hs u av2 hu
theorem mView (t : Nat) (av' : AV) {av : AV} (h : lk s.sl t = some av) (hl : AV.le av av') (k : AL P ops Q l ⟨s.n, (t, av') :: s.sl, s.hp⟩) : AL P ops Q l s := AL.wk (wkView t av' h hl) k
theorem cView {c : Code} (t : Nat) (av' : AV) {av : AV} (h : lk s.sl t = some av) (hl : AV.le av av') (k : AW P c Q ⟨s.n, (t, av') :: s.sl, s.hp⟩) : AW P c Q s := AW.wk (wkView t av' h hl) k
end

theorem acallN {P : Program} {T : TypeId → Option TI} (hT : TOk P T) {f : FuncId} {fn : Func} {c : Code} {args : List DV} {r : AV} (n : Nat) (rs : List ResultVar) (hf : P.funcs[f]? = some fn) (hb : fn.body = some c) (hnm : (fn.name == "runtime.NumGoroutine") = false) (hn : fn.ntmps = n) (hrs : fn.results.toList = rs) (hlen : Nat.ble args.length n = true)
    (h : AW P c (RetQ T rs r) ⟨n, params 0 args, []⟩) : ACall P f args r := by
  subst hn; subst hrs
  exact acall hT hf hb hnm hlen h

end Go.Proofs.Ytkcagkcphobmfaa
