/-
  The program's functions, part ETopStatic. No condition.
-/
import Derived.Test.YtecmeakkkmidjaaGreatJ8
set_option linter.defProp false
set_option linter.unusedVariables false
set_option linter.unusedSectionVars false
set_option linter.unusedSimpArgs false
set_option maxRecDepth 100000
set_option maxHeartbeats 4000000
namespace Go.Proofs.YtecmeakkkmidjaaGreat
open Go.RowKit
noncomputable section
open Go.Proofs.Tryz
/-
 RATIONALS of the program, by the machine (3).
-/
instance {lo hi p q:Rat}:Decidable (bel lo hi p q):=inferInstanceAs (Decidable (_∧_))
/-
 ALGEBRAIC NUMBERS, by the machine (8): Rational.
-/
section
variable {c:Nat→Int} (h:PB c)
include h
end
section
variable {c:Nat→Int} (h:PB c) (h0:lg c≠0)
include h h0
end
section
variable {x:Pt} (h:PS x)
include h
end
section
variable {P:Program} {ar i:TypeId} (hi:P.underlying i=some (.int .i64)) (ha:P.underlying ar=some (.array 3 i)) (hsi:∀ w,(sizeOf i).run P w= .ok 1 w)
include hi
end
section
variable {P:Program} {ar i:TypeId} (hi:P.underlying i=some (.int .i64)) (ha:P.underlying ar=some (.array 3 i)) (hsi:∀ w,(sizeOf i).run P w= .ok 1 w)
include hi ha hsi
end
section
variable {L:List Pt} {C:dQ} (hn:L.length≤5)
include hn
end
section
variable {L:List Pt} {C:dQ} (hL:∀ i,i < L.length→PS (gt L i))
include hL
end
section
variable {C:dQ} (hC:dO C)
include hC
end
section
variable {L:List Pt} {a b c d:Pt} (ha:a∈L) (hb:b∈L) (hc:c∈L) (hd:d∈L)
include ha hb hc hd
omit hd
omit hc
end
section
variable {L:List Pt} (hS:∀ p∈L,Fz p)
include hS
end
instance {x y i x2 y2 j:Int}:Decidable (bfI x y i x2 y2 j):=by unfold bfI;infer_instance
instance {x y i x2 y2 j:Int}:Decidable (btI x y i x2 y2 j):=by unfold btI;infer_instance
section
variable {x y:Nat→Int} {C:dQ} (hC:dO C)
include hC
end
section
variable {α:Type} [Inhabited α] {X Y:α→Int}
section
variable {R R' A B:List α} {n:Nat} (hn:2≤n) (hl:R.length=n) (hl':R'.length=n) (hr:∀ i,i < n→gt R' i=gt R (n-1-i))
 (hs:∀ a b,a < b→b < n→H7 X Y (gt R a) (gt R b)) (U:ChV X Y R A n) (V:ChV (fun a=> -X a) (fun a=> -Y a) R' B n)
include hn hr hs U V
end
end
section
variable {L:List Pt} (hS:∀ p∈L,Fz p)
include hS
end
section
variable {L:List Pt} {C:dQ} (hC:dO C) (hS:∀ p∈L,Fz p)
include hC hS
end
section
variable {X Y:Nat→Int} (hX:∀ i,0≤X i∧X i≤14) (hY:∀ i,0≤Y i∧Y i≤14)
include hX hY
end
end
end Go.Proofs.YtecmeakkkmidjaaGreat
