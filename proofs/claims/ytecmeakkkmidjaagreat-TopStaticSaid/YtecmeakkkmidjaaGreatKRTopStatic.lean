/-
  The statement TopStatic holds of the program. No condition.
-/
import Derived.Test.YtecmeakkkmidjaaGreatETopStatic
import Derived.Test.YtecmeakkkmidjaaGreatRows
import Derived.WalkKit
import Derived.ProofKit
import Derived.OpenShut
import Derived.ShutString
import Derived.ChangeOld
import Derived.Below
set_option linter.unusedVariables false
set_option linter.unusedSimpArgs false
namespace Go.Proofs.YtecmeakkkmidjaaGreat.topStatic
open Go.ChangeShapes Go.WideShapes Go.ChangeAt Go.RowKit
open Go.Proofs.Tryz
theorem own:ownKnob prog.godebug = none:=by kernel_rfl
theorem aq8:laidOutB prog = true:=by kernel_rfl
set_option maxRecDepth 100000 in
theorem avX (os:Os) (started:os.Started) (H:Type) (enc:TypeId × Value -> H) :
    ReturnsInHanded {} checked os 7 .any (Rows.topStaticSpec.pre6 enc prog f7 Rows.topStaticRow.domain false) (Rows.topStaticSpec.post enc prog f7 false true false false):=by
  refine returnsInHanded_of_change (C:=checked) own started (by kernel_rfl) func7
    (ChangeSpec.witness6 (enc:=enc) (C:=checked) false ⟨#[], #[.slice none 0 0, .int .i64 0, .int .i64 0], []⟩ 8 (by kernel_rfl) (by kernel_rfl) (by kernel_rfl) (by kernel_rfl)) ?_
  intro W base args ds gs before hval0 hW hcnd _
  have hval:∀(j:Nat) t v, f7.params[j]? = some t -> args[j]? = some v -> Value.okWide prog W .any base t v:=hval0
  have hW':=hW
  obtain⟨p, q, hA0, hV, rfl, hfz, hnd⟩:=hW
  have hA:DataW.TrodAll enc prog W 0 (λ_ => true) true f7.params.toList args.toList ds p:=hA0
  rw [params7] at hA hval
  obtain⟨v0, vs0, d0, ds0, p0, q0, hargs, rfl, rfl, h0, r0⟩:=trodAll_cons hA
  obtain⟨v1, vs1, d1, ds1, p1, q1, rfl, rfl, rfl, h1, r1⟩:=trodAll_cons r0
  obtain⟨v2, vs2, d2, ds2, p2, q2, rfl, rfl, rfl, h2, r2⟩:=trodAll_cons r1
  obtain⟨rfl, rfl, rfl⟩:=trodAll_nil r2
  obtain rfl:args = #[v0, v1, v2]:=by cases args; simp_all
  obtain⟨rfl, rfl⟩:=trodVars_none hV
  have k0:=h0
  have lt0:∀x ∈ p0, x.block<W.heap.size:=by obtain⟨m, hm⟩:=k0; exact DataW.trod_lt m _ _ _ hm
  obtain⟨a1, rfl, rfl, rfl, w1⟩:=open_int underlying3 (hval 1 3 v1 rfl rfl) h1
  obtain⟨a2, rfl, rfl, rfl, w2⟩:=open_int underlying3 (hval 2 3 v2 rfl rfl) h2
  clear hA0 hval0
  obtain⟨n0, c0, g0, m0, b0⟩:=akU underlying40 underlying3 (by kernel_rfl) (hval 0 40 v0 rfl rfl) h0
  have hwalk:=auh (abL m0 b0 (abf w1).1 (abf w1).2 (abf w2).1 (abf w2).2) (w:=W) (vs:=[v0, .int .i64 a1, .int .i64 a2]) ⟨g0, ⟨rfl, rfl⟩, ⟨rfl, rfl⟩, trivial⟩
  refine hwalk.mono λe W' ⟨he, bel⟩ => ?_
  subst he
  exact⟨_, rfl, _, _, _, [], _, [], hW', trodAll_mk1 (shut_bool underlying4 _), (trodAll_cons_mk (Below.trod aq8 (by kernel_rfl) (abd (by kernel_rfl)) k0 bel lt0) (trodAll_cons_mk (shut_int underlying3 w1) (trodAll_cons_mk (shut_int underlying3 w2) trodAll_mk0))), rfl, bel.frame _, λh => by cases h⟩
theorem aBm:joinedFacts Tryz.pinned.checked.prog 7 f7 Rows.topStaticSpec Rows.topStaticRow = true:=by kernel_rfl
theorem over:Rows.topStaticRow.holds Tryz.pinned (OpenSpec.ofChange Rows.topStaticSpec) :=
  OpenClaim.holds_of_wide 7 f7 rfl rfl rfl rfl rfl rfl rfl ⟨rfl, rfl, rfl, rfl, rfl⟩ rfl rfl rfl rfl rfl (by kernel_rfl) func7 aBm
    (abd (by kernel_rfl)) (by unfold Func.isWrapper; first | (rw [if_pos (by decide +kernel)]; kernel_rfl) | (rw [if_neg (by decide +kernel)]; exact⟨rfl, rfl⟩))
    (λos started H enc _ => avX os started H enc)
theorem proved:Rows.TopStaticSaid:=over
end Go.Proofs.YtecmeakkkmidjaaGreat.topStatic
