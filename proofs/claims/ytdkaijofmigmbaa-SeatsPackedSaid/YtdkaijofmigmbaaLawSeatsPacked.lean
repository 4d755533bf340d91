/- Cut down from a longer text. -/
import Derived.Test.YtdkaijofmigmbaaRows
import Derived.Test.YtdkaijofmigmbaaB3p
import Derived.Test.YtdkaijofmigmbaaM1p
import Derived.WalkKit
import Derived.ProofKit
import Derived.OpenShut
import Derived.ShutString
import Derived.ChangeOld
import Derived.Below
import Derived.SizedLaws
namespace Go.Proofs.Ytdkaijofmigmbaa.seatsPacked
open Go Go.Proofs Go.ChangeShapes Go.WideShapes Go.ChangeAt Go.RowKit
open Go.Proofs.Ytdkaijofmigmbaa.D Go.Proofs.Ytdkaijofmigmbaa.L
set_option linter.unusedVariables false
theorem own : ownKnob Try.prog.godebug = none := by kernel_rfl
theorem laidOut : laidOutB Try.prog = true := by kernel_rfl
def T0 : Ty := (.pair (.sl (.int .i64)) (.int .i64))
def T1 : Ty := (.sl (.int .i64))
def T2 : Ty := (.sl (.int .i64))
set_option maxRecDepth 100000 in
theorem lifted (os : Os) (started : os.Started) (H : Type) (enc : TypeId × Value → H) :
    ReturnsInHanded {} Try.checked os 11 .any (Rows.seatsPackedSpec.pre6 enc Try.prog Try.f11 Rows.seatsPackedRow.domain false) (Rows.seatsPackedSpec.post enc Try.prog Try.f11 false true false false) := by
  refine returnsInHanded_of_change_sized (C := Try.checked) own started (by kernel_rfl) Try.func11
    (ChangeSpec.witness6 (enc := enc) (C := Try.checked) false ⟨#[], #[.agg #[.slice none 0 0, .int .i64 0], .slice none 0 0, .slice none 0 0], []⟩ 8 (by kernel_rfl) (by kernel_rfl) (by kernel_rfl) (by kernel_rfl)) ?_
  intro W base args ds gs before hval0 hW hcnd hsz0 _
  have hval : ∀ (j : Nat) t v, Try.f11.params[j]? = some t → args[j]? = some v → Value.okWide Try.prog W .any base t v := hval0
  have hW' := hW
  obtain ⟨p, q, hA0, hV, rfl, hfz, hnd⟩ := hW
  have hA : DataW.TrodAll enc Try.prog W 0 (fun _ => true) true Try.f11.params.toList args.toList ds p := hA0
  rw [Try.params11] at hA hval
  obtain ⟨v0, vs0, d0, ds0, p0, q0, hargs, rfl, rfl, h0, r0⟩ := trodAll_cons hA
  obtain ⟨v1, vs1, d1, ds1, p1, q1, rfl, rfl, rfl, h1, r1⟩ := trodAll_cons r0
  obtain ⟨v2, vs2, d2, ds2, p2, q2, rfl, rfl, rfl, h2, r2⟩ := trodAll_cons r1
  obtain ⟨rfl, rfl, rfl⟩ := trodAll_nil r2
  obtain rfl : args = #[v0, v1, v2] := by cases args; simp_all
  obtain ⟨rfl, rfl⟩ := trodVars_none hV
  obtain ⟨x0, a0, w0, l0, m0⟩ := arg_st (n := 9) Try.underlying24 (by kernel_rfl : tyCells Try.prog 9 24 = some ((.sl (.int .i64)) :: [(.int .i64)])) (hval 0 24 v0 rfl rfl) h0
  have lt0 : ∀ x ∈ p0, x.block < W.heap.size := by obtain ⟨m, hm⟩ := h0; exact DataW.trod_lt m _ _ _ hm
  obtain ⟨x1, a1, w1, l1, m1⟩ := arg_v (n := 9) (u := (.sl (.int .i64))) (by kernel_rfl) (by kernel_rfl : tyCells Try.prog 9 22 = some [(.sl (.int .i64))]) (hval 1 22 v1 rfl rfl) h1
  have lt1 : ∀ x ∈ p1, x.block < W.heap.size := by obtain ⟨m, hm⟩ := h1; exact DataW.trod_lt m _ _ _ hm
  obtain ⟨x2, a2, w2, l2, m2⟩ := arg_v (n := 9) (u := (.sl (.int .i64))) (by kernel_rfl) (by kernel_rfl : tyCells Try.prog 9 22 = some [(.sl (.int .i64))]) (hval 2 22 v2 rfl rfl) h2
  have lt2 : ∀ x ∈ p2, x.block < W.heap.size := by obtain ⟨m, hm⟩ := h2; exact DataW.trod_lt m _ _ _ hm
  clear hA0 hval0 hsz0
  refine (law_calls d11 (x := (x0, (x1, x2))) (Pure.SeatsPacked x0 w0 x1 w1 x2 w2) (by kernel_rfl) (RelVs_cons l0 (RelVs_cons l1 (RelVs_cons l2 RelVs_nil))) (RVs_cons m0 (RVs_cons m1 (RVs_cons m2 (RVs_nil _ _))))).mono fun e W' ⟨he, bel⟩ => ?_
  subst he
  exact ⟨_, rfl, _, _, _, [], _, [], hW', trodAll_mk1 (shut_bool Try.underlying4 _), (trodAll_cons_mk (Below.trod laidOut (by kernel_rfl) (of_decide_eq_true (by kernel_rfl)) h0 bel lt0) (trodAll_cons_mk (Below.trod laidOut (by kernel_rfl) (of_decide_eq_true (by kernel_rfl)) h1 bel lt1) (trodAll_cons_mk (Below.trod laidOut (by kernel_rfl) (of_decide_eq_true (by kernel_rfl)) h2 bel lt2) trodAll_mk0))), rfl, bel.frame _, fun h => by cases h⟩
theorem over : Rows.seatsPackedRow.holds Try.pinned (OpenSpec.ofChange Rows.seatsPackedSpec) :=
  OpenClaim.holds_of_wide 11 Try.f11 rfl rfl rfl rfl rfl rfl rfl ⟨rfl, rfl, rfl, rfl, rfl⟩ rfl rfl rfl rfl rfl (by kernel_rfl) Try.func11 (by kernel_rfl)
    (of_decide_eq_true (by kernel_rfl)) (by unfold Func.isWrapper; first | (rw [if_pos (by decide +kernel)]; kernel_rfl) | (rw [if_neg (by decide +kernel)]; exact ⟨rfl, rfl⟩))
    (fun os started H enc _ => lifted os started H enc)
theorem proved : Rows.SeatsPackedSaid := over
end Go.Proofs.Ytdkaijofmigmbaa.seatsPacked
namespace Go.Proofs.Ytdkaijofmigmbaa
theorem seatsPacked_holds : Rows.SeatsPackedSaid := seatsPacked.proved
#print axioms seatsPacked_holds
end Go.Proofs.Ytdkaijofmigmbaa
