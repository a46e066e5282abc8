/- The law FnExactDfaOK: for every input the call answers true and the input reads as before. No condition. -/
import Derived.Test.YtfkejcakklpecaaRows
import Derived.Test.YtfkejcakklpecaaXFnExactDfaOKx6
import Derived.Test.YtfkejcakklpecaaPureFnExactDfaOK
import Derived.Test.YtfkejcakklpecaaWfFnExactDfaOK
import Derived.WalkKit
import Derived.ProofKit
import Derived.OpenShut
import Derived.ShutString
import Derived.ChangeOld
import Derived.Below
import Derived.SizedLaws
import Derived.Lib.SmallJoins
namespace Go.Proofs.Ytfkejcakklpecaa.fnExactDfaOK
open Go.ChangeShapes Go.WideShapes Go.ChangeAt Go.RowKit Go.Joins Go.Deep Go.Proofs.YtfkejcakklpecaaW.PrintWords Go.Proofs.Ytfkejcakklpecaa.Open Go.Proofs.Ytfkejcakklpecaa.WfFnExactDfaOK
open Go.ChangeMaps (open_string shut_string)
set_option linter.unusedVariables false
set_option linter.unusedSimpArgs false
theorem own : ownKnob Try.prog.godebug = none := by kernel_rfl
theorem laidOut : laidOutB Try.prog = true := by kernel_rfl
set_option maxRecDepth 100000 in
theorem lifted (os : Os) (started : os.Started) (H : Type) (enc : TypeId × Value → H) :
    ReturnsInHanded {} Try.checked os 10 .any (Rows.fnExactDfaOKSpec.pre6 enc Try.prog Try.f10 Rows.fnExactDfaOKRow.domain false) (Rows.fnExactDfaOKSpec.post enc Try.prog Try.f10 false true false false) := by
  refine returnsInHanded_of_change_sized (C := Try.checked) own started (by kernel_rfl) Try.func10
    (ChangeSpec.witness6 (enc := enc) (C := Try.checked) false ⟨#[], #[.agg #[.slice none 0 0]], []⟩ 8 (by kernel_rfl) (by kernel_rfl) (by kernel_rfl) (by kernel_rfl)) ?_
  intro W base args ds gs before hval0 hW hcnd hsz0 _
  have hsz : (DataW.weightsEach Try.prog (Try.f10.params.toList ++ Rows.fnExactDfaOKSpec.plain.varTypes Try.prog) (ds ++ gs)).all (· ≤ reachBytes) = true := hsz0
  have hval : ∀ (j : Nat) t v, Try.f10.params[j]? = some t → args[j]? = some v → Value.okWide Try.prog W .any base t v := hval0
  have hW' := hW
  obtain ⟨p, q, hA0, hV, rfl, hfz, hnd⟩ := hW
  have hA : DataW.TrodAll enc Try.prog W 0 (fun _ => true) true Try.f10.params.toList args.toList ds p := hA0
  rw [Try.params10] at hA hval hsz
  obtain ⟨v0, vs0, d0, ds0, p0, q0, hargs, rfl, rfl, h0, r0⟩ := trodAll_cons hA
  obtain ⟨rfl, rfl, rfl⟩ := trodAll_nil r0
  obtain rfl : args = #[v0] := by cases args; simp_all
  obtain ⟨rfl, rfl⟩ := trodVars_none hV
  have k0 := h0
  have lt0 : ∀ x ∈ p0, x.block < W.heap.size := by obtain ⟨m, hm⟩ := k0; exact DataW.trod_lt m _ _ _ hm
  obtain ⟨cs0, rfl, hcz0⟩ := okWide_struct Try.underlying50 (hval 0 50 v0 rfl rfl)
  obtain ⟨fu0, hf0⟩ := h0
  obtain ⟨x0, hK0, hw0⟩ := openp0 enc W _ _ _ hf0
  obtain ⟨l0_0, hx0⟩ : ∃ z, z = x0 := ⟨_, rfl⟩
  subst hx0
  obtain ⟨A0_0, c0_0, hcs0, hc0_0, hC0_0⟩ := hK0
  obtain rfl : cs0 = #[.slice A0_0 l0_0.length c0_0] := by
    have h_ : cs0.toList = [.slice A0_0 l0_0.length c0_0] := hcs0
    rw [← Array.toArray_toList (xs := cs0), h_]
  obtain ⟨k, hk⟩ := Pure.FnExactDfaOK l0_0 hw0
  refine (XFnExactDfaOK.laws_FnExactDfaOK.calls k _ _ l0_0 true W hC0_0 hc0_0 hk).mono fun e W' ⟨he, bel⟩ => ?_
  subst he
  exact ⟨_, rfl, _, _, _, [], _, [], hW', trodAll_mk1 (shut_bool Try.underlying4 _), (trodAll_cons_mk (Below.trod laidOut (by kernel_rfl) (of_decide_eq_true (by kernel_rfl)) k0 bel lt0) trodAll_mk0), rfl, bel.frame _, fun h => by cases h⟩
theorem over : Rows.fnExactDfaOKRow.holds Try.pinned (OpenSpec.ofChange Rows.fnExactDfaOKSpec) :=
  OpenClaim.holds_of_wide 10 Try.f10 rfl rfl rfl rfl rfl rfl rfl ⟨rfl, rfl, rfl, rfl, rfl⟩ rfl rfl rfl rfl rfl (by kernel_rfl) Try.func10 (by kernel_rfl)
    (of_decide_eq_true (by kernel_rfl)) (by unfold Func.isWrapper; first | (rw [if_pos (by decide +kernel)]; kernel_rfl) | (rw [if_neg (by decide +kernel)]; exact ⟨rfl, rfl⟩))
    (fun os started H enc _ => lifted os started H enc)
theorem proved : Rows.FnExactDfaOKSaid := over
#print axioms proved
end Go.Proofs.Ytfkejcakklpecaa.fnExactDfaOK
namespace Go.Proofs.Ytfkejcakklpecaa
/-- The row, under a short name, for the claim. -/
theorem fnExactDfaOK_holds : Rows.FnExactDfaOKSaid := fnExactDfaOK.proved
end Go.Proofs.Ytfkejcakklpecaa
