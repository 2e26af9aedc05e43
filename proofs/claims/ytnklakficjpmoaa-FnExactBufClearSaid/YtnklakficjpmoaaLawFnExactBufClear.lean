-- printed by a program of this session (wip/printx) out of the translation; Lean checks it
import Derived.Test.YtnklakficjpmoaaRows
import Derived.Test.YtnklakficjpmoaaPFnExactBufClearx12
import Derived.Test.YtnklakficjpmoaaPureFnExactBufClear
import Derived.Test.YtnklakficjpmoaaVFnExactBufClear
import Derived.WalkKit
import Derived.ProofKit
import Derived.OpenShut
import Derived.ShutString
import Derived.ChangeOld
import Derived.Below
import Derived.SizedLaws
namespace Go.Proofs.Ytnklakficjpmoaa.fnExactBufClear
open Go.ChangeShapes Go.WideShapes Go.ChangeAt Go.RowKit Go.Proofs.YtnklakficjpmoaaX Go.Proofs.Ytnklakficjpmoaa.PFnExactBufClear Go.Proofs.YtnklakficjpmoaaW.PrintWords
open Go.ChangeMaps (open_string shut_string)
set_option linter.unusedVariables false
theorem own : ownKnob Try.prog.godebug = none := by kernel_rfl
theorem laidOut : laidOutB Try.prog = true := by kernel_rfl
theorem opens_40 : Opens Try.prog 40 k40 (fun x => W40 x) := (Opens.iso (f := fun x : S40 => (x.f0, x.f1)) (fun p => ⟨p.1, p.2⟩) (fun _ => rfl) (Opens.struct Try.underlying40 (by kernel_rfl) (OpensF.cons rfl (by kernel_rfl) (Opens.iso (f := fun x : S37 => (x.f0, x.f1, x.f2, x.f3, x.f4)) (fun p => ⟨p.1, p.2.1, p.2.2.1, p.2.2.2.1, p.2.2.2.2⟩) (fun _ => rfl) (Opens.struct Try.underlying37 (by kernel_rfl) (OpensF.cons rfl (by kernel_rfl) (Opens.int Try.underlying3) (by decide) (OpensF.cons rfl (by kernel_rfl) (Opens.int Try.underlying3) (by decide) (OpensF.cons rfl (by kernel_rfl) (Opens.int Try.underlying3) (by decide) (OpensF.cons rfl (by kernel_rfl) (Opens.int Try.underlying3) (by decide) (OpensF.one rfl (by kernel_rfl) (Opens.bool Try.underlying4)))))))) (by decide) (OpensF.one rfl (by kernel_rfl) (Opens.slice Try.underlying38 (by kernel_rfl) z133 (Opens.iso (f := fun x : S133 => (x.f0, x.f1)) (fun p => ⟨p.1, p.2⟩) (fun _ => rfl) (Opens.struct Try.underlying133 (by kernel_rfl) (OpensF.cons rfl (by kernel_rfl) (Opens.int Try.underlying3) (by decide) (OpensF.one rfl (by kernel_rfl) (Opens.slice Try.underlying131 (by kernel_rfl) z42 (Opens.iso (f := fun x : S42 => (x.f0, x.f1)) (fun p => ⟨p.1, p.2⟩) (fun _ => rfl) (Opens.struct Try.underlying42 (by kernel_rfl) (OpensF.cons rfl (by kernel_rfl) (Opens.int Try.underlying3) (by decide) (OpensF.one rfl (by kernel_rfl) (Opens.int Try.underlying3)))))))))))))))
set_option maxRecDepth 100000 in
theorem lifted (os : Os) (started : os.Started) (H : Type) (enc : TypeId × Value → H) :
    ReturnsInHanded {} Try.checked os 13 .any (Rows.fnExactBufClearSpec.pre6 enc Try.prog Try.f13 Rows.fnExactBufClearRow.domain false) (Rows.fnExactBufClearSpec.post enc Try.prog Try.f13 false true false false) := by
  refine returnsInHanded_of_change_sized (C := Try.checked) own started (by kernel_rfl) Try.func13
    (ChangeSpec.witness6 (enc := enc) (C := Try.checked) false ⟨#[], #[.agg #[.int .i64 0, .int .i64 0, .int .i64 0, .int .i64 0, .bool false, .slice none 0 0], .int .i64 0], []⟩ 8 (by kernel_rfl) (by kernel_rfl) (by kernel_rfl) (by kernel_rfl)) ?_
  intro W base args ds gs before hval0 hW hcnd hsz0 _
  have hval : ∀ (j : Nat) t v, Try.f13.params[j]? = some t → args[j]? = some v → Value.okWide Try.prog W .any base t v := hval0
  have hW' := hW
  obtain ⟨p, q, hA0, hV, rfl, hfz, hnd⟩ := hW
  have hA : DataW.TrodAll enc Try.prog W 0 (fun _ => true) true Try.f13.params.toList args.toList ds p := hA0
  rw [Try.params13] at hA hval
  obtain ⟨v0, vs0, d0, ds0, p0, q0, hargs, rfl, rfl, h0, r0⟩ := trodAll_cons hA
  obtain ⟨v1, vs1, d1, ds1, p1, q1, rfl, rfl, rfl, h1, r1⟩ := trodAll_cons r0
  obtain ⟨rfl, rfl, rfl⟩ := trodAll_nil r1
  obtain rfl : args = #[v0, v1] := by cases args; simp_all
  obtain ⟨rfl, rfl⟩ := trodVars_none hV
  have k0 := h0
  have lt0 : ∀ x ∈ p0, x.block < W.heap.size := by obtain ⟨m, hm⟩ := k0; exact DataW.trod_lt m _ _ _ hm
  obtain ⟨cs0, rfl, _⟩ := okWide_struct Try.underlying40 (hval 0 40 v0 rfl rfl)
  obtain ⟨fuel0, hf0⟩ := h0
  obtain ⟨x0, hK0, hw0⟩ := opens_40 _ enc W fuel0 _ _ hf0
  obtain ⟨A0_5, c0_5, e0, hc0_5, hr0_5⟩ := k40_open hK0
  have e0 : cs0 = _ := cells_eq e0
  subst e0
  obtain ⟨a1, rfl, rfl, rfl, w1⟩ := open_int Try.underlying3 (hval 1 3 v1 rfl rfl) h1
  clear hA0 hval0 hsz0
  refine (PFnExactBufClear.laws_FnExactBufClear.walk Pure.FnExactBufClear W x0 A0_5 c0_5 hc0_5 hr0_5 hw0 a1 w1).mono fun e W' ⟨he, bel⟩ => ?_
  subst he
  exact ⟨_, rfl, _, _, _, [], _, [], hW', trodAll_mk1 (shut_bool Try.underlying4 _), (trodAll_cons_mk (Below.trod laidOut (by kernel_rfl) (of_decide_eq_true (by kernel_rfl)) k0 bel lt0) (trodAll_cons_mk (shut_int Try.underlying3 w1) trodAll_mk0)), rfl, bel.frame _, fun h => by cases h⟩
theorem over : Rows.fnExactBufClearRow.holds Try.pinned (OpenSpec.ofChange Rows.fnExactBufClearSpec) :=
  OpenClaim.holds_of_wide 13 Try.f13 rfl rfl rfl rfl rfl rfl rfl ⟨rfl, rfl, rfl, rfl, rfl⟩ rfl rfl rfl rfl rfl (by kernel_rfl) Try.func13 (by kernel_rfl)
    (of_decide_eq_true (by kernel_rfl)) (by unfold Func.isWrapper; first | (rw [if_pos (by decide +kernel)]; kernel_rfl) | (rw [if_neg (by decide +kernel)]; exact ⟨rfl, rfl⟩))
    (fun os started H enc _ => lifted os started H enc)
theorem proved : Rows.FnExactBufClearSaid := over
#print axioms proved
end Go.Proofs.Ytnklakficjpmoaa.fnExactBufClear
namespace Go.Proofs.Ytnklakficjpmoaa
/-- The row, under a short name, for the claim. -/
theorem fnExactBufClear_holds : Rows.FnExactBufClearSaid := fnExactBufClear.proved
end Go.Proofs.Ytnklakficjpmoaa
