/- The program's Post answers as the reference does, for all arguments, leaves its arguments, and shares no memory.
   No condition. -/
import Derived.Test.YtphmnkcfjgallaaRows
import Derived.Test.YtphmnkcfjgallaaZPost21
import Derived.Test.YtphmnkcfjgallaaZPostH1
import Derived.Test.YtphmnkcfjgallaaZPostV3
import Derived.WalkKit
import Derived.ProofKit
import Derived.OpenShut
import Derived.ShutString
import Derived.ChangeOld
import Derived.Below
import Derived.SizedLaws
import Derived.KernelRfl
namespace Go.Proofs.Ytphmnkcfjgallaa.fnExactPost
open Go.ChangeShapes Go.WideShapes Go.ChangeAt Go.RowKit Go.Proofs.YtphmnkcfjgallaaW.PrintWords Go.Proofs.Ytphmnkcfjgallaa.Q Go.Proofs.Ytphmnkcfjgallaa.HOpen Go.Proofs.Ytphmnkcfjgallaa.HOpenB
open Go.ChangeMaps (open_string shut_string)
set_option linter.unusedVariables false
theorem own : ownKnob Try.prog.godebug = none := by kernel_rfl
theorem laidOut : laidOutB Try.prog = true := by kernel_rfl
theorem opens176 : Opens Try.prog 176 k176 wf176 := opens_struct (fun x : S176 => (x.f0, x.f1, x.f2)) (fun y => ⟨y.1, y.2.1, y.2.2⟩) (fun _ => rfl) Try.underlying176 (by kernel_rfl) (fields_cons rfl (opens_string Try.underlying9 (by kernel_rfl)) (fields_cons rfl (opens_int Try.underlying3 (by kernel_rfl)) (fields_one rfl (opens_int Try.underlying3 (by kernel_rfl)))))
theorem opens59 : Opens Try.prog 59 k59 wf59 := opens_struct (fun x : S59 => (x.f0, x.f1, x.f2)) (fun y => ⟨y.1, y.2.1, y.2.2⟩) (fun _ => rfl) Try.underlying59 (by kernel_rfl) (fields_cons rfl (opens_slice 176 Try.underlying57 (by kernel_rfl) opens176) (fields_cons rfl (opens_int Try.underlying3 (by kernel_rfl)) (fields_one rfl (opens_int Try.underlying3 (by kernel_rfl)))))
theorem opens188 : Opens Try.prog 188 k188 wf188 := opens_struct (fun x : S188 => (x.f0, x.f1, x.f2, x.f3, x.f4)) (fun y => ⟨y.1, y.2.1, y.2.2.1, y.2.2.2.1, y.2.2.2.2⟩) (fun _ => rfl) Try.underlying188 (by kernel_rfl) (fields_cons rfl (opens_int Try.underlying3 (by kernel_rfl)) (fields_cons rfl (opens_int Try.underlying3 (by kernel_rfl)) (fields_cons rfl (opens_int Try.underlying3 (by kernel_rfl)) (fields_cons rfl (opens_int Try.underlying3 (by kernel_rfl)) (fields_one rfl (opens_int Try.underlying3 (by kernel_rfl)))))))
theorem opens93 : Opens Try.prog 93 k93 wf93 := opens_struct (fun x : S93 => (x.f0, x.f1, x.f2, x.f3)) (fun y => ⟨y.1, y.2.1, y.2.2.1, y.2.2.2⟩) (fun _ => rfl) Try.underlying93 (by kernel_rfl) (fields_cons rfl (opens_int Try.underlying3 (by kernel_rfl)) (fields_cons rfl (opens_int Try.underlying3 (by kernel_rfl)) (fields_cons rfl (opens_string Try.underlying9 (by kernel_rfl)) (fields_one rfl (opens_slice 188 Try.underlying91 (by kernel_rfl) opens188)))))
theorem opens62 : Opens Try.prog 62 k62 wf62 := opens_struct (fun x : S62 => (x.f0, x.f1)) (fun y => ⟨y.1, y.2⟩) (fun _ => rfl) Try.underlying62 (by kernel_rfl) (fields_cons rfl (opens_slice 93 Try.underlying60 (by kernel_rfl) opens93) (fields_one rfl (opens_int Try.underlying3 (by kernel_rfl))))
set_option maxRecDepth 100000 in
theorem lifted (os : Os) (started : os.Started) (H : Type) (enc : TypeId × Value → H) :
    ReturnsInHanded {} Try.checked os 10 .any (Rows.fnExactPostSpec.pre6 enc Try.prog Try.f10 Rows.fnExactPostRow.domain false) (Rows.fnExactPostSpec.post enc Try.prog Try.f10 false true false false) := by
  refine returnsInHanded_of_change_sized (C := Try.checked) own started (by kernel_rfl) Try.func10
    (ChangeSpec.witness6 (enc := enc) (C := Try.checked) false ⟨#[], #[.agg #[.slice none 0 0, .int .i64 0, .int .i64 0], .agg #[.slice none 0 0, .int .i64 0], .agg #[.int .i64 0, .int .i64 0, .string ByteArray.empty, .slice none 0 0]], []⟩ 8 (by kernel_rfl) (by kernel_rfl) (by kernel_rfl) (by kernel_rfl)) ?_
  intro W base args ds gs before hval0 hW hcnd hsz0 _
  have hval : ∀ (j : Nat) t v, Try.f10.params[j]? = some t → args[j]? = some v → Value.okWide Try.prog W .any base t v := hval0
  have hW' := hW
  obtain ⟨p, q, hA0, hV, rfl, hfz, hnd⟩ := hW
  have hA : DataW.TrodAll enc Try.prog W 0 (fun _ => true) true Try.f10.params.toList args.toList ds p := hA0
  rw [Try.params10] at hA hval
  obtain ⟨v0, vs0, d0, ds0, p0, q0, hargs, rfl, rfl, h0, r0⟩ := trodAll_cons hA
  obtain ⟨v1, vs1, d1, ds1, p1, q1, rfl, rfl, rfl, h1, r1⟩ := trodAll_cons r0
  obtain ⟨v2, vs2, d2, ds2, p2, q2, rfl, rfl, rfl, h2, r2⟩ := trodAll_cons r1
  obtain ⟨rfl, rfl, rfl⟩ := trodAll_nil r2
  obtain rfl : args = #[v0, v1, v2] := by cases args; simp_all
  obtain ⟨rfl, rfl⟩ := trodVars_none hV
  have k0 := h0
  have lt0 : ∀ x ∈ p0, x.block < W.heap.size := by obtain ⟨m, hm⟩ := k0; exact DataW.trod_lt m _ _ _ hm
  obtain ⟨x0, ⟨cl0⟩, rfl, hw0, hk0⟩ := opened_struct Try.underlying59 opens59 (hval 0 59 v0 rfl rfl) h0
  obtain ⟨A0_0, c0_0, e0, hc0_0, hr0_0⟩ := k59_open hk0
  replace e0 : cl0 = _ := e0
  subst e0
  have k1 := h1
  have lt1 : ∀ x ∈ p1, x.block < W.heap.size := by obtain ⟨m, hm⟩ := k1; exact DataW.trod_lt m _ _ _ hm
  obtain ⟨x1, ⟨cl1⟩, rfl, hw1, hk1⟩ := opened_struct Try.underlying62 opens62 (hval 1 62 v1 rfl rfl) h1
  obtain ⟨A1_0, c1_0, e1, hc1_0, hr1_0⟩ := k62_open hk1
  replace e1 : cl1 = _ := e1
  subst e1
  have k2 := h2
  have lt2 : ∀ x ∈ p2, x.block < W.heap.size := by obtain ⟨m, hm⟩ := k2; exact DataW.trod_lt m _ _ _ hm
  obtain ⟨x2, ⟨cl2⟩, rfl, hw2, hk2⟩ := opened_struct Try.underlying93 opens93 (hval 2 93 v2 rfl rfl) h2
  obtain ⟨A2_3, c2_3, e2, hc2_3, hr2_3⟩ := k93_open hk2
  replace e2 : cl2 = _ := e2
  subst e2
  clear hA0 hval0 hsz0
  refine (laws_FnExactPost.to A0_0 c0_0 x0.f0 x0.f1 x0.f2 A1_0 c1_0 x1.f0 x1.f1 x2.f0 x2.f1 x2.f2 A2_3 c2_3 x2.f3 W hr0_0 hc0_0 hr1_0 hc1_0 hr2_3 hc2_3 hw0 hw1 hw2).mono fun e W' ⟨he, bel⟩ => ?_
  subst he
  exact ⟨_, rfl, _, _, _, [], _, [], hW', trodAll_mk1 (shut_bool Try.underlying4 _), (trodAll_cons_mk (Below.trod laidOut (by kernel_rfl) (of_decide_eq_true (by kernel_rfl)) k0 bel lt0) (trodAll_cons_mk (Below.trod laidOut (by kernel_rfl) (of_decide_eq_true (by kernel_rfl)) k1 bel lt1) (trodAll_cons_mk (Below.trod laidOut (by kernel_rfl) (of_decide_eq_true (by kernel_rfl)) k2 bel lt2) trodAll_mk0))), rfl, bel.frame _, fun h => by cases h⟩
theorem over : Rows.fnExactPostRow.holds Try.pinned (OpenSpec.ofChange Rows.fnExactPostSpec) :=
  OpenClaim.holds_of_wide 10 Try.f10 rfl rfl rfl rfl rfl rfl rfl ⟨rfl, rfl, rfl, rfl, rfl⟩ rfl rfl rfl rfl rfl (by kernel_rfl) Try.func10 (by kernel_rfl)
    (of_decide_eq_true (by kernel_rfl)) (by unfold Func.isWrapper; first | (rw [if_pos (by decide +kernel)]; kernel_rfl) | (rw [if_neg (by decide +kernel)]; exact ⟨rfl, rfl⟩))
    (fun os started H enc _ => lifted os started H enc)
theorem proved : Rows.FnExactPostSaid := over
#print axioms proved
end Go.Proofs.Ytphmnkcfjgallaa.fnExactPost
namespace Go.Proofs.Ytphmnkcfjgallaa
theorem fnExactPost_holds : Rows.FnExactPostSaid := fnExactPost.proved
end Go.Proofs.Ytphmnkcfjgallaa
