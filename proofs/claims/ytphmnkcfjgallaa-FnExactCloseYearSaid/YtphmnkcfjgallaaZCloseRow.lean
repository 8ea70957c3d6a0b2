/- The program's CloseYear answers as the reference does, for all arguments, leaves its arguments, and shares no memory.
   No condition. -/
import Derived.Test.YtphmnkcfjgallaaRows
import Derived.Test.YtphmnkcfjgallaaZClose25
import Derived.Test.YtphmnkcfjgallaaZCloseH1
import Derived.Test.YtphmnkcfjgallaaZCloseV2
import Derived.WalkKit
import Derived.ProofKit
import Derived.OpenShut
import Derived.ShutString
import Derived.ChangeOld
import Derived.Below
import Derived.SizedLaws
import Derived.KernelRfl
namespace Go.Proofs.Ytphmnkcfjgallaa.fnExactCloseYear
open Go.ChangeShapes Go.WideShapes Go.ChangeAt Go.RowKit Go.Proofs.YtphmnkcfjgallaaW.PrintWords Go.Proofs.Ytphmnkcfjgallaa.Q Go.Proofs.Ytphmnkcfjgallaa.HOpen Go.Proofs.Ytphmnkcfjgallaa.HOpenB
open Go.ChangeMaps (open_string shut_string)
set_option linter.unusedVariables false
theorem own : ownKnob Try.prog.godebug = none := by kernel_rfl
theorem laidOut : laidOutB Try.prog = true := by kernel_rfl
theorem opens176 : Opens Try.prog 176 k176 wf176 := opens_struct (fun x : S176 => (x.f0, x.f1, x.f2)) (fun y => ⟨y.1, y.2.1, y.2.2⟩) (fun _ => rfl) Try.underlying176 (by kernel_rfl) (fields_cons rfl (opens_string Try.underlying9 (by kernel_rfl)) (fields_cons rfl (opens_int Try.underlying3 (by kernel_rfl)) (fields_one rfl (opens_int Try.underlying3 (by kernel_rfl)))))
theorem opens59 : Opens Try.prog 59 k59 wf59 := opens_struct (fun x : S59 => (x.f0, x.f1, x.f2)) (fun y => ⟨y.1, y.2.1, y.2.2⟩) (fun _ => rfl) Try.underlying59 (by kernel_rfl) (fields_cons rfl (opens_slice 176 Try.underlying57 (by kernel_rfl) opens176) (fields_cons rfl (opens_int Try.underlying3 (by kernel_rfl)) (fields_one rfl (opens_int Try.underlying3 (by kernel_rfl)))))
theorem opens188 : Opens Try.prog 188 k188 wf188 := opens_struct (fun x : S188 => (x.f0, x.f1, x.f2, x.f3, x.f4)) (fun y => ⟨y.1, y.2.1, y.2.2.1, y.2.2.2.1, y.2.2.2.2⟩) (fun _ => rfl) Try.underlying188 (by kernel_rfl) (fields_cons rfl (opens_int Try.underlying3 (by kernel_rfl)) (fields_cons rfl (opens_int Try.underlying3 (by kernel_rfl)) (fields_cons rfl (opens_int Try.underlying3 (by kernel_rfl)) (fields_cons rfl (opens_int Try.underlying3 (by kernel_rfl)) (fields_one rfl (opens_int Try.underlying3 (by kernel_rfl)))))))
theorem opens93 : Opens Try.prog 93 k93 wf93 := opens_struct (fun x : S93 => (x.f0, x.f1, x.f2, x.f3)) (fun y => ⟨y.1, y.2.1, y.2.2.1, y.2.2.2⟩) (fun _ => rfl) Try.underlying93 (by kernel_rfl) (fields_cons rfl (opens_int Try.underlying3 (by kernel_rfl)) (fields_cons rfl (opens_int Try.underlying3 (by kernel_rfl)) (fields_cons rfl (opens_string Try.underlying9 (by kernel_rfl)) (fields_one rfl (opens_slice 188 Try.underlying91 (by kernel_rfl) opens188)))))
theorem opens62 : Opens Try.prog 62 k62 wf62 := opens_struct (fun x : S62 => (x.f0, x.f1)) (fun y => ⟨y.1, y.2⟩) (fun _ => rfl) Try.underlying62 (by kernel_rfl) (fields_cons rfl (opens_slice 93 Try.underlying60 (by kernel_rfl) opens93) (fields_one rfl (opens_int Try.underlying3 (by kernel_rfl))))
theorem opens138 : Opens Try.prog 138 k138 wf138 := opens_struct (fun x : S138 => (x.f0, x.f1)) (fun y => ⟨y.1, y.2⟩) (fun _ => rfl) Try.underlying138 (by kernel_rfl) (fields_cons rfl (opens_int Try.underlying3 (by kernel_rfl)) (fields_one rfl (opens_int Try.underlying3 (by kernel_rfl))))
theorem opens65 : Opens Try.prog 65 k65 wf65 := opens_struct (fun x : S65 => (x.f0, x.f1, x.f2, x.f3, x.f4)) (fun y => ⟨y.1, y.2.1, y.2.2.1, y.2.2.2.1, y.2.2.2.2⟩) (fun _ => rfl) Try.underlying65 (by kernel_rfl) (fields_cons rfl opens59 (fields_cons rfl opens62 (fields_cons rfl (opens_slice 138 Try.underlying63 (by kernel_rfl) opens138) (fields_cons rfl (opens_int Try.underlying3 (by kernel_rfl)) (fields_one rfl (opens_int Try.underlying3 (by kernel_rfl)))))))
set_option maxRecDepth 100000 in
theorem lifted (os : Os) (started : os.Started) (H : Type) (enc : TypeId × Value → H) :
    ReturnsInHanded {} Try.checked os 12 .any (Rows.fnExactCloseYearSpec.pre6 enc Try.prog Try.f12 Rows.fnExactCloseYearRow.domain false) (Rows.fnExactCloseYearSpec.post enc Try.prog Try.f12 false true false false) := by
  refine returnsInHanded_of_change_sized (C := Try.checked) own started (by kernel_rfl) Try.func12
    (ChangeSpec.witness6 (enc := enc) (C := Try.checked) false ⟨#[], #[.agg #[.slice none 0 0, .int .i64 0, .int .i64 0, .slice none 0 0, .int .i64 0, .slice none 0 0, .int .i64 0, .int .i64 0], .int .i64 0], []⟩ 8 (by kernel_rfl) (by kernel_rfl) (by kernel_rfl) (by kernel_rfl)) ?_
  intro W base args ds gs before hval0 hW hcnd hsz0 _
  have hval : ∀ (j : Nat) t v, Try.f12.params[j]? = some t → args[j]? = some v → Value.okWide Try.prog W .any base t v := hval0
  have hW' := hW
  obtain ⟨p, q, hA0, hV, rfl, hfz, hnd⟩ := hW
  have hA : DataW.TrodAll enc Try.prog W 0 (fun _ => true) true Try.f12.params.toList args.toList ds p := hA0
  rw [Try.params12] at hA hval
  obtain ⟨v0, vs0, d0, ds0, p0, q0, hargs, rfl, rfl, h0, r0⟩ := trodAll_cons hA
  obtain ⟨v1, vs1, d1, ds1, p1, q1, rfl, rfl, rfl, h1, r1⟩ := trodAll_cons r0
  obtain ⟨rfl, rfl, rfl⟩ := trodAll_nil r1
  obtain rfl : args = #[v0, v1] := by cases args; simp_all
  obtain ⟨rfl, rfl⟩ := trodVars_none hV
  have k0 := h0
  have lt0 : ∀ x ∈ p0, x.block < W.heap.size := by obtain ⟨m, hm⟩ := k0; exact DataW.trod_lt m _ _ _ hm
  obtain ⟨x0, ⟨cl0⟩, rfl, hw0, hk0⟩ := opened_struct Try.underlying65 opens65 (hval 0 65 v0 rfl rfl) h0
  obtain ⟨A0_0, c0_0, A0_3, c0_3, A0_5, c0_5, e0, hc0_0, hr0_0, hc0_3, hr0_3, hc0_5, hr0_5⟩ := k65_open hk0
  replace e0 : cl0 = _ := e0
  subst e0
  obtain ⟨a1, rfl, rfl, rfl, w1⟩ := open_int Try.underlying3 (hval 1 3 v1 rfl rfl) h1
  clear hA0 hval0 hsz0
  refine (laws_FnExactCloseYear.to A0_0 c0_0 x0.f0.f0 x0.f0.f1 x0.f0.f2 A0_3 c0_3 x0.f1.f0 x0.f1.f1 A0_5 c0_5 x0.f2 x0.f3 x0.f4 a1 W hr0_0 hc0_0 hr0_3 hc0_3 hr0_5 hc0_5 hw0 w1).mono fun e W' ⟨he, bel⟩ => ?_
  subst he
  exact ⟨_, rfl, _, _, _, [], _, [], hW', trodAll_mk1 (shut_bool Try.underlying4 _), (trodAll_cons_mk (Below.trod laidOut (by kernel_rfl) (of_decide_eq_true (by kernel_rfl)) k0 bel lt0) (trodAll_cons_mk (shut_int Try.underlying3 w1) trodAll_mk0)), rfl, bel.frame _, fun h => by cases h⟩
theorem over : Rows.fnExactCloseYearRow.holds Try.pinned (OpenSpec.ofChange Rows.fnExactCloseYearSpec) :=
  OpenClaim.holds_of_wide 12 Try.f12 rfl rfl rfl rfl rfl rfl rfl ⟨rfl, rfl, rfl, rfl, rfl⟩ rfl rfl rfl rfl rfl (by kernel_rfl) Try.func12 (by kernel_rfl)
    (of_decide_eq_true (by kernel_rfl)) (by unfold Func.isWrapper; first | (rw [if_pos (by decide +kernel)]; kernel_rfl) | (rw [if_neg (by decide +kernel)]; exact ⟨rfl, rfl⟩))
    (fun os started H enc _ => lifted os started H enc)
theorem proved : Rows.FnExactCloseYearSaid := over
#print axioms proved
end Go.Proofs.Ytphmnkcfjgallaa.fnExactCloseYear
namespace Go.Proofs.Ytphmnkcfjgallaa
theorem fnExactCloseYear_holds : Rows.FnExactCloseYearSaid := fnExactCloseYear.proved
end Go.Proofs.Ytphmnkcfjgallaa
