/- The program's Record answers as the reference's Record does, for all arguments, leaves its arguments, and shares no memory; the five sentinel errors are tied to the program's text.
   No condition. -/
import Derived.Test.YtjkjjfbcakbmnaaGreatDoorRows
import Derived.Test.YtjkjjfbcakbmnaaGreatDoorZRecord33
import Derived.Test.YtjkjjfbcakbmnaaGreatDoorZRecordH1
import Derived.Test.YtjkjjfbcakbmnaaGreatDoorZRecordV3
import Derived.WalkKit
import Derived.ProofKit
import Derived.OpenShut
import Derived.ShutString
import Derived.ChangeOld
import Derived.Below
import Derived.SizedLaws
import Derived.KernelRfl
import Derived.Test.YtjkjjfbcakbmnaaGreatDoorCards
import Derived.Test.YtjkjjfbcakbmnaaGreatDoorTie
import Derived.Test.YtjkjjfbcakbmnaaGreatDoorZRecord17
import Derived.LaidMore
import Derived.MakeChecks
import Derived.SevenTiedAt
import Derived.Stop.LaidErr
import Derived.LaidLaws
namespace Go.Proofs.YtjkjjfbcakbmnaaGreatDoor.fnExactRecord
open Go.ChangeShapes Go.WideShapes Go.ChangeAt Go.RowKit Go.Proofs.YtjkjjfbcakbmnaaGreatDoorW.PrintWords Go.Proofs.YtjkjjfbcakbmnaaGreatDoor.Q Go.Proofs.YtjkjjfbcakbmnaaGreatDoor.HOpen Go.Proofs.YtjkjjfbcakbmnaaGreatDoor.HOpenB
open Go.ChangeMaps (open_string shut_string)
set_option linter.unusedVariables false
theorem own : ownKnob Tryz.prog.godebug = none := by kernel_rfl
theorem laidOut : laidOutB Tryz.prog = true := by kernel_rfl
theorem opens182 : Opens Tryz.prog 182 k182 wf182 := opens_struct (fun x : S182 => (x.f0, x.f1, x.f2)) (fun y => ⟨y.1, y.2.1, y.2.2⟩) (fun _ => rfl) Tryz.underlying182 (by kernel_rfl) (fields_cons rfl (opens_string Tryz.underlying9 (by kernel_rfl)) (fields_cons rfl (opens_int Tryz.underlying3 (by kernel_rfl)) (fields_one rfl (opens_int Tryz.underlying3 (by kernel_rfl)))))
theorem opens55 : Opens Tryz.prog 55 k55 wf55 := opens_struct (fun x : S55 => (x.f0, x.f1, x.f2)) (fun y => ⟨y.1, y.2.1, y.2.2⟩) (fun _ => rfl) Tryz.underlying55 (by kernel_rfl) (fields_cons rfl (opens_slice 182 Tryz.underlying53 (by kernel_rfl) opens182) (fields_cons rfl (opens_int Tryz.underlying3 (by kernel_rfl)) (fields_one rfl (opens_int Tryz.underlying3 (by kernel_rfl)))))
theorem opens162 : Opens Tryz.prog 162 k162 wf162 := opens_struct (fun x : S162 => (x.f0, x.f1, x.f2, x.f3, x.f4)) (fun y => ⟨y.1, y.2.1, y.2.2.1, y.2.2.2.1, y.2.2.2.2⟩) (fun _ => rfl) Tryz.underlying162 (by kernel_rfl) (fields_cons rfl (opens_int Tryz.underlying3 (by kernel_rfl)) (fields_cons rfl (opens_int Tryz.underlying3 (by kernel_rfl)) (fields_cons rfl (opens_int Tryz.underlying3 (by kernel_rfl)) (fields_cons rfl (opens_int Tryz.underlying3 (by kernel_rfl)) (fields_one rfl (opens_int Tryz.underlying3 (by kernel_rfl)))))))
theorem opens64 : Opens Tryz.prog 64 k64 wf64 := opens_struct (fun x : S64 => (x.f0, x.f1, x.f2, x.f3)) (fun y => ⟨y.1, y.2.1, y.2.2.1, y.2.2.2⟩) (fun _ => rfl) Tryz.underlying64 (by kernel_rfl) (fields_cons rfl (opens_int Tryz.underlying3 (by kernel_rfl)) (fields_cons rfl (opens_int Tryz.underlying3 (by kernel_rfl)) (fields_cons rfl (opens_string Tryz.underlying9 (by kernel_rfl)) (fields_one rfl (opens_slice 162 Tryz.underlying62 (by kernel_rfl) opens162)))))
theorem opens58 : Opens Tryz.prog 58 k58 wf58 := opens_struct (fun x : S58 => (x.f0, x.f1)) (fun y => ⟨y.1, y.2⟩) (fun _ => rfl) Tryz.underlying58 (by kernel_rfl) (fields_cons rfl (opens_slice 64 Tryz.underlying56 (by kernel_rfl) opens64) (fields_one rfl (opens_int Tryz.underlying3 (by kernel_rfl))))
theorem opens160 : Opens Tryz.prog 160 k160 wf160 := opens_struct (fun x : S160 => (x.f0, x.f1)) (fun y => ⟨y.1, y.2⟩) (fun _ => rfl) Tryz.underlying160 (by kernel_rfl) (fields_cons rfl (opens_int Tryz.underlying3 (by kernel_rfl)) (fields_one rfl (opens_int Tryz.underlying3 (by kernel_rfl))))
theorem opens61 : Opens Tryz.prog 61 k61 wf61 := opens_struct (fun x : S61 => (x.f0, x.f1, x.f2, x.f3, x.f4)) (fun y => ⟨y.1, y.2.1, y.2.2.1, y.2.2.2.1, y.2.2.2.2⟩) (fun _ => rfl) Tryz.underlying61 (by kernel_rfl) (fields_cons rfl opens55 (fields_cons rfl opens58 (fields_cons rfl (opens_slice 160 Tryz.underlying59 (by kernel_rfl) opens160) (fields_cons rfl (opens_int Tryz.underlying3 (by kernel_rfl)) (fields_one rfl (opens_int Tryz.underlying3 (by kernel_rfl)))))))
theorem door_met (os : Os) (args : Array Value) : laidMetH Tryz.prog Rows.fnExactRecordRow.laid ((World.doorLaid Tryz.prog 104 os).forCall (fun _ _ => 0) ⟨#[], args, []⟩).memory :=
  laidMetH_of_parts3 (fuel := 8) (laidMet_of_run' 8 (by kernel_rfl) (by kernel_rfl)) (by kernel_rfl) (by kernel_rfl)
set_option maxRecDepth 100000 in
theorem lifted (os : Os) (started : os.Started) (H : Type) (enc : TypeId × Value → H) :
    ReturnsInHanded {} Tryz.checked os 4 .any (fun w args => (Rows.fnExactRecordSpec.pre enc Tryz.prog Tryz.f4 [] false w args ∧ laidMetH Tryz.prog Rows.fnExactRecordRow.laid w) ∧ sizedMet enc Tryz.prog Tryz.f4 (OpenSpec.ofChange Rows.fnExactRecordSpec) false w args) (Rows.fnExactRecordSpec.post enc Tryz.prog Tryz.f4 false true false false) := by
  refine returnsInHanded_of_change_and (C := Tryz.checked) (X := fun w _ => laidMetH Tryz.prog Rows.fnExactRecordRow.laid w) (fun _ _ _ hh h => h.of_heap hh) own started (by kernel_rfl) Tryz.func4
    (ChangeSpec.witness_shaped (enc := enc) (C := Tryz.checked) (os := os) (X := fun w _ => laidMetH Tryz.prog Rows.fnExactRecordRow.laid w) false (World.doorLaid Tryz.prog 104 os) #[.agg #[.slice none 0 0, .int .i64 0, .int .i64 0, .slice none 0 0, .int .i64 0, .slice none 0 0, .int .i64 0, .int .i64 0], .agg #[.int .i64 0, .int .i64 0, .string ByteArray.empty, .slice none 0 0]] 8 rfl (World.shaped_of_RefB (by kernel_rfl) (by kernel_rfl)) (by kernel_rfl) (by kernel_rfl) (by kernel_rfl) (door_met os _)) ?_
  intro W base args ds gs before hval0 hW hcnd hsz0 hL _
  have hval : ∀ (j : Nat) t v, Tryz.f4.params[j]? = some t → args[j]? = some v → Value.okWide Tryz.prog W .any base t v := hval0
  have hW' := hW
  obtain ⟨p, q, hA0, hV, rfl, hfz, hnd⟩ := hW
  have hA : DataW.TrodAll enc Tryz.prog W 0 (fun _ => true) true Tryz.f4.params.toList args.toList ds p := hA0
  rw [Tryz.params4] at hA hval
  obtain ⟨v0, vs0, d0, ds0, p0, q0, hargs, rfl, rfl, h0, r0⟩ := trodAll_cons hA
  obtain ⟨v1, vs1, d1, ds1, p1, q1, rfl, rfl, rfl, h1, r1⟩ := trodAll_cons r0
  obtain ⟨rfl, rfl, rfl⟩ := trodAll_nil r1
  obtain rfl : args = #[v0, v1] := by cases args; simp_all
  rw [MakeChecks.laidMetH_plain _ _ _ (by kernel_rfl)] at hL
  obtain ⟨SA, hSent, hv0, hv1, hv2, hv3, hv4⟩ := sents_of_laid hL
  have vr := fun (X : World) (b : Below W.heap.size W X) (sp : Nat → Bool) => vars_read5 enc (var_below lz_g0 hv0 b) (var_below lz_g1 hv1 b) (var_below lz_g2 hv2 b) (var_below lz_g3 hv3 b) (var_below lz_g4 hv4 b) trivial trivial trivial trivial trivial sp
  obtain ⟨rfl, rfl⟩ := hV.unique (vr W (Below.refl _ _) _)
  have k0 := h0
  have lt0 : ∀ x ∈ p0, x.block < W.heap.size := by obtain ⟨m, hm⟩ := k0; exact DataW.trod_lt m _ _ _ hm
  obtain ⟨x0, ⟨cl0⟩, rfl, hw0, hk0⟩ := opened_struct Tryz.underlying61 opens61 (hval 0 61 v0 rfl rfl) h0
  obtain ⟨A0_0, c0_0, A0_3, c0_3, A0_5, c0_5, e0, hc0_0, hr0_0, hc0_3, hr0_3, hc0_5, hr0_5⟩ := k61_open hk0
  replace e0 : cl0 = _ := e0
  subst e0
  have k1 := h1
  have lt1 : ∀ x ∈ p1, x.block < W.heap.size := by obtain ⟨m, hm⟩ := k1; exact DataW.trod_lt m _ _ _ hm
  obtain ⟨x1, ⟨cl1⟩, rfl, hw1, hk1⟩ := opened_struct Tryz.underlying64 opens64 (hval 1 64 v1 rfl rfl) h1
  obtain ⟨A1_3, c1_3, e1, hc1_3, hr1_3⟩ := k64_open hk1
  replace e1 : cl1 = _ := e1
  subst e1
  clear hA0 hval0 hsz0
  refine (laws_FnExactRecord.to SA A0_0 c0_0 x0.f0.f0 x0.f0.f1 x0.f0.f2 A0_3 c0_3 x0.f1.f0 x0.f1.f1 A0_5 c0_5 x0.f2 x0.f3 x0.f4 x1.f0 x1.f1 x1.f2 A1_3 c1_3 x1.f3 W hSent hr0_0 hc0_0 hr0_3 hc0_3 hr0_5 hc0_5 hr1_3 hc1_3 hw0 hw1).mono fun e W' ⟨he, bel⟩ => ?_
  subst he
  exact ⟨_, rfl, _, _, _, [], _, [.cell 0 0, .cell 1 0, .cell 2 0, .cell 3 0, .cell 4 0], hW', trodAll_mk1 (shut_bool Tryz.underlying4 _), (trodAll_cons_mk (Below.trod laidOut (by kernel_rfl) (of_decide_eq_true (by kernel_rfl)) k0 bel lt0) (trodAll_cons_mk (Below.trod laidOut (by kernel_rfl) (of_decide_eq_true (by kernel_rfl)) k1 bel lt1) trodAll_mk0)), vr W' bel _, bel.frame _, fun h => by cases h⟩
theorem over : Rows.fnExactRecordRow.holds Tryz.pinned (OpenSpec.ofChange Rows.fnExactRecordSpec) :=
  OpenClaim.holds_of_wide 4 Tryz.f4 rfl rfl rfl rfl rfl rfl rfl ⟨rfl, rfl, rfl, rfl, rfl⟩ rfl rfl rfl rfl rfl (by kernel_rfl) Tryz.func4 (by kernel_rfl)
    (of_decide_eq_true (by kernel_rfl)) (by unfold Func.isWrapper; first | (rw [if_pos (by decide +kernel)]; kernel_rfl) | (rw [if_neg (by decide +kernel)]; exact ⟨rfl, rfl⟩))
    (fun os started H enc _ => lifted os started H enc)
theorem proved : Rows.FnExactRecordSaid := over
theorem cardProved : Rows.FnExactRecordCardSaid :=
  Claim7.holds_tied_plain_at .later [] [.sentinel, .sentinel, .sentinel, .sentinel, .sentinel] true (true, "c722cbda02e403f4850410b9aa54fed5e771a3f54d0af8f059b219e727dcc9e8") true
    over (fun _ h => by cases h) (by kernel_rfl) (fun _ h => by cases h) fnExactRecord_row_tie rfl ⟨rfl, rfl⟩ (by kernel_rfl) rfl
    (fun f fn hf hfn => by
      obtain rfl : f = 4 := Option.some.inj ((show Tryz.prog.funcNamed "loop.example/g00040/laws.FnExactRecord" = some 4 by kernel_rfl).symm.trans hf) |>.symm
      obtain rfl : fn = Tryz.f4 := (Option.some.inj (Tryz.func4.symm.trans hfn)).symm
      exact ⟨by kernel_rfl, fun j t ht => by
        rw [Tryz.params4] at ht
        have hm : t ∈ [61, 64] := by simpa using Array.mem_of_getElem? ht
        have hall : ([61, 64].all fun u => !Tryz.prog.wantsStandIn u) = true := by kernel_rfl
        exact (show Tryz.prog.wantsStandIn t = false by simpa using List.all_eq_true.1 hall t hm)⟩)
    (by kernel_rfl)
#print axioms cardProved
#print axioms proved
end Go.Proofs.YtjkjjfbcakbmnaaGreatDoor.fnExactRecord
namespace Go.Proofs.YtjkjjfbcakbmnaaGreatDoor
theorem fnExactRecord_holds : Rows.FnExactRecordCardSaid := fnExactRecord.cardProved
end Go.Proofs.YtjkjjfbcakbmnaaGreatDoor
