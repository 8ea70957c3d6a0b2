/- The program's dBooks answers as the reference does, for all arguments, leaves its arguments, and shares no memory.
   No condition. -/
import Derived.Test.YtnknanppoenigaaGreatDoorRows
import Derived.Test.YtnknanppoenigaaGreatDoorZSpreadBooks17
import Derived.Test.YtnknanppoenigaaGreatDoorZSpreadBooksH1
import Derived.Test.YtnknanppoenigaaGreatDoorZSpreadBooksV3
import Derived.WalkKit
import Derived.ProofKit
import Derived.OpenShut
import Derived.ShutString
import Derived.ChangeOld
import Derived.Below
import Derived.SizedLaws
import Derived.KernelRfl
import Derived.Test.YtnknanppoenigaaGreatDoorCards
import Derived.Test.YtnknanppoenigaaGreatDoorTie
import Derived.Test.YtnknanppoenigaaGreatDoorZSpreadBooks5
import Derived.LaidMore
import Derived.MakeChecks
import Derived.SevenTiedAt
import Derived.Stop.LaidErr
import Derived.LaidLaws
namespace Go.Proofs.YtnknanppoenigaaGreatDoor.fnSpreadBooks
open Go.ChangeShapes Go.WideShapes Go.ChangeAt Go.RowKit Go.Proofs.YtnknanppoenigaaGreatDoorW.PrintWords Go.Proofs.YtnknanppoenigaaGreatDoor.Q Go.Proofs.YtnknanppoenigaaGreatDoor.HOpen Go.Proofs.YtnknanppoenigaaGreatDoor.HOpenB
open Go.ChangeMaps (open_string shut_string)
set_option linter.unusedVariables false
theorem own:ownKnob Tryz.prog.godebug=none:=by kernel_rfl
theorem laidOut:laidOutB Tryz.prog=true:=by kernel_rfl
theorem door_met (os:Os) (args:Array Value):laidMetH Tryz.prog Rows.fnSpreadBooksRow.laid ((World.doorLaid Tryz.prog 104 os).forCall (fun _ _=>0) ⟨#[],args,[]⟩).memory :=
 laidMetH_of_parts3 (fuel:=8) (laidMet_of_run' 8 (by kernel_rfl) (by kernel_rfl)) (by kernel_rfl) (by kernel_rfl)
set_option maxRecDepth 100000 in
theorem lifted (os:Os) (started:os.Started) (H:Type) (enc:TypeId × Value→H) :
 ReturnsInHanded {} Tryz.checked os 3 .any (fun w args=>(Rows.fnSpreadBooksSpec.pre enc Tryz.prog Tryz.f3 [] false w args∧laidMetH Tryz.prog Rows.fnSpreadBooksRow.laid w)∧sizedMet enc Tryz.prog Tryz.f3 (OpenSpec.ofChange Rows.fnSpreadBooksSpec) false w args) (Rows.fnSpreadBooksSpec.post enc Tryz.prog Tryz.f3 false true false false):=by
 refine returnsInHanded_of_change_and (C:=Tryz.checked) (X:=fun w _=>laidMetH Tryz.prog Rows.fnSpreadBooksRow.laid w) (fun _ _ _ hh h=>h.of_heap hh) own started (by kernel_rfl) Tryz.func3
  (ChangeSpec.witness_shaped (enc:=enc) (C:=Tryz.checked) (os:=os) (X:=fun w _=>laidMetH Tryz.prog Rows.fnSpreadBooksRow.laid w) false (World.doorLaid Tryz.prog 104 os) #[.slice none 0 0] 8 rfl (World.shaped_of_RefB (by kernel_rfl) (by kernel_rfl)) (by kernel_rfl) (by kernel_rfl) (by kernel_rfl) (door_met os _)) ?_
 intro W base args ds gs before hval0 hW hcnd hsz0 hL _;have hval:∀ (j:Nat) t v,Tryz.f3.params[j]?=some t→args[j]?=some v→Value.okWide Tryz.prog W .any base t v:=hval0;have hW':=hW;obtain ⟨p,q,hA0,hV,rfl,hfz,hnd⟩:=hW;have hA:DataW.TrodAll enc Tryz.prog W 0 (fun _=>true) true Tryz.f3.params.toList args.toList ds p:=hA0;rw [Tryz.params3] at hA hval;obtain ⟨v0,vs0,d0,ds0,p0,q0,hargs,rfl,rfl,h0,r0⟩:=trodAll_cons hA;obtain ⟨rfl,rfl,rfl⟩:=trodAll_nil r0;obtain rfl:args=#[v0]:=by cases args;simp_all
 rw [MakeChecks.laidMetH_plain _ _ _ (by kernel_rfl)] at hL;obtain ⟨SA,hSent,hv0,hv1,hv2,hv3,hv4⟩:=sents_of_laid hL;have vr:=fun (X:World) (b:Below W.heap.size W X) (sp:Nat→Bool)=>vars_read5 enc (var_below lz_g0 hv0 b) (var_below lz_g1 hv1 b) (var_below lz_g2 hv2 b) (var_below lz_g3 hv3 b) (var_below lz_g4 hv4 b) trivial trivial trivial trivial trivial sp
 obtain ⟨rfl,rfl⟩:=hV.unique (vr W (Below.refl _ _) _);have k0:=h0;have lt0:∀ x∈p0,x.block < W.heap.size:=by obtain ⟨m,hm⟩:=k0;exact DataW.trod_lt m _ _ _ hm
 obtain ⟨l0,A0,c0,rfl,hc0,hr0,hn0,hw0⟩:=opened_slice Tryz.underlying22 (by kernel_rfl) (opens_int Tryz.underlying5 (by kernel_rfl)) (hval 0 22 v0 rfl rfl) h0;clear hA0 hval0 hsz0;refine (laws_FnSpreadBooks.to SA A0 c0 l0 W hSent hr0 hc0 ⟨hn0,hw0⟩).mono fun e W' ⟨he,bel⟩=>?_
 subst he;exact ⟨_,rfl,_,_,_,[],_,[.cell 0 0,.cell 1 0,.cell 2 0,.cell 3 0,.cell 4 0],hW',trodAll_mk1 (shut_bool Tryz.underlying4 _),(trodAll_cons_mk (Below.trod laidOut (by kernel_rfl) (of_decide_eq_true (by kernel_rfl)) k0 bel lt0) trodAll_mk0),vr W' bel _,bel.frame _,fun h=>by cases h⟩
theorem over:Rows.fnSpreadBooksRow.holds Tryz.pinned (OpenSpec.ofChange Rows.fnSpreadBooksSpec) :=
 OpenClaim.holds_of_wide 3 Tryz.f3 rfl rfl rfl rfl rfl rfl rfl ⟨rfl,rfl,rfl,rfl,rfl⟩ rfl rfl rfl rfl rfl (by kernel_rfl) Tryz.func3 (by kernel_rfl)
  (of_decide_eq_true (by kernel_rfl)) (by unfold Func.isWrapper;first | (rw [if_pos (by decide +kernel)];kernel_rfl) | (rw [if_neg (by decide +kernel)];exact ⟨rfl,rfl⟩))
  (fun os started H enc _=>lifted os started H enc)
theorem proved:Rows.FnSpreadBooksSaid:=over
theorem cardProved:Rows.FnSpreadBooksCardSaid :=
 Claim7.holds_tied_plain_at .later [] [.sentinel,.sentinel,.sentinel,.sentinel,.sentinel] true (true,"b9274b937706b82b57a8da1eded2f848140fd59a0c820f63e7a51acad8f16bb3") true
  over (fun _ h=>by cases h) (by kernel_rfl) (fun _ h=>by cases h) fnSpreadBooks_row_tie rfl ⟨rfl,rfl⟩ (by kernel_rfl) rfl
  (fun f fn hf hfn=>by
   obtain rfl:f=3:=Option.some.inj ((show Tryz.prog.funcNamed "loop.example/g00040/laws.FnSpreadBooks" = some 3 by kernel_rfl).symm.trans hf) |>.symm
   obtain rfl:fn=Tryz.f3:=(Option.some.inj (Tryz.func3.symm.trans hfn)).symm
   exact ⟨by kernel_rfl,fun j t ht=>by
    rw [Tryz.params3] at ht;have hm:t∈[22]:=by simpa using Array.mem_of_getElem? ht
    have hall:([22].all fun u=>!Tryz.prog.wantsStandIn u)=true:=by kernel_rfl
    exact (show Tryz.prog.wantsStandIn t=false by simpa using List.all_eq_true.1 hall t hm)⟩)
  (by kernel_rfl)
#print axioms cardProved
#print axioms proved
end Go.Proofs.YtnknanppoenigaaGreatDoor.fnSpreadBooks
namespace Go.Proofs.YtnknanppoenigaaGreatDoor
theorem fnSpreadBooks_holds:Rows.FnSpreadBooksCardSaid:=fnSpreadBooks.cardProved
end Go.Proofs.YtnknanppoenigaaGreatDoor
