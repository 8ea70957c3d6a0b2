/- The program's Dues answers as the reference does, for all arguments, leaves its arguments, and shares no memory.
   No condition. -/
import Derived.Test.YtcblmhpebijmaaaDoorRows
import Derived.Test.YtcblmhpebijmaaaDoorZDues23
import Derived.Test.YtcblmhpebijmaaaDoorZDuesH1
import Derived.Test.YtcblmhpebijmaaaDoorZDuesV2
import Derived.WalkKit
import Derived.ProofKit
import Derived.OpenShut
import Derived.ShutString
import Derived.ChangeOld
import Derived.Below
import Derived.SizedLaws
import Derived.KernelRfl
import Derived.Test.YtcblmhpebijmaaaDoorCards
import Derived.Test.YtcblmhpebijmaaaDoorTie
import Derived.Test.YtcblmhpebijmaaaDoorZDues18
import Derived.LaidMore
import Derived.MakeChecks
import Derived.SevenTiedAt
import Derived.Stop.LaidErr
import Derived.LaidLaws
namespace Go.Proofs.YtcblmhpebijmaaaDoor.fnExactDues
open Go.ChangeShapes Go.WideShapes Go.ChangeAt Go.RowKit Go.Proofs.YtcblmhpebijmaaaDoorW.PrintWords Go.Proofs.YtcblmhpebijmaaaDoor.Q Go.Proofs.YtcblmhpebijmaaaDoor.HOpen Go.Proofs.YtcblmhpebijmaaaDoor.HOpenB
open Go.ChangeMaps (open_string shut_string)
set_option linter.unusedVariables false
theorem own:ownKnob Tryd.prog.godebug=none:=by kernel_rfl
theorem laidOut:laidOutB Tryd.prog=true:=by kernel_rfl
theorem opens52:Opens Tryd.prog 52 k52 wf52:=opens_struct (fun x:S52=>(x.f0,x.f1,x.f2,x.f3)) (fun y=>⟨y.1,y.2.1,y.2.2.1,y.2.2.2⟩) (fun _=>rfl) Tryd.underlying52 (by kernel_rfl) (fields_cons rfl (opens_int Tryd.underlying3 (by kernel_rfl)) (fields_cons rfl (opens_int Tryd.underlying3 (by kernel_rfl)) (fields_cons rfl (opens_bool Tryd.underlying4 (by kernel_rfl)) (fields_one rfl (opens_int Tryd.underlying3 (by kernel_rfl))))))
theorem opens25:Opens Tryd.prog 25 k25 wf25:=opens_struct (fun x:S25=>(x.f0,x.f1)) (fun y=>⟨y.1,y.2⟩) (fun _=>rfl) Tryd.underlying25 (by kernel_rfl) (fields_cons rfl (opens_int Tryd.underlying3 (by kernel_rfl)) (fields_one rfl (opens_slice 3 Tryd.underlying23 (by kernel_rfl) (opens_int Tryd.underlying3 (by kernel_rfl)))))
theorem door_met (os:Os) (args:Array Value):laidMetH Tryd.prog Rows.fnExactDuesRow.laid ((World.doorLaid Tryd.prog 14 os).forCall (fun _ _=>0) ⟨#[],args,[]⟩).memory :=
 laidMetH_of_parts3 (fuel:=8) (laidMet_of_run' 8 (by kernel_rfl) (by kernel_rfl)) (by kernel_rfl) (by kernel_rfl)
set_option maxRecDepth 100000 in
theorem lifted (os:Os) (started:os.Started) (H:Type) (enc:TypeId × Value→H) :
 ReturnsInHanded {} Tryd.checked os 3 .any (fun w args=>(Rows.fnExactDuesSpec.pre enc Tryd.prog Tryd.f3 [] false w args∧laidMetH Tryd.prog Rows.fnExactDuesRow.laid w)∧sizedMet enc Tryd.prog Tryd.f3 (OpenSpec.ofChange Rows.fnExactDuesSpec) false w args) (Rows.fnExactDuesSpec.post enc Tryd.prog Tryd.f3 false true false false):=by
 refine returnsInHanded_of_change_and (C:=Tryd.checked) (X:=fun w _=>laidMetH Tryd.prog Rows.fnExactDuesRow.laid w) (fun _ _ _ hh h=>h.of_heap hh) own started (by kernel_rfl) Tryd.func3
  (ChangeSpec.witness_shaped (enc:=enc) (C:=Tryd.checked) (os:=os) (X:=fun w _=>laidMetH Tryd.prog Rows.fnExactDuesRow.laid w) false (World.doorLaid Tryd.prog 14 os) #[.slice none 0 0,.agg #[.int .i64 0,.slice none 0 0],.int .i64 0,.int .i64 0] 8 rfl (World.shaped_of_RefB (by kernel_rfl) (by kernel_rfl)) (by kernel_rfl) (by kernel_rfl) (by kernel_rfl) (door_met os _)) ?_
 intro W base args ds gs before hval0 hW hcnd hsz0 hL _;have hval:∀ (j:Nat) t v,Tryd.f3.params[j]?=some t→args[j]?=some v→Value.okWide Tryd.prog W .any base t v:=hval0;have hW':=hW;obtain ⟨p,q,hA0,hV,rfl,hfz,hnd⟩:=hW;have hA:DataW.TrodAll enc Tryd.prog W 0 (fun _=>true) true Tryd.f3.params.toList args.toList ds p:=hA0;rw [Tryd.params3] at hA hval;obtain ⟨v0,vs0,d0,ds0,p0,q0,hargs,rfl,rfl,h0,r0⟩:=trodAll_cons hA;obtain ⟨v1,vs1,d1,ds1,p1,q1,rfl,rfl,rfl,h1,r1⟩:=trodAll_cons r0;obtain ⟨v2,vs2,d2,ds2,p2,q2,rfl,rfl,rfl,h2,r2⟩:=trodAll_cons r1;obtain ⟨v3,vs3,d3,ds3,p3,q3,rfl,rfl,rfl,h3,r3⟩:=trodAll_cons r2;obtain ⟨rfl,rfl,rfl⟩:=trodAll_nil r3;obtain rfl:args=#[v0,v1,v2,v3]:=by cases args;simp_all
 rw [MakeChecks.laidMetH_plain _ _ _ (by kernel_rfl)] at hL;obtain ⟨hMon,hv0⟩:=mon_of_laid hL;have vr:=fun (X:World) (b:Below W.heap.size W X) (sp:Nat→Bool)=>vars_readMon enc (var_belowMon lz_g0 hv0 b) sp
 obtain ⟨rfl,rfl⟩:=hV.unique (vr W (Below.refl _ _) _);have k0:=h0;have lt0:∀ x∈p0,x.block < W.heap.size:=by obtain ⟨m,hm⟩:=k0;exact DataW.trod_lt m _ _ _ hm
 obtain ⟨l0,A0,c0,rfl,hc0,hr0,hn0,hw0⟩:=opened_slice Tryd.underlying22 (by kernel_rfl) opens52 (hval 0 22 v0 rfl rfl) h0;have k1:=h1;have lt1:∀ x∈p1,x.block < W.heap.size:=by obtain ⟨m,hm⟩:=k1;exact DataW.trod_lt m _ _ _ hm
 obtain ⟨x1,⟨cl1⟩,rfl,hw1,hk1⟩:=opened_struct Tryd.underlying25 opens25 (hval 1 25 v1 rfl rfl) h1;obtain ⟨A1_1,c1_1,e1,hc1_1,hr1_1⟩:=k25_open hk1;replace e1:cl1=_:=e1;subst e1;obtain ⟨a2,rfl,rfl,rfl,w2⟩:=open_int Tryd.underlying3 (hval 2 3 v2 rfl rfl) h2;obtain ⟨a3,rfl,rfl,rfl,w3⟩:=open_int Tryd.underlying3 (hval 3 3 v3 rfl rfl) h3;clear hA0 hval0 hsz0;refine (laws_FnExactDues.to A0 c0 l0 x1.f0 A1_1 c1_1 x1.f1 a2 a3 W hMon hr0 hc0 hr1_1 hc1_1 ⟨hn0,hw0⟩ hw1 w2 w3).mono fun e W' ⟨he,bel⟩=>?_
 subst he;exact ⟨_,rfl,_,_,_,[],_,(MemPlace.row ⟨0,0,none⟩ monArr.size++[]++[]),hW',trodAll_mk1 (shut_bool Tryd.underlying4 _),(trodAll_cons_mk (Below.trod laidOut (by kernel_rfl) (of_decide_eq_true (by kernel_rfl)) k0 bel lt0) (trodAll_cons_mk (Below.trod laidOut (by kernel_rfl) (of_decide_eq_true (by kernel_rfl)) k1 bel lt1) (trodAll_cons_mk (shut_int Tryd.underlying3 w2) (trodAll_cons_mk (shut_int Tryd.underlying3 w3) trodAll_mk0)))),vr W' bel _,bel.frame _,fun h=>by cases h⟩
theorem over:Rows.fnExactDuesRow.holds Tryd.pinned (OpenSpec.ofChange Rows.fnExactDuesSpec) :=
 OpenClaim.holds_of_wide 3 Tryd.f3 rfl rfl rfl rfl rfl rfl rfl ⟨rfl,rfl,rfl,rfl,rfl⟩ rfl rfl rfl rfl rfl (by kernel_rfl) Tryd.func3 (by kernel_rfl)
  (of_decide_eq_true (by kernel_rfl)) (by unfold Func.isWrapper;first | (rw [if_pos (by decide +kernel)];kernel_rfl) | (rw [if_neg (by decide +kernel)];exact ⟨rfl,rfl⟩))
  (fun os started H enc _=>lifted os started H enc)
theorem proved:Rows.FnExactDuesSaid:=over
theorem cardProved:Rows.FnExactDuesCardSaid :=
 Claim7.holds_tied_plain_at .later [] [.data] true (true,"4626316d5cc1a3c7550f3c83d6ba78fc3b698be29d0a4edd037d706f718a6d13") false
  over (fun _ h=>by cases h) (by kernel_rfl) (fun _ h=>by cases h) fnExactDues_row_tie rfl ⟨rfl,rfl⟩ (by kernel_rfl) rfl
  (fun f fn hf hfn=>by
   obtain rfl:f=3:=Option.some.inj ((show Tryd.prog.funcNamed "loop.example/g00040/laws.FnExactDues" = some 3 by kernel_rfl).symm.trans hf) |>.symm
   obtain rfl:fn=Tryd.f3:=(Option.some.inj (Tryd.func3.symm.trans hfn)).symm
   exact ⟨by kernel_rfl,fun j t ht=>by
    rw [Tryd.params3] at ht;have hm:t∈[22,25,3,3]:=by simpa using Array.mem_of_getElem? ht
    have hall:([22,25,3,3].all fun u=>!Tryd.prog.wantsStandIn u)=true:=by kernel_rfl
    exact (show Tryd.prog.wantsStandIn t=false by simpa using List.all_eq_true.1 hall t hm)⟩)
  (by kernel_rfl)
#print axioms cardProved
#print axioms proved
end Go.Proofs.YtcblmhpebijmaaaDoor.fnExactDues
namespace Go.Proofs.YtcblmhpebijmaaaDoor
theorem fnExactDues_holds:Rows.FnExactDuesCardSaid:=fnExactDues.cardProved
end Go.Proofs.YtcblmhpebijmaaaDoor
