/- Parts of the proof: what functions of the program and of the reference answer.
   No condition. -/
import Derived.Test.YtcblmhpebijmaaaDoorZDues1
import Derived.Test.YtcblmhpebijmaaaDoorZDues6
import Derived.Test.YtcblmhpebijmaaaDoorZDues13
import Derived.Test.YtcblmhpebijmaaaDoorZDues17
import Derived.RangeFuncNested
import Derived.RangeFuncBound
import Derived.RangeFuncCalls
import Derived.RangeFuncLeaves
import Derived.RangeFuncFrom
import Derived.Shelf.Abstract
import Derived.Shelf.RegionOpen
import Derived.WalkKit
import Derived.OwnWalkIn
import Derived.TacticsInMore
import Derived.LoopNIn
import Derived.LoopIn
import Derived.Test.YtcblmhpebijmaaaDoorZDues4
import Derived.Stop.LaidErr
import Derived.MakeChecks
import Derived.LaidMore
import Derived.OpenShut
import Derived.Test.YtcblmhpebijmaaaDoorZDues8
namespace Go.Proofs.YtcblmhpebijmaaaDoor.Q
open Go.RowKit Go.Proofs.YtcblmhpebijmaaaDoorW.PrintWords Go.Proofs.YtcblmhpebijmaaaDoorW.PrintLast Go.Proofs.YtcblmhpebijmaaaDoorW.PrintMore
set_option linter.unusedVariables false
set_option linter.unusedSimpArgs false
open Go.Shelf
attribute [local go_sem] Oper.semAt_some
theorem grown_of_below {w w':World} (h:Below w.heap.size w w'):w.grownBy w' none:=⟨h.os,h.tape,h.output,h.size,fun k hk _=>h.block k hk⟩
theorem wkGo_end {off:Int} {hs:List Int} {m:Nat} {d:Int} (h:¬ d≤40000):wkGo off hs m d = -1:=by
 cases m with
 | zero=>rfl
 | succ m=>rw [wkGo,if_neg h]
theorem wkGo_hit {off:Int} {hs:List Int} {m:Nat} {d:Int} (h:d≤40000) (hw:workB off hs d=true):wkGo off hs (m+1) d=d:=by rw [wkGo,if_pos h,if_pos hw]
theorem wkGo_next {off:Int} {hs:List Int} {m:Nat} {d:Int} (h:d≤40000) (hw:workB off hs d=false):wkGo off hs (m+1) d=wkGo off hs m (d+1):=by rw [wkGo,if_pos h,if_neg (by rw [hw];decide)]
set_option maxRecDepth 100000 in
set_option maxHeartbeats 2000000 in
theorem workdays1_in (n l:Nat) (hn:1≤n) (Bf Bs Bc:Nat) (off fr:Int) (A:Option Addr) (c:Nat) (hs:List Int) (w:World) (hcal:calB off hs=true) (hfr:0≤fr∧fr≤40000)
 (hf:w.cell? ⟨Bf,0,none⟩=some (.int .i64 fr)) (hst:w.cell? ⟨Bs,0,none⟩=some (.int .i64 1)) (hc0:w.cell? ⟨Bc,0,none⟩=some (.int .i64 off)) (hc1:w.cell? ⟨Bc,1,none⟩=some (.slice A hs.length c))
 (hr:Kd.C (Kd.int .i64) w A hs.length hs) (hcc:hs.length≤c) (J Jx:List Int→World→Prop) (W0:World) (hW0:Below w.heap.size w W0) (hJ:AbidesFrom W0.heap.size J)
 (hY:∀ pre x W,J pre W→pre.length < 50000→YieldAt Fence.wide (n - 1) Tryd.prog l #[.int .i64 x] W fun e W' =>
  (e = .returned (.bool true)∧J (pre++[x]) W'∧Below w.heap.size W W')∨(e = .returned (.bool false)∧Jx (pre++[x]) W')) (h0:J [] W0) :
 CallsIn Fence.wide n Tryd.prog 57 #[.func (.yield l) #[] #[],.pointer (some ⟨Bf,0,none⟩),.pointer (some ⟨Bs,0,none⟩),.pointer (some ⟨Bc,0,none⟩)] W0 fun e W'=>(∃ v,e = .returned v) ∧
  ((∃ ys,(ys=[]→wkGo off hs 40002 fr = -1)∧J ys W')∨(∃ pre,(∀ x,pre=[x]→wkGo off hs 40002 fr=x)∧Jx pre W')):=by
 have hf0:=(hW0.cell (World.block_lt_of_cell? w _ hf)).trans hf;refine callsIn_of_wp Tryd.func57 rfl trivial ?_ rfl;simp only [Tryd.ntmps57,List.size_toArray,List.length_cons,List.length_nil,Nat.reduceAdd,Nat.reduceSub,Array.replicate_succ,Array.replicate_zero,List.push_toArray,List.append_toArray,List.nil_append,List.cons_append]
 gi_wp2
 gi_loopw [5] (fun p wr=>∃ (pre:List Int) (d:Int) (m:Nat),p = .int .i64 d∧0≤d∧d≤40001∧(pre.length:Int)+fr≤d∧40002≤d+m∧Aside0 (pre=[]→wkGo off hs 40002 fr=wkGo off hs m d)∧Aside0 (Below w.heap.size w wr)∧Aside0 (J pre wr))
  (fun p _=>(40001 - intOf p).toNat)
 case atStart=>exact ⟨[],fr,40002,rfl,hfr.1,by omega,by simp,by omega,⟨fun _=>rfl⟩,⟨hW0⟩,⟨h0⟩⟩
 case round =>
  obtain ⟨pre,d,m,rfl,hd0,hd1,hpl,hm,HG,HB,HJ⟩:=hrel;have e0:=(HB.out.cell (World.block_lt_of_cell? w _ hst)).trans hst;have e1:=(HB.out.cell (World.block_lt_of_cell? w _ hc0)).trans hc0;have e2:=(HB.out.cell (World.block_lt_of_cell? w _ hc1)).trans hc1;have HC:=Aside0.mk (Kd.C_below hr HB.out);by_cases hd:d≤40000
  ·cases hw:workB off hs d with
   | true =>
    gi_wp2_with fail
    refine ⟨trivial,(callsIn_wide.2 (impl_isDay.to _ _)).mono ?_⟩;rintro e w2 ⟨rfl,hw2⟩;subst hw2;rw [inB_of ⟨hd0,hd⟩]
    gi_wp2_with fail
    refine ⟨trivial,(callsIn_wide.2 (impl_works.calls 501 off A c hs d true _ HC.out hcc (by rw [works_is off d hs hcal 501 (by omega),hw]))).mono ?_⟩;rintro e w3 ⟨rfl,hb3⟩;have HB3:=Aside0.mk (below_step HB.out hb3);have HJ3:=Aside0.mk (hJ pre _ w3 none HJ.out (grown_of_below hb3) (fun r e=>by cases e));have q0:=(HB3.out.cell (World.block_lt_of_cell? w _ hst)).trans hst;obtain ⟨fn,tmps,assign,body,hy,hR⟩:=hY pre d w3 HJ3.out (by omega)
    gi_wp2_with fail
    refine hR.mono ?_;rintro e W3 (⟨rfl,hJ4,hk4⟩ | ⟨rfl,hJx⟩)
    ·have HB4:=Aside0.mk (HB3.out.trans hk4);have q1:=(HB4.out.cell (World.block_lt_of_cell? w _ hst)).trans hst
     gi_wp2_with fail
     go_roundw
     case rel=>exact ⟨pre++[d],d+1,m,rfl,by omega,by omega,by rw [List.length_append];simp;omega,by omega,⟨fun q=>by simp at q⟩,HB4,⟨hJ4⟩⟩
     case measure=>simp [intOf];omega
    ·gi_wp2_with fail
     refine bodyPost_ret (results_none rfl _ _ _) rfl ?_;refine ⟨⟨_,rfl⟩,.inr ⟨pre++[d],fun x q=>?_,hJx⟩⟩;cases pre with
     | cons y ys=>simp at q
     | nil =>
      obtain rfl:d=x:=by simpa using q
      obtain ⟨m,rfl⟩:∃ j,m=j+1:=⟨m - 1,by omega⟩;rw [HG.out rfl,wkGo_hit hd hw]
   | false =>
    gi_wp2_with fail
    refine ⟨trivial,(callsIn_wide.2 (impl_isDay.to _ _)).mono ?_⟩;rintro e w2 ⟨rfl,hw2⟩;subst hw2;rw [inB_of ⟨hd0,hd⟩]
    gi_wp2_with fail
    refine ⟨trivial,(callsIn_wide.2 (impl_works.calls 501 off A c hs d false _ HC.out hcc (by rw [works_is off d hs hcal 501 (by omega),hw]))).mono ?_⟩;rintro e w3 ⟨rfl,hb3⟩;have HB3:=Aside0.mk (below_step HB.out hb3);have HJ3:=Aside0.mk (hJ pre _ w3 none HJ.out (grown_of_below hb3) (fun r e=>by cases e));have q0:=(HB3.out.cell (World.block_lt_of_cell? w _ hst)).trans hst
    gi_wp2_with fail
    refine ⟨fun _ h=>(by cases h),?_⟩
    gi_wp2_with fail
    go_roundw
    case rel =>
     obtain ⟨m,rfl⟩:∃ j,m=j+1:=⟨m - 1,by omega⟩;exact ⟨pre,d+1,m,rfl,by omega,by omega,by omega,by omega,⟨fun q=>by rw [HG.out q,wkGo_next hd hw]⟩,HB3,HJ3⟩
    case measure=>simp [intOf];omega
  ·gi_wp2_with fail
   refine ⟨trivial,(callsIn_wide.2 (impl_isDay.to _ _)).mono ?_⟩;rintro e w2 ⟨rfl,hw2⟩;subst hw2;rw [inB_false.2 (fun q=>by omega)]
   gi_wp2_with fail
   go_end0
   exact ⟨⟨_,rfl⟩,.inl ⟨pre,fun q=>by rw [HG.out q,wkGo_end (by omega)],HJ.out⟩⟩
theorem workdays_stops (n:Nat) (hn:1≤n) (Bf Bs Bc:Nat) (off fr:Int) (A:Option Addr) (c:Nat) (hs:List Int) (w:World) (hcal:calB off hs=true) (hfr:0≤fr∧fr≤40000)
 (hf:w.cell? ⟨Bf,0,none⟩=some (.int .i64 fr)) (hst:w.cell? ⟨Bs,0,none⟩=some (.int .i64 1)) (hc0:w.cell? ⟨Bc,0,none⟩=some (.int .i64 off)) (hc1:w.cell? ⟨Bc,1,none⟩=some (.slice A hs.length c))
 (hr:Kd.C (Kd.int .i64) w A hs.length hs) (hcc:hs.length≤c) :
 SeqStopsK Fence.wide n Tryd.prog 57 #[.pointer (some ⟨Bf,0,none⟩),.pointer (some ⟨Bs,0,none⟩),.pointer (some ⟨Bc,0,none⟩)] (fun x:Int=>#[Value.int .i64 x]) (Below w.heap.size)
  (fun ys=>ys=[]→wkGo off hs 40002 fr = -1) (fun pre=>∀ x,pre=[x]→wkGo off hs 40002 fr=x) 50000 w:=fun l J Jx W hW hJ _ hY h0 =>
 workdays1_in n l hn Bf Bs Bc off fr A c hs w hcal hfr hf hst hc0 hc1 hr hcc J Jx W hW hJ hY h0
end Go.Proofs.YtcblmhpebijmaaaDoor.Q
namespace Go.Proofs.YtcblmhpebijmaaaDoor.Q
open Go.RowKit Go.Proofs.YtcblmhpebijmaaaDoorW.PrintWords Go.Proofs.YtcblmhpebijmaaaDoorW.PrintLast Go.Proofs.YtcblmhpebijmaaaDoorW.PrintMore
set_option linter.unusedVariables false
set_option linter.unusedSimpArgs false
theorem Mon.alloc {w:World} (h:Mon w) (o:Obj):Mon (w.alloc o):=h.below ((Below.refl _ w).alloc (Nat.le_refl _) o)
theorem dayV_no {y m d:Int} (h:¬ (2000≤y∧y≤2200∧1≤m∧m≤12∧1≤d∧d≤mLen y m)):dayV y m d = -1:=by unfold dayV;rw [if_neg h]
theorem below_box (w:World) (o:Obj) (n:Nat):Below w.heap.size w ((w.alloc o).drewN n):=y00 ((Below.refl w.heap.size w).alloc (Nat.le_refl _) o) n
theorem quiet_days {y m:Int} {w:World} {n:Nat} (hM:Mon w) (h0:1≤m) (h1:m≤12):Calls Tryd.prog 49 #[.int .i64 y,.int .i64 m] (w.drewN n) fun e w''=>e = .returned (.int .i64 (mLen y m))∧∃ k,w''=w.drewN k :=
 Calls.quiet_of ((impl_daysOf.to y m _ (hM.drewN n) h0 h1).mono (fun _ _ h=>⟨h.1,h.2.out⟩))
theorem quiet_between {a b c:Int} {r:Bool} (h:inB a b c=r) {w:World} {n:Nat}:Calls Tryd.prog 26 #[.int .i64 a,.int .i64 b,.int .i64 c] (w.drewN n) fun e w''=>e = .returned (.bool r)∧∃ k,w''=w.drewN k:=by
 subst h;exact Calls.quiet_of_same (impl_between.to a b c _)
set_option maxHeartbeats 1000000 in
set_option maxRecDepth 100000 in
theorem impl_DayOf.to (y m d:Int) (w:World) (hM:Mon w):Calls Tryd.prog 50 #[.agg #[.int .i64 y,.int .i64 m,.int .i64 d]] w fun e w'=>e = .returned (.int .i64 (dayV y m d))∧Below w.heap.size w w':=by
 have hM1:=Aside0.mk (hM.alloc (.cells #[.int .i64 y,.int .i64 m,.int .i64 d] 59 (0,0)));by_cases c1:2000≤y∧y≤2200
 ·by_cases c2:1≤m∧m≤12
  ·by_cases c3:1≤d∧d≤mLen y m
   ·have e1:=Aside0.mk (inB_of c1);have e2:=Aside0.mk (inB_of c2);have e3:=Aside0.mk (inB_of c3);have hL:=mLen_b y m
    go_enter Tryd.func50,Tryd.ntmps50
    go_wp2_with fail
    go_quiet (first | (go_at_call 26;with_reducible first | exact quiet_between e1.out | exact quiet_between e2.out | exact quiet_between e3.out) | (go_at_call 49;with_reducible exact quiet_days hM1.out c2.1 c2.2))
    go_wp2_with fail
    go_loopw [3,4] (fun v u wr=>∃ (c:Nat),v = .int .i64 (ySum c+(d - 1))∧u = .int .i64 (2000+c)∧2000+(c:Int)≤y∧Aside0 (∃ q,wr=(w.alloc (.cells #[.int .i64 y,.int .i64 m,.int .i64 d] 59 (0,0))).drewN q)) (fun _ u _=>(y - intOf u).toNat)
    case atStart=>exact ⟨0,by simp [ySum],rfl,by omega,⟨_,rfl⟩⟩
    case round =>
     obtain ⟨c,rfl,rfl,hc,⟨q,rfl⟩⟩:=hrel;have hyb:=ySum_b c;by_cases hlt:2000+(c:Int) < y
     ·go_wp2_with fail
      refine (impl_longYear.calls _ (leapB (2000+c)) _ (longYear_is _)).mono ?_;rintro e w2 ⟨rfl,⟨n2,rfl⟩⟩;have es:ySum (c+1)=ySum c+yLen (2000+c):=rfl;unfold yLen at es;cases hl:leapB (2000+c) with
      | true =>
       rw [hl,if_pos rfl] at es
       go_wp2_with fail
       go_roundw
       case rel=>exact ⟨c+1,congrArg _ (by omega),congrArg _ (by omega),by omega,⟨_,rfl⟩⟩
       case measure=>simp [intOf];omega
      | false =>
       rw [hl,if_neg (by decide)] at es
       go_wp2_with fail
       go_roundw
       case rel=>exact ⟨c+1,congrArg _ (by omega),congrArg _ (by omega),by omega,⟨_,rfl⟩⟩
       case measure=>simp [intOf];omega
     ·obtain rfl:c=(y - 2000).toNat:=by omega
      go_wp2_with fail
      go_loopw [3,5] (fun v u wr=>∃ (b:Nat),v = .int .i64 (ySum (y - 2000).toNat+(d - 1)+mSum y b)∧u = .int .i64 (b+1)∧(b:Int)+1≤m∧Aside0 (∃ q,wr=(w.alloc (.cells #[.int .i64 y,.int .i64 m,.int .i64 d] 59 (0,0))).drewN q)) (fun _ u _=>(m - intOf u).toNat)
      case atStart=>exact ⟨0,by simp [mSum],rfl,by omega,⟨_,rfl⟩⟩
      case round =>
       obtain ⟨b,rfl,rfl,hb,⟨q2,rfl⟩⟩:=hrel;have hmb:=mSum_b y b;have hL2:=mLen_b y (b+1);by_cases hlt2:(b:Int)+1 < m
       ·go_wp2_with fail
        refine (impl_daysOf.to y (b+1) _ (hM1.out.drewN _) (by omega) (by omega)).mono ?_;rintro e w2 ⟨rfl,⟨n2,rfl⟩⟩
        go_wp2_with fail
        go_roundw
        case rel=>exact ⟨b+1,congrArg _ (by simp only [mSum];omega),congrArg _ (by omega),by omega,⟨_,rfl⟩⟩
        case measure=>simp [intOf];omega
       ·have eb:(m - 1).toNat=b:=by omega
        go_wp2_with fail
        refine (impl_isDay.to _ _).mono ?_;rintro e w2 ⟨rfl,rfl⟩
        have hv:dayV y m d=if ySum (y - 2000).toNat+(d - 1)+mSum y b≤40000 then ySum (y - 2000).toNat+(d - 1)+mSum y b else -1:=by
         unfold dayV;rw [if_pos (by omega),eb,show ySum (y - 2000).toNat+mSum y b+(d - 1)=ySum (y - 2000).toNat+(d - 1)+mSum y b by omega]
        by_cases hn:ySum (y - 2000).toNat+(d - 1)+mSum y b≤40000
        ·rw [if_pos hn] at hv;rw [inB_of ⟨by omega,hn⟩]
         go_wp2_with fail
         go_ret
         exact ⟨by rw [hv];rfl,below_box _ _ _⟩
        ·rw [if_neg hn] at hv;rw [inB_false.2 (fun h=>hn h.2)]
         go_wp2_with fail
         go_ret
         exact ⟨by rw [hv];rfl,below_box _ _ _⟩
   ·have e1:=Aside0.mk (inB_of c1);have e2:=Aside0.mk (inB_of c2);have e3:=Aside0.mk (inB_false.2 c3);rw [dayV_no (by omega)]
    go_enter Tryd.func50,Tryd.ntmps50
    go_wp2_with fail
    go_quiet (first | (go_at_call 26;with_reducible first | exact quiet_between e1.out | exact quiet_between e2.out | exact quiet_between e3.out) | (go_at_call 49;with_reducible exact quiet_days hM1.out c2.1 c2.2))
    go_wp2_with fail
    go_ret
    exact ⟨rfl,below_box _ _ _⟩
  ·have e1:=Aside0.mk (inB_of c1);have e2:=Aside0.mk (inB_false.2 c2);rw [dayV_no (by omega)]
   go_enter Tryd.func50,Tryd.ntmps50
   go_wp2_with fail
   go_quiet ((go_at_call 26;with_reducible first | exact quiet_between e1.out | exact quiet_between e2.out))
   go_wp2_with fail
   go_ret
   exact ⟨rfl,below_box _ _ _⟩
 ·have e1:=Aside0.mk (inB_false.2 c1);rw [dayV_no (by omega)]
  go_enter Tryd.func50,Tryd.ntmps50
  go_wp2_with fail
  go_quiet ((go_at_call 26;with_reducible exact quiet_between e1.out))
  go_wp2_with fail
  go_ret
  exact ⟨rfl,below_box _ _ _⟩
theorem ints_of_array {H:Type} {enc:TypeId × Value→H} {P:Program} {w:World} {base:Nat} {sp:Nat→Bool} {held:Bool} {fuel:Nat} {t e:TypeId} {n:Nat} {k:IntKind} {cs:List Value} {zs:List Int} {p:List MemPlace} (ht:P.underlying t=some (.array n e))
 (hu:P.underlying e=some (.int k)) (hc:P.cellsOf e=1) (hct:P.cellsOf t=n)
 (h:DataW.trod enc P w base sp held fuel t cs=some (.agg (zs.map fun z=>.lit (.int k z)),p)):cs=zs.map fun z=>Value.int k z:=by
 obtain ⟨xs,m,rfl,hx,hl,hxl,hall⟩:=DataW.trod_array ht h
 have hxs:xs.map (·.1)=zs.map fun z=>(DataW.lit (.int k z):DataW H):=by
  have:=congrArg Prod.fst hx
  simpa using this.symm
 have hzl:zs.length=n:=by
  have:=congrArg List.length hxs;simp at this
  omega
 apply List.ext_getElem?;intro i;by_cases hi:i < n
 ·have h1:=hall i hi;obtain ⟨b,hb⟩:∃ b,xs[i]?=some b:=⟨xs[i]'(by omega),List.getElem?_eq_getElem (by omega)⟩;rw [hb,hc,Nat.mul_one] at h1;obtain ⟨z,hcz,rfl,_⟩:=DataW.trod_int hu h1
  have h2:cs[i]?=some (.int k z):=by
   have:=congrArg (·[0]?) hcz
   simpa [List.getElem?_take,List.getElem?_drop] using this
  have h3:(xs.map (·.1))[i]?=some (DataW.lit (.int k z):DataW H):=by simp [hb]
  rw [hxs] at h3;simp only [List.getElem?_map,Option.map_eq_some_iff,DataW.lit.injEq,Lit.int.injEq,true_and] at h3;obtain ⟨z',hz',rfl⟩:=h3;simp [h2,hz']
 ·rw [List.getElem?_eq_none (by omega),List.getElem?_eq_none (by simp;omega)]
theorem lz_g0:Tryd.prog.globalNamed "loop.example/g00040/impl.monthDays" = some 0:=by kernel_rfl
theorem lz_t0:(Tryd.prog.globals[0]?).map (·.type)=some 73:=by kernel_rfl
theorem lz_c73:Tryd.prog.cellsOf 73=13:=by kernel_rfl
theorem lz_c3:Tryd.prog.cellsOf 3=1:=by kernel_rfl
def monZs:List Int:=[0,31,28,31,30,31,30,31,31,30,31,30,31]
def monD {H:Type}:DataW H:=.agg (monZs.map fun z=>.lit (.int .i64 z))
theorem mon_of_laid {W:World} (h:laidMet Tryd.prog [("loop.example/g00040/impl.monthDays",monD)] W):Mon W∧W.var? Tryd.prog "loop.example/g00040/impl.monthDays" = some monArr:=by
 obtain ⟨ps,⟨g,t,cs,f,p,q,hg,ht,hv,hd,e1,e0⟩,hnd,hrows⟩:=h;obtain rfl:=Option.some.inj (lz_g0.symm.trans hg);obtain rfl:=Option.some.inj (lz_t0.symm.trans ht);have hcs:=ints_of_array Tryd.underlying73 Tryd.underlying3 lz_c3 lz_c73 hd
 have hc:cs=monArr:=by
  cases cs;simp only at hcs;rw [hcs];rfl
 subst hc;refine ⟨?_,hv⟩;unfold World.var? at hv;rw [lz_g0] at hv;simp only [Option.bind_some] at hv;cases hh:W.heap[0]? with
 | none=>rw [hh] at hv;cases hv
 | some o =>
  rw [hh] at hv;cases o with
  | cells c t tag =>
   obtain rfl:=Option.some.inj hv;exact ⟨t,tag,hh⟩
  | _=>cases hv
theorem vars_readMon {H:Type} (enc:TypeId × Value→H) {W:World} (h0:W.var? Tryd.prog "loop.example/g00040/impl.monthDays" = some monArr) (sp:Nat→Bool) :
 DataW.TrodVars enc Tryd.prog W sp ["loop.example/g00040/impl.monthDays"] [monD] (MemPlace.row ⟨0,0,none⟩ monArr.size++[]++[]) :=
 ⟨0,73,monArr,3,[],[],lz_g0,lz_t0,h0,by kernel_rfl,rfl,rfl⟩
theorem var_belowMon {W W':World} {n:String} {g:Nat} {cs:Array Value} (hg:Tryd.prog.globalNamed n=some g) (h:W.var? Tryd.prog n=some cs) (hb:Below W.heap.size W W'):W'.var? Tryd.prog n=some cs:=by
 unfold World.var? at h ⊢;rw [hg] at h ⊢;simp only [Option.bind_some] at h ⊢
 have hlt:g < W.heap.size:=by
  cases hh:W.heap[g]? with
  | none=>rw [hh] at h;cases h
  | some o=>exact (Array.getElem?_eq_some_iff.1 hh).1
 rw [hb.block g hlt];exact h
end Go.Proofs.YtcblmhpebijmaaaDoor.Q
namespace Go.Proofs.YtcblmhpebijmaaaDoor.Q
open Go.RowKit Go.Proofs.YtcblmhpebijmaaaDoorW.PrintWords Go.Proofs.YtcblmhpebijmaaaDoorW.PrintLast Go.Proofs.YtcblmhpebijmaaaDoorW.PrintMore
set_option linter.unusedVariables false
set_option linter.unusedSimpArgs false
open Go.Shelf
attribute [local go_sem] Oper.semAt_some
theorem CalOk_at (off:Int) (A:Option Addr) (c:Nat) (hs:List Int) (w:World) (hr:Kd.C (Kd.int .i64) w A hs.length hs) (hcc:hs.length≤c) :
 Calls Tryd.prog 51 #[.agg #[.int .i64 off,.slice A hs.length c]] w fun e w'=>e = .returned (.bool (calB off hs))∧Below w.heap.size w w':=impl_CalOk.calls 501 off A c hs _ w hr hcc (impl_CalOk_is off hs 501 (by omega))
theorem two_new (w:World) (o1 o2:Obj):((w.alloc o1).alloc o2).heap[w.heap.size]?=some o1∧((w.alloc o1).alloc o2).heap[w.heap.size+1]?=some o2:=by
 refine ⟨y05 (blk_new w o1) o2,?_⟩;have:=blk_new (w.alloc o1) o2;rw [World.size_alloc] at this;exact this
theorem put_cell {W:World} {g:Nat} {t:TypeId} {v:Value} (h:W.heap[g]?=some (.cells #[v] t (0,0))) (u:Value):(W.setCell ⟨g,0,none⟩ u).cell? ⟨g,0,none⟩=some u:=by
 have:=blk_cell (blk_put (cs':=#[u]) h 0 u rfl) 0
 simpa using this
set_option maxRecDepth 100000 in
set_option maxHeartbeats 2000000 in
theorem impl_AddWork.no (off d:Int) (A:Option Addr) (c:Nat) (hs:List Int) (w:World) (hr:Kd.C (Kd.int .i64) w A hs.length hs) (hcc:hs.length≤c) (h:¬ (calB off hs=true∧0≤d∧d≤40000)) :
 Calls Tryd.prog 30 #[.agg #[.int .i64 off,.slice A hs.length c],.int .i64 d,.int .i64 0] w fun e w'=>e = .returned (.int .i64 (-1))∧Below w.heap.size w w':=by
 have HR:=Aside0.mk (fun o1 o2:Obj=>Kd.C_alloc (Kd.C_alloc hr o1) o2);have HB:=Aside0.mk (fun o1 o2:Obj=>below_two w o1 o2);have HN:=Aside0.mk (fun o1 o2:Obj=>two_new w o1 o2)
 go_enter Tryd.func30,Tryd.ntmps30
 go_wp2_with fail
 refine (CalOk_at off A c hs _ (HR.out _ _) hcc).mono ?_;rintro e w2 ⟨rfl,hb2⟩;have B1:=Aside0.mk (blk_below (HN.out _ _).2 hb2);have HB2:=Aside0.mk (below_step (HB.out _ _) hb2);have hcell:=blk_cell B1.out 0;have hfz:=y04 B1.out 0;simp only [List.getElem?_toArray,List.getElem?_cons_zero] at hcell;clear hb2;by_cases hcal:calB off hs=true
 ·rw [hcal]
  go_wp2_with fail
  refine (impl_isDay.to _ _).mono ?_;rintro e w3 ⟨rfl,hw3⟩;subst hw3;rw [inB_false.2 (fun q=>h ⟨hcal,q⟩)]
  go_wp2_with fail
  refine bodyPost_ret (v:=.int .i64 (-1)) (by have hx:=put_cell B1.out (.int .i64 (-1));simp [results,Tryd.f30,go_sem,hx]) rfl ?_;exact ⟨rfl,y03 HB2.out (by omega)⟩
 ·rw [Bool.eq_false_iff.2 hcal]
  go_wp2_with fail
  refine bodyPost_ret (v:=.int .i64 (-1)) (by have hx:=put_cell B1.out (.int .i64 (-1));simp [results,Tryd.f30,go_sem,hx]) rfl ?_;exact ⟨rfl,y03 HB2.out (by omega)⟩
set_option maxRecDepth 100000 in
theorem impl_workdays.to (off fr st:Int) (A:Option Addr) (n c:Nat) (w:World) :
 Calls Tryd.prog 53 #[.agg #[.int .i64 off,.slice A n c],.int .i64 fr,.int .i64 st] w fun e w'=>e = .returned (.func (.func 57) #[] #[.pointer (some ⟨w.heap.size+1,0,none⟩),.pointer (some ⟨w.heap.size+1+1,0,none⟩),.pointer (some ⟨w.heap.size,0,none⟩)])∧w'=((w.alloc (.cells #[.int .i64 off,.slice A n c] 32 (0,0))).alloc (.cells #[.int .i64 fr] 3 (0,0))).alloc (.cells #[.int .i64 st] 3 (0,0)):=by
 go_enter Tryd.func53,Tryd.ntmps53
 go_wp2_with fail
 go_ret
 exact ⟨rfl,rfl⟩
set_option maxRecDepth 100000 in
set_option maxHeartbeats 2000000 in
theorem impl_AddWork.yes (off d:Int) (A:Option Addr) (c:Nat) (hs:List Int) (w:World) (hr:Kd.C (Kd.int .i64) w A hs.length hs) (hcc:hs.length≤c) (hcal:calB off hs=true) (hd:0≤d∧d≤40000) :
 Calls Tryd.prog 30 #[.agg #[.int .i64 off,.slice A hs.length c],.int .i64 d,.int .i64 0] w fun e w'=>e = .returned (.int .i64 (wkGo off hs 40002 d))∧Below w.heap.size w w':=by
 have HR:=Aside0.mk (fun o1 o2:Obj=>Kd.C_alloc (Kd.C_alloc hr o1) o2);have HB:=Aside0.mk (fun o1 o2:Obj=>below_two w o1 o2);have HN:=Aside0.mk (fun o1 o2:Obj=>two_new w o1 o2);refine (callsIn_wide (n:=10)).1 ?_;refine callsIn_of_wp_marks Tryd.func30 rfl trivial ?_ rfl;simp only [Tryd.ntmps30,List.size_toArray,List.length_cons,List.length_nil,Nat.reduceAdd,Nat.reduceSub,Array.replicate_succ,Array.replicate_zero,List.push_toArray,List.append_toArray,List.nil_append,List.cons_append]
 gi_wp2_with fail
 refine ⟨trivial,(callsIn_wide.2 (CalOk_at off A c hs _ (HR.out _ _) hcc)).mono ?_⟩;rintro e w2 ⟨rfl,hb2⟩;have B0:=Aside0.mk (blk_below (HN.out _ _).1 hb2);have B1:=Aside0.mk (blk_below (HN.out _ _).2 hb2);have HB2:=Aside0.mk (below_step (HB.out _ _) hb2);have b0:=blk_cell B0.out 0;have b1:=blk_cell B0.out 1;simp only [List.getElem?_toArray,List.getElem?_cons_zero,List.getElem?_cons_succ] at b0 b1;clear hb2;rw [hcal]
 gi_wp2_with fail
 refine ⟨trivial,(callsIn_wide.2 (impl_isDay.to _ _)).mono ?_⟩;rintro e w3 ⟨rfl,hw3⟩;subst hw3;rw [inB_of hd]
 gi_wp2_with fail
 refine ⟨trivial,(callsIn_wide.2 (impl_between.to _ _ _ _)).mono ?_⟩;rintro e w4 ⟨rfl,hw4⟩;subst hw4;rw [inB_of (by omega)];have P0:=Aside0.mk (y05 B0.out (.cells #[.int .i64 1] 3 (0,0)));have P1:=Aside0.mk (y05 B1.out (.cells #[.int .i64 1] 3 (0,0)));have P2:=Aside0.mk (blk_new w4 (.cells #[.int .i64 1] 3 (0,0)));have HB4:=Aside0.mk (y02 HB2.out (.cells #[.int .i64 1] 3 (0,0)));have c0:=blk_cell P0.out 0;have c1:=blk_cell P0.out 1;simp only [List.getElem?_toArray,List.getElem?_cons_zero,List.getElem?_cons_succ] at c0 c1
 gi_wp2_with fail
 obtain ⟨W5,hW5⟩:∃ W,w4.alloc (.cells #[.int .i64 1] 3 (0,0))=W:=⟨_,rfl⟩;have hlt:w.heap.size+1 < w4.heap.size:=blk_lt B1.out;have hs5:W5.heap.size=w4.heap.size+1:=by rw [← hW5,World.size_alloc]
 rw [hW5] at P0 P1 P2 HB4 c0 c1 ⊢;refine ⟨trivial,(callsIn_wide.2 (impl_workdays.to off d 1 A hs.length c W5)).mono ?_⟩;rintro e w6 ⟨rfl,hw6⟩;obtain ⟨s5,e5⟩:∃ s,s=W5.heap.size:=⟨_,rfl⟩;have F0:w6.heap[s5]?=some (.cells #[.int .i64 off,.slice A hs.length c] 32 (0,0)):=by rw [hw6,e5];exact y05 (y05 (blk_new _ _) _) _
 have F1:w6.heap[s5+1]?=some (.cells #[.int .i64 d] 3 (0,0)):=by rw [hw6,e5];exact y05 (two_new _ _ _).2 _
 have F2:w6.heap[s5+1+1]?=some (.cells #[.int .i64 1] 3 (0,0)):=by
  rw [hw6,e5];have:=blk_new ((W5.alloc (.cells #[.int .i64 off,.slice A hs.length c] 32 (0,0))).alloc (.cells #[.int .i64 d] 3 (0,0))) (.cells #[.int .i64 1] 3 (0,0));rw [World.size_alloc,World.size_alloc] at this;exact this
 have FR:w6.heap[w.heap.size+1]?=some (.cells #[.int .i64 0] 3 (0,0)):=by rw [hw6];exact y05 (y05 (y05 P1.out _) _) _
 have FL:w6.heap[w4.heap.size]?=some (.cells #[.int .i64 1] 3 (0,0)):=by rw [hw6];exact y05 (y05 (y05 P2.out _) _) _
 have HB6:Below w.heap.size w w6:=by rw [hw6];exact y02 (y02 (y02 HB4.out _) _) _
 have h6:w6.heap.size=s5+1+1+1:=by rw [hw6,e5,World.size_alloc,World.size_alloc,World.size_alloc]
 rw [← e5];rw [← e5] at hs5;clear hw6 e5 hW5 P0 P1 P2 HB4 c0 c1;have HC6:=Kd.C_below hr HB6;have k0:=blk_cell F0 0;have k1:=blk_cell F0 1;have k2:=blk_cell F1 0;have k3:=blk_cell F2 0;have k4:=blk_cell FR 0;have k5:=blk_cell FL 0;have z4:=y04 FR 0;have z5:=y04 FL 0;simp only [List.getElem?_toArray,List.getElem?_cons_zero,List.getElem?_cons_succ] at k0 k1 k2 k3 k4 k5;have HS5:=Aside0.mk hs5;have H6:=Aside0.mk h6;clear hs5 h6
 gi_wp2_with fail
 have hs5:=HS5.out;have h6:=H6.out
 refine wpIn_rangeFunc_ownF rfl (by omega) (gf:=57) (lb:=#[.pointer (some ⟨s5+1,0,none⟩),.pointer (some ⟨s5+1+1,0,none⟩),.pointer (some ⟨s5,0,none⟩)]) rfl trivial (enters_of Tryd.func57 (by kernel_rfl) rfl)
  (workdays_stops 9 (by omega) (s5+1) (s5+1+1) s5 off d A c hs w6 hcal hd k2 k3 k0 k1 HC6 hcc) belowK_t (belowK_b (Nat.le_refl _)) (Below.refl _ _) (fun _=>rfl)
  (fun pre W=>(pre=[]∧W.cell? ⟨w4.heap.size,0,none⟩=some (.int .i64 1)∧W.frozen? ⟨w4.heap.size,0,none⟩=false∧W.cell? ⟨w.heap.size+1,0,none⟩=some (.int .i64 0)∧W.frozen? ⟨w.heap.size+1,0,none⟩=false)∧Below w.heap.size w W)
  (fun c pre W=>(c = .ret∧∃ x,pre=[x]∧W.cell? ⟨w.heap.size+1,0,none⟩=some (.int .i64 x))∧Below w.heap.size w W)
  (OwnFrom.and (Own.from (fun s A B row hs hg hr=>⟨hs.1,cell_kept hs.2.1 hg hr,(frozen_kept hs.2.1 hg hr).trans hs.2.2.1,cell_kept hs.2.2.2.1 hg hr,(frozen_kept hs.2.2.2.1 hg hr).trans hs.2.2.2.2⟩) _) (ownFrom_below (Nat.le_refl _) (by omega)))
  (fun c=>OwnFrom.and (Own.from (fun s A B row hs hg hr=>⟨hs.1,hs.2.imp (fun x q=>⟨q.1,cell_kept q.2 hg hr⟩)⟩) _) (ownFrom_below (Nat.le_refl _) (by omega)))
  ⟨⟨rfl,k5,z5,k4,z4⟩,HB6⟩
  (fun x=>{ tmps:=#[.agg #[.int .i64 off,.slice A hs.length c],.int .i64 d,.int .i64 0,.pointer (some ⟨w.heap.size,0,none⟩),undef,undef,.pointer (some ⟨w.heap.size+1,0,none⟩),.int .i64 d,.int .i64 1,.pointer (some ⟨w4.heap.size,0,none⟩),.int .i64 x,.agg #[.int .i64 off,.slice A hs.length c],.bool true,.bool false,.bool false,.int .i64 d,.bool true,.bool false,.bool false,.bool false,.int .i64 0,.bool true,.bool false,.bool false,.int .i64 d,.int .i64 0,.bool false,.int .i64 0,.bool false,undef,undef,.bool false,.int .i64 0,.bool false,undef,undef,undef,undef,.agg #[.int .i64 off,.slice A hs.length c],.int .i64 d,.int .i64 1,.func (.func 57) #[] #[.pointer (some ⟨s5+1,0,none⟩),.pointer (some ⟨s5+1+1,0,none⟩),.pointer (some ⟨s5,0,none⟩)],.int .i64 x,undef,undef,undef,undef,undef],defers:=[] }) ?assign ?body ?done ?stop
 case assign =>
  clear hs5 h6;intro l x W K hK
  gi_wp2
  exact hK
 case body =>
  clear hs5 h6;rintro l pre x W ⟨⟨rfl,hL,hLf,hR,hRf⟩,hB⟩ _
  gi_wp2
  exact ⟨(KeepsOthers.setCell _ _ _).trans (KeepsOthers.setCell _ _ _),⟨rfl,x,rfl,World.cell?_setCell_same' _ _ _ (by rw [(grownBy_setCell' W w4.heap.size (.int .i64 0)).cell hR (by simp;omega)];rfl)⟩,(hB.setCell (p:=⟨w4.heap.size,0,none⟩) (by show w.heap.size≤w4.heap.size;omega) _).setCell (p:=⟨w.heap.size+1,0,none⟩) (by show w.heap.size≤w.heap.size+1;omega) _⟩
 case done =>
  clear hs5;rintro D ys W hD hS ⟨⟨rfl,hL,hLf,hR,hRf⟩,hB⟩ hK;have HS:=Aside0.mk (hS rfl);have HD:=Aside0.mk (show w.heap.size≤D by have:=HS5.out;omega);clear hS hD h6
  gi_wp2
  have hK':=(KeepsOthers.setCell W ⟨w.heap.size+1,0,none⟩ (.int .i64 (-1))).same D _ hK rfl;refine ⟨by simp,.inl ⟨_,_,rfl,run_takeDeferred hK',?_⟩⟩;have hc5:=cell_kept (World.cell?_setCell_same' W ⟨w.heap.size+1,0,none⟩ (.int .i64 (-1)) (by rw [hR];rfl)) (grownBy_putObj' _ D (.deferred none)) (fun r e=>by cases e;exact ⟨_,hK',rfl⟩);refine ⟨.int .i64 (-1),?_,by rw [HS.out],(hB.setCell (p:=⟨w.heap.size+1,0,none⟩) (by show w.heap.size≤w.heap.size+1;omega) _).trans (belowK_b (w:=w) (Nat.le_refl _) _ D _ _ HD.out hK' rfl rfl)⟩;simp [results,Tryd.f30,go_sem,hc5]
 case stop =>
  clear hs5;rintro D c pre W hD hS ⟨⟨rfl,x,rfl,hR⟩,hB⟩ hK;have HS:=Aside0.mk (hS x rfl);have HD:=Aside0.mk (show w.heap.size≤D by have:=HS5.out;omega);clear hS hD h6
  gi_wp2
  refine ⟨by simp,.inl ⟨_,_,rfl,run_takeDeferred hK,?_⟩⟩;have hc5:=cell_kept hR (grownBy_putObj' _ D (.deferred none)) (fun r e=>by cases e;exact ⟨_,hK,rfl⟩);refine ⟨.int .i64 x,?_,by rw [HS.out],hB.trans (belowK_b (w:=w) (Nat.le_refl _) W D _ _ HD.out hK rfl rfl)⟩;simp [results,Tryd.f30,go_sem,hc5]
theorem impl_AddWork.at (off d:Int) (A:Option Addr) (c:Nat) (hs:List Int) (w:World) (hr:Kd.C (Kd.int .i64) w A hs.length hs) (hcc:hs.length≤c) :
 Calls Tryd.prog 30 #[.agg #[.int .i64 off,.slice A hs.length c],.int .i64 d,.int .i64 0] w fun e w'=>e = .returned (.int .i64 (addV off hs d))∧Below w.heap.size w w':=by
 unfold addV;by_cases h:calB off hs=true∧0≤d∧d≤40000
 ·rw [if_pos h];exact impl_AddWork.yes off d A c hs w hr hcc h.1 h.2
 ·rw [if_neg h];exact impl_AddWork.no off d A c hs w hr hcc h
end Go.Proofs.YtcblmhpebijmaaaDoor.Q
