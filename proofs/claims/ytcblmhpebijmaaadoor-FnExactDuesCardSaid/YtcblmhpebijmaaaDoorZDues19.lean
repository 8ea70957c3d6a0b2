/- Parts of the proof: what functions of the program and of the reference answer.
   No condition. -/
import Derived.Test.YtcblmhpebijmaaaDoorZDues1
import Derived.Test.YtcblmhpebijmaaaDoorZDues6
import Derived.Test.YtcblmhpebijmaaaDoorZDues4
import Derived.Test.YtcblmhpebijmaaaDoorZDues18
import Derived.Test.YtcblmhpebijmaaaDoorZDues17
import Derived.Scope
import Derived.Test.YtcblmhpebijmaaaDoorZDues10
import Derived.Test.YtcblmhpebijmaaaDoorZDues11
namespace Go.Proofs.YtcblmhpebijmaaaDoor.Q
open Go.RowKit Go.Proofs.YtcblmhpebijmaaaDoorW.PrintWords Go.Proofs.YtcblmhpebijmaaaDoorW.PrintLast Go.Proofs.YtcblmhpebijmaaaDoorW.PrintMore
set_option linter.unusedVariables false
set_option linter.unusedSimpArgs false
theorem results_c1 {P:Program} {fn:Func} {p:Tmp} {ty:TypeId} (h:fn.results=#[.cell p ty]) (tmps:Array Value) (w:World) (g:Nat) (t:TypeId) (cs:Array Value) (fr:Nat × Nat) (d:TypeDesc)
 (hp:tmps.getD p undef = .pointer (some ⟨g,0,none⟩)) (hg:w.heap[g]?=some (.cells cs t fr))
 (hu:P.underlying ty=some d) (hd:(match d with | .struct _ | .array _ _=>true | _=>false)=true) (hi:(P.info? ty).map (·.size)=some cs.size) :
 (results fn tmps).run P w = .ok (.agg cs) w:=by
 have hp':tmps[p]?.getD undef = .pointer (some ⟨g,0,none⟩):=by simpa using hp
 simp [results,h,hp',asAddr,run_loadVar_row w g t ty cs fr d hg hu hd hi]
set_option maxHeartbeats 1000000 in
set_option maxRecDepth 100000 in
theorem impl_DateOf.no (day:Int) (w:World) (h:¬ (0≤day∧day≤40000)):Calls Tryd.prog 48 #[.int .i64 day] w fun e w'=>e = .returned (.agg #[.int .i64 0,.int .i64 0,.int .i64 0])∧Below w.heap.size w w':=by
 have e1:=inB_false.2 h;have B0:=Aside0.mk (blk_new w (.cells #[.int .i64 0,.int .i64 0,.int .i64 0] 59 (0,0)))
 go_enter Tryd.func48,Tryd.ntmps48
 go_wp2_with fail
 refine wp_scope_straight ?_
 go_wp2_with fail
 refine (impl_isDay.to _ _).mono ?_;rintro e w2 ⟨rfl,rfl⟩;rw [e1]
 go_wp2_with fail
 simp only [Exit.noGoto];refine bodyPost_ret (results_c1 rfl _ _ w.heap.size 59 #[.int .i64 0,.int .i64 0,.int .i64 0] (0,0) _ rfl B0.out Tryd.underlying59 rfl (by kernel_rfl)) rfl ?_;exact ⟨rfl,below_box w _ 0⟩
set_option maxHeartbeats 1000000 in
set_option maxRecDepth 100000 in
theorem impl_DateOf.to (day:Int) (w:World) (hM:Mon w) (h:0≤day∧day≤40000):Calls Tryd.prog 48 #[.int .i64 day] w fun e w'=>∃ (a b:Nat) (d:Int),DateP day a b d∧e = .returned (.agg #[.int .i64 (2000+a),.int .i64 (b+1),.int .i64 d])∧Below w.heap.size w w':=by
 have e1:=inB_of h;obtain ⟨W1,hW1⟩:∃ W,w.alloc (.cells #[.int .i64 0,.int .i64 0,.int .i64 0] 59 (0,0))=W:=⟨_,rfl⟩;have B0:=Aside0.mk (hW1 ▸ blk_new w (.cells #[.int .i64 0,.int .i64 0,.int .i64 0] 59 (0,0)));have S0:=Aside0.mk (show W1.heap.size=w.heap.size+1 by rw [← hW1,World.size_alloc]);have HB:=Aside0.mk (show Below w.heap.size w W1 by rw [← hW1];exact y02 (Below.refl _ _) _);have HW1:=Aside0.mk hW1;clear hW1
 go_enter Tryd.func48,Tryd.ntmps48
 go_wp2_with fail
 rw [HW1.out];refine wp_scope_straight ?_
 go_wp2_with fail
 refine (impl_isDay.to _ _).mono ?_;rintro e w2 ⟨rfl,rfl⟩;rw [e1]
 go_wp2_with fail
 refine wp_label ?_;obtain ⟨W2,hW2⟩:∃ W,w2.alloc (.cells #[.int .i64 2000,.int .i64 1,.int .i64 1] 59 (0,0))=W:=⟨_,rfl⟩;have B1:=Aside0.mk (show W2.heap[w2.heap.size]?=some (.cells #[.int .i64 2000,.int .i64 1,.int .i64 1] 59 (0,0)) by rw [← hW2];exact blk_new _ _);have HB1:=Aside0.mk (show Below w.heap.size w W2 by rw [← hW2];exact y02 HB.out _);have B2:=Aside0.mk (show W2.heap[w.heap.size]?=some (.cells #[.int .i64 0,.int .i64 0,.int .i64 0] 59 (0,0)) by rw [← hW2];exact y05 B0.out _);have hgn:w2.heap.size=w.heap.size+1:=S0.out;rw [hW2,hgn];rw [hgn] at B1;clear hW2 hgn
 go_wp2_with fail
 go_loopw [0] (fun v wr=>∃ (a:Nat) (x:Int),v = .int .i64 x∧0≤x∧ySum a+x=day∧Aside0 (Below w.heap.size w wr)∧Aside0 (wr.heap[w.heap.size+1]?=some (.cells #[.int .i64 (2000+a),.int .i64 1,.int .i64 1] 59 (0,0)))∧Aside0 (wr.heap[w.heap.size]?=some (.cells #[.int .i64 0,.int .i64 0,.int .i64 0] 59 (0,0)))) (fun v _=>(intOf v).toNat)
 case atStart=>exact ⟨0,day,rfl,h.1,by simp [ySum],HB1,B1,B2⟩
 case round =>
  obtain ⟨a,x,rfl,hx0,hxe,HBr,C1,C2⟩:=hrel;have hyb:=ySum_b a;have hyl:=yLen_b (2000+a);have d0:=blk_cell C1.out 0;have f0:=y04 C1.out 0;simp only [List.getElem?_toArray,List.getElem?_cons_zero] at d0
  go_wp2_with fail
  refine (impl_longYear.calls (2000+a) (leapB (2000+a)) _ (longYear_is _)).mono ?_;rintro e w4 ⟨rfl,⟨n4,rfl⟩⟩;have hyv:yLen (2000+a)=if leapB (2000+a)=true then 366 else 365:=rfl
  cases hl:leapB (2000+a)
  ·rw [hl,if_neg (by decide)] at hyv;by_cases hxl:x < 365
   ·go_wp2_with fail
    go_loopw [0] (fun v wq=>∃ (b:Nat) (z:Int),v = .int .i64 z∧0≤z∧b < 12∧mSum (2000+a) b+z=x∧Aside0 (Below w.heap.size w wq)∧Aside0 (wq.heap[w.heap.size+1]?=some (.cells #[.int .i64 (2000+a),.int .i64 (b+1),.int .i64 1] 59 (0,0)))∧Aside0 (wq.heap[w.heap.size]?=some (.cells #[.int .i64 0,.int .i64 0,.int .i64 0] 59 (0,0)))) (fun v _=>(intOf v).toNat)
    case atStart=>exact ⟨0,x,rfl,hx0,by omega,by simp [mSum],⟨y00 HBr.out _⟩,⟨C1.out⟩,⟨C2.out⟩⟩
    case round =>
     obtain ⟨b,z,rfl,hz0,hb12,hze,HBq,E1,E2⟩:=hrel;have hmb:=mSum_b (2000+a) b;have hml:=mLen_b (2000+a) (b+1);have hms:mSum (2000+a) (b+1)=mSum (2000+a) b+mLen (2000+a) (b+1):=rfl;have hmy:=mSum12 (2000+a);have k0:=blk_cell E1.out 0;have k1:=blk_cell E1.out 1;have k2:=blk_cell E1.out 2;have g1:=y04 E1.out 1;have g2:=y04 E1.out 2;have j0:=blk_cell E2.out 0;have j1:=blk_cell E2.out 1;have j2:=blk_cell E2.out 2;have i0:=y04 E2.out 0;have i1:=y04 E2.out 1;have i2:=y04 E2.out 2;simp only [List.getElem?_toArray,List.getElem?_cons_zero,List.getElem?_cons_succ] at k0 k1 k2 j0 j1 j2
     go_wp2_with fail
     refine (impl_daysOf.to (2000+a) (b+1) _ (hM.below HBq.out) (by omega) (by omega)).mono ?_;rintro e w5 ⟨rfl,⟨n5,rfl⟩⟩;by_cases hzl:mLen (2000+a) (b+1)≤z
     ·have hb11:b+1 < 12:=by
       by_cases q:b+1=12
       ·rw [q] at hms;omega
       ·omega
      go_wp2_with fail
      refine (impl_daysOf.to (2000+a) (b+1) _ ((hM.below HBq.out).drewN _) (by omega) (by omega)).mono ?_;rintro e w6 ⟨rfl,⟨n6,rfl⟩⟩
      go_wp2_with fail
      go_roundw
      case rel=>exact ⟨b+1,z - mLen (2000+a) (b+1),rfl,by omega,hb11,by omega,⟨y03 (y00 HBq.out _) (by omega)⟩,⟨blk_put (y06 E1.out _) 1 _ (by simp)⟩,⟨blk_far (y06 E2.out _) (Nat.ne_of_lt (Nat.lt_succ_self _)) _⟩⟩
      case measure=>simp [intOf];omega
     ·go_wp2_with fail
      simp only [Exit.noGoto]
      refine bodyPost_ret (results_c1 rfl _ _ w.heap.size 59 #[.int .i64 (2000+a),.int .i64 (b+1),.int .i64 (1+z)] (0,0) _ rfl (by
       refine blk_put (cs:=#[.int .i64 (2000+a),.int .i64 (b+1),.int .i64 0]) ?_ 2 _ rfl;refine blk_put (cs:=#[.int .i64 (2000+a),.int .i64 0,.int .i64 0]) ?_ 1 _ rfl;refine blk_put (cs:=#[.int .i64 0,.int .i64 0,.int .i64 0]) ?_ 0 _ rfl;refine blk_far ?_ (Nat.ne_of_lt (Nat.lt_succ_self _)) _
       exact y06 E2.out _) Tryd.underlying59 rfl (by kernel_rfl)) rfl ?_
      exact ⟨a,b,1+z,⟨hb12,by omega,by omega,by omega⟩,rfl,y03 (y03 (y03 (y03 (y00 HBq.out _) (by omega)) (Nat.le_refl _)) (Nat.le_refl _)) (Nat.le_refl _)⟩
   ·go_wp2_with fail
    go_roundw
    case rel=>exact ⟨a+1,x - 365,rfl,by omega,by simp only [ySum];omega,⟨y03 (y00 HBr.out _) (by omega)⟩,⟨blk_put (y06 C1.out _) 0 _ (by simp;omega)⟩,⟨blk_far (y06 C2.out _) (Nat.ne_of_lt (Nat.lt_succ_self _)) _⟩⟩
    case measure=>simp [intOf];omega
  ·rw [hl,if_pos rfl] at hyv;by_cases hxl:x < 366
   ·go_wp2_with fail
    go_loopw [0] (fun v wq=>∃ (b:Nat) (z:Int),v = .int .i64 z∧0≤z∧b < 12∧mSum (2000+a) b+z=x∧Aside0 (Below w.heap.size w wq)∧Aside0 (wq.heap[w.heap.size+1]?=some (.cells #[.int .i64 (2000+a),.int .i64 (b+1),.int .i64 1] 59 (0,0)))∧Aside0 (wq.heap[w.heap.size]?=some (.cells #[.int .i64 0,.int .i64 0,.int .i64 0] 59 (0,0)))) (fun v _=>(intOf v).toNat)
    case atStart=>exact ⟨0,x,rfl,hx0,by omega,by simp [mSum],⟨y00 HBr.out _⟩,⟨C1.out⟩,⟨C2.out⟩⟩
    case round =>
     obtain ⟨b,z,rfl,hz0,hb12,hze,HBq,E1,E2⟩:=hrel;have hmb:=mSum_b (2000+a) b;have hml:=mLen_b (2000+a) (b+1);have hms:mSum (2000+a) (b+1)=mSum (2000+a) b+mLen (2000+a) (b+1):=rfl;have hmy:=mSum12 (2000+a);have k0:=blk_cell E1.out 0;have k1:=blk_cell E1.out 1;have k2:=blk_cell E1.out 2;have g1:=y04 E1.out 1;have g2:=y04 E1.out 2;have j0:=blk_cell E2.out 0;have j1:=blk_cell E2.out 1;have j2:=blk_cell E2.out 2;have i0:=y04 E2.out 0;have i1:=y04 E2.out 1;have i2:=y04 E2.out 2;simp only [List.getElem?_toArray,List.getElem?_cons_zero,List.getElem?_cons_succ] at k0 k1 k2 j0 j1 j2
     go_wp2_with fail
     refine (impl_daysOf.to (2000+a) (b+1) _ (hM.below HBq.out) (by omega) (by omega)).mono ?_;rintro e w5 ⟨rfl,⟨n5,rfl⟩⟩;by_cases hzl:mLen (2000+a) (b+1)≤z
     ·have hb11:b+1 < 12:=by
       by_cases q:b+1=12
       ·rw [q] at hms;omega
       ·omega
      go_wp2_with fail
      refine (impl_daysOf.to (2000+a) (b+1) _ ((hM.below HBq.out).drewN _) (by omega) (by omega)).mono ?_;rintro e w6 ⟨rfl,⟨n6,rfl⟩⟩
      go_wp2_with fail
      go_roundw
      case rel=>exact ⟨b+1,z - mLen (2000+a) (b+1),rfl,by omega,hb11,by omega,⟨y03 (y00 HBq.out _) (by omega)⟩,⟨blk_put (y06 E1.out _) 1 _ (by simp)⟩,⟨blk_far (y06 E2.out _) (Nat.ne_of_lt (Nat.lt_succ_self _)) _⟩⟩
      case measure=>simp [intOf];omega
     ·go_wp2_with fail
      simp only [Exit.noGoto]
      refine bodyPost_ret (results_c1 rfl _ _ w.heap.size 59 #[.int .i64 (2000+a),.int .i64 (b+1),.int .i64 (1+z)] (0,0) _ rfl (by
       refine blk_put (cs:=#[.int .i64 (2000+a),.int .i64 (b+1),.int .i64 0]) ?_ 2 _ rfl;refine blk_put (cs:=#[.int .i64 (2000+a),.int .i64 0,.int .i64 0]) ?_ 1 _ rfl;refine blk_put (cs:=#[.int .i64 0,.int .i64 0,.int .i64 0]) ?_ 0 _ rfl;refine blk_far ?_ (Nat.ne_of_lt (Nat.lt_succ_self _)) _
       exact y06 E2.out _) Tryd.underlying59 rfl (by kernel_rfl)) rfl ?_
      exact ⟨a,b,1+z,⟨hb12,by omega,by omega,by omega⟩,rfl,y03 (y03 (y03 (y03 (y00 HBq.out _) (by omega)) (Nat.le_refl _)) (Nat.le_refl _)) (Nat.le_refl _)⟩
   ·go_wp2_with fail
    go_roundw
    case rel=>exact ⟨a+1,x - 366,rfl,by omega,by simp only [ySum];omega,⟨y03 (y00 HBr.out _) (by omega)⟩,⟨blk_put (y06 C1.out _) 0 _ (by simp;omega)⟩,⟨blk_far (y06 C2.out _) (Nat.ne_of_lt (Nat.lt_succ_self _)) _⟩⟩
    case measure=>simp [intOf];omega
set_option maxHeartbeats 1000000 in
set_option maxRecDepth 100000 in
theorem impl_MonthEnd.at (day:Int) (w:World) (hM:Mon w):Calls Tryd.prog 29 #[.int .i64 day] w fun e w'=>e = .returned (.int .i64 (endV day))∧Below w.heap.size w w':=by
 by_cases h:0≤day∧day≤40000
 ·go_enter Tryd.func29,Tryd.ntmps29
  go_wp2_with fail
  refine (impl_DateOf.to day w hM h).mono ?_;rintro e w2 ⟨a,b,d,hp,rfl,hb⟩;have hv:endV day=dayV (2000+a) (b+1) (mLen (2000+a) (b+1)):=by unfold endV;rw [if_pos h,dateV_is hp]
  obtain ⟨hb12,hd1,hd2,_⟩:=hp;have hne:(2000+(a:Int) == 0)=false:=beq_eq_false_iff_ne.2 (by omega)
  go_wp2_with fail
  refine (impl_daysOf.to (2000+a) (b+1) _ ((hM.below hb).alloc _) (by omega) (by omega)).mono ?_;rintro e w3 ⟨rfl,⟨n3,rfl⟩⟩
  go_wp2_with fail
  have HW:=Aside0.mk (y03 (g:=w2.heap.size) (j:=2) (v:=.int .i64 (mLen (2000+a) (b+1))) (y00 (y02 hb (.cells #[.int .i64 (2000+a),.int .i64 (b+1),.int .i64 d] 59 (0,0))) n3) hb.size);refine (impl_DayOf.to _ _ _ _ (hM.below HW.out)).mono ?_;rintro e w4 ⟨rfl,hb4⟩
  go_wp2_with fail
  go_ret
  exact ⟨by rw [hv];rfl,below_step HW.out hb4⟩
 ·go_enter Tryd.func29,Tryd.ntmps29
  go_wp2_with fail
  refine (impl_DateOf.no day w h).mono ?_;rintro e w2 ⟨rfl,hb⟩
  go_wp2_with fail
  go_ret
  exact ⟨by unfold endV;rw [if_neg h];rfl,y02 hb _⟩
noncomputable def monK (day n:Int):Int:=(2000+((dateV day).1:Int)) * 12+(((dateV day).2.1:Int)+1) - 1+n
noncomputable def addM (day n:Int):Int:=if (0≤day∧day≤40000)∧(-1200≤n∧n≤1200) then dayV (monK day n / 12) (monK day n % 12+1) (if (dateV day).2.2 > mLen (monK day n / 12) (monK day n % 12+1) then mLen (monK day n / 12) (monK day n % 12+1) else (dateV day).2.2) else -1
set_option maxHeartbeats 1000000 in
set_option maxRecDepth 100000 in
theorem impl_AddMonths.at (day n:Int) (w:World) (hM:Mon w):Calls Tryd.prog 28 #[.int .i64 day,.int .i64 n] w fun e w'=>e = .returned (.int .i64 (addM day n))∧Below w.heap.size w w':=by
 by_cases h:0≤day∧day≤40000
 ·by_cases hn:-1200≤n∧n≤1200
  ·go_enter Tryd.func28,Tryd.ntmps28
   go_wp2_with fail
   refine (impl_DateOf.to day w hM h).mono ?_;rintro e w2 ⟨a,b,d,hp,rfl,hb⟩;have hsm:=hp.small h.2;obtain ⟨K,hK⟩:∃ K,K=(2000+(a:Int)) * 12+((b:Int)+1) - 1+n:=⟨_,rfl⟩
   have hv:addM day n=dayV (K / 12) (K % 12+1) (if d > mLen (K / 12) (K % 12+1) then mLen (K / 12) (K % 12+1) else d):=by
    unfold addM monK;rw [if_pos ⟨h,hn⟩,dateV_is hp,hK]
   obtain ⟨hb12,hd1,hd2,_⟩:=hp;have hne:(2000+(a:Int) == 0)=false:=beq_eq_false_iff_ne.2 (by omega)
   go_wp2_with fail
   refine (impl_between.to _ _ _ _).mono ?_;rintro e w3 ⟨rfl,hw3⟩;subst hw3;rw [inB_of hn]
   go_wp2_with fail
   rw [← hK];obtain ⟨Y,hY⟩:∃ Y,Y=K / 12:=⟨_,rfl⟩;obtain ⟨M,hMm⟩:∃ M,M=K % 12+1:=⟨_,rfl⟩;have hM1:1≤M:=by omega
   have hM2:M≤12:=by omega
   rw [← hY,← hMm];rw [← hY,← hMm] at hv;clear hY hMm hK;refine (impl_daysOf.to Y M _ ((hM.below hb).alloc _) hM1 hM2).mono ?_;rintro e w3 ⟨rfl,⟨n3,rfl⟩⟩;by_cases hdl:d > mLen Y M
   ·rw [if_pos hdl] at hv
    go_wp2_with fail
    have HW:=Aside0.mk (y03 (g:=w2.heap.size) (j:=2) (v:=.int .i64 (mLen Y M)) (y00 (y02 hb (.cells #[.int .i64 Y,.int .i64 M,.int .i64 d] 59 (0,0))) n3) hb.size);refine (impl_DayOf.to _ _ _ _ (hM.below HW.out)).mono ?_;rintro e w4 ⟨rfl,hb4⟩
    go_wp2_with fail
    go_ret
    exact ⟨by rw [hv];rfl,below_step HW.out hb4⟩
   ·rw [if_neg hdl] at hv
    go_wp2_with fail
    have HW:=Aside0.mk (y00 (y02 hb (.cells #[.int .i64 Y,.int .i64 M,.int .i64 d] 59 (0,0))) n3);refine (impl_DayOf.to _ _ _ _ (hM.below HW.out)).mono ?_;rintro e w4 ⟨rfl,hb4⟩
    go_wp2_with fail
    go_ret
    exact ⟨by rw [hv];rfl,below_step HW.out hb4⟩
  ·go_enter Tryd.func28,Tryd.ntmps28
   go_wp2_with fail
   refine (impl_DateOf.to day w hM h).mono ?_;rintro e w2 ⟨a,b,d,hp,rfl,hb⟩;have hne:(2000+(a:Int) == 0)=false:=beq_eq_false_iff_ne.2 (by omega)
   go_wp2_with fail
   refine (impl_between.to _ _ _ _).mono ?_;rintro e w3 ⟨rfl,hw3⟩;subst hw3;rw [inB_false.2 hn]
   go_wp2_with fail
   go_ret
   exact ⟨by unfold addM;rw [if_neg (fun q=>hn q.2)];rfl,y02 hb _⟩
 ·go_enter Tryd.func28,Tryd.ntmps28
  go_wp2_with fail
  refine (impl_DateOf.no day w h).mono ?_;rintro e w2 ⟨rfl,hb⟩
  go_wp2_with fail
  go_ret
  exact ⟨by unfold addM;rw [if_neg (fun q=>h q.1)];rfl,y02 hb _⟩
noncomputable def impl_AddMonths.f (a0 a1:Int):Option Int:=some (addM a0 a1)
noncomputable def impl_MonthEnd.f (a0:Int):Option Int:=some (endV a0)
noncomputable def impl_AddWork.f (a0:Int) (l0:List Int) (a1 a2:Int):Option Int:=some (addV a0 l0 a1)
theorem impl_AddMonths.calls (a0 a1 r:Int) (w:World) (h:impl_AddMonths.f a0 a1=some r) (hM:Mon w:=by exact Mon.below HM.out (by repeat (first | (with_reducible first | exact HB.out | apply y02 | apply y00 | apply y01) | exact HB.out))):Calls Tryd.prog 28 #[.int .i64 a0,.int .i64 a1] w fun e w'=>e = .returned (.int .i64 r)∧Below w.heap.size w w':=by
 obtain rfl:=Option.some.inj h;exact impl_AddMonths.at a0 a1 w hM
theorem impl_MonthEnd.calls (a0 r:Int) (w:World) (h:impl_MonthEnd.f a0=some r) (hM:Mon w:=by exact Mon.below HM.out (by repeat (first | (with_reducible first | exact HB.out | apply y02 | apply y00 | apply y01) | exact HB.out))):Calls Tryd.prog 29 #[.int .i64 a0] w fun e w'=>e = .returned (.int .i64 r)∧Below w.heap.size w w':=by
 obtain rfl:=Option.some.inj h;exact impl_MonthEnd.at a0 w hM
theorem impl_AddWork.calls (a0_0:Int) (A0_1:Option Addr) (c0_1:Nat) (l0_1:List Int) (a1 a2 r:Int) (w:World) (hr0_1:Kd.C (Kd.int .i64) w A0_1 l0_1.length l0_1) (hc0_1:l0_1.length≤c0_1) (h:impl_AddWork.f a0_0 l0_1 a1 a2=some r) (h2:a2=0:=by rfl) :
 Calls Tryd.prog 30 #[.agg #[.int .i64 a0_0,.slice A0_1 l0_1.length c0_1],.int .i64 a1,.int .i64 a2] w fun e w'=>e = .returned (.int .i64 r)∧Below w.heap.size w w':=by
 subst h2;obtain rfl:=Option.some.inj h;exact impl_AddWork.at a0_0 a1 A0_1 c0_1 l0_1 w hr0_1 hc0_1
noncomputable def spec_AddMonths.j0:Nat→Int→Int→Bool→Option (Int)
 | 0,_,_,_=>none
 | k+1,x0,x1,x16=>if x16=true then (some (-1)) else ((spec_DateOf.f k x0).bind fun bt21003=>((spec_l1In.f (wrap64 (Int.tdiv (wrap64 ((wrap64 ((wrap64 ((wrap64 (bt21003.1 * 12))+bt21003.2.1)) - 1))+x1)) 12)) 2000 2200).bind fun t21007=>(if t21007=true then ((spec_l2Long.f (wrap64 (Int.tdiv (wrap64 ((wrap64 ((wrap64 ((wrap64 (bt21003.1 * 12))+bt21003.2.1)) - 1))+x1)) 12)) (wrap64 ((Int.tmod (wrap64 ((wrap64 ((wrap64 ((wrap64 (bt21003.1 * 12))+bt21003.2.1)) - 1))+x1)) 12)+1))).bind fun t21008=>(if bt21003.2.2 > t21008 then ((spec_l2Long.f (wrap64 (Int.tdiv (wrap64 ((wrap64 ((wrap64 ((wrap64 (bt21003.1 * 12))+bt21003.2.1)) - 1))+x1)) 12)) (wrap64 ((Int.tmod (wrap64 ((wrap64 ((wrap64 ((wrap64 (bt21003.1 * 12))+bt21003.2.1)) - 1))+x1)) 12)+1))).bind fun t21009=>((spec_DayOf.f k (wrap64 (Int.tdiv (wrap64 ((wrap64 ((wrap64 ((wrap64 (bt21003.1 * 12))+bt21003.2.1)) - 1))+x1)) 12)) (wrap64 ((Int.tmod (wrap64 ((wrap64 ((wrap64 ((wrap64 (bt21003.1 * 12))+bt21003.2.1)) - 1))+x1)) 12)+1)) t21009).bind fun t21010=>(some t21010))) else ((spec_DayOf.f k (wrap64 (Int.tdiv (wrap64 ((wrap64 ((wrap64 ((wrap64 (bt21003.1 * 12))+bt21003.2.1)) - 1))+x1)) 12)) (wrap64 ((Int.tmod (wrap64 ((wrap64 ((wrap64 ((wrap64 (bt21003.1 * 12))+bt21003.2.1)) - 1))+x1)) 12)+1)) bt21003.2.2).bind fun t21011=>(some t21011)))) else (some (-1)))))
noncomputable def spec_AddMonths.f (k:Nat) (a0:Int) (a1:Int):Option (Int):=(spec_l2Day.f a0).bind fun t21001=>(if t21001=true then ((spec_l1In.f a1 (-1200) 1200).bind fun t21002=>(spec_AddMonths.j0 k a0 a1 (!t21002))) else (spec_AddMonths.j0 k a0 a1 true))
theorem spec_AddMonths.mono_l:∀ k,(∀ y0 y1 y2,LeO (spec_AddMonths.j0 k y0 y1 y2) (spec_AddMonths.j0 (k+1) y0 y1 y2))
 | 0=>fun _ _ _ r h=>by simp [spec_AddMonths.j0] at h
 | k+1=>by
  have ih0:=spec_AddMonths.mono_l k
  ·intro y0 y1 y2;unfold spec_AddMonths.j0
   repeat' first
   | (with_reducible exact ih0 _ _ _)
   | (with_reducible exact spec_DateOf.mono _ _)
   | (with_reducible exact spec_DayOf.mono _ _ _ _)
   | (with_reducible exact LeO.refl _)
   | (with_reducible exact LeO.none _)
   | (with_reducible refine LeO.ite ?_ ?_)
   | (with_reducible refine LeO.bind ?_ (fun _=>?_))
   | exact ih0 _ _ _
   | exact spec_DateOf.mono _ _
   | exact spec_DayOf.mono _ _ _ _
   | exact LeO.none _
   | refine LeO.ite ?_ ?_
   | refine LeO.bind ?_ (fun _=>?_)
theorem spec_AddMonths.mono:∀ a0 a1 k,LeO (spec_AddMonths.f k a0 a1) (spec_AddMonths.f (k+1) a0 a1):=by
 intro a0 a1 k;have ih0:=spec_AddMonths.mono_l k;unfold spec_AddMonths.f
 repeat' first
  | (with_reducible exact ih0 _ _ _)
  | (with_reducible exact spec_DateOf.mono _ _)
  | (with_reducible exact spec_DayOf.mono _ _ _ _)
  | (with_reducible exact LeO.refl _)
  | (with_reducible exact LeO.none _)
  | (with_reducible refine LeO.ite ?_ ?_)
  | (with_reducible refine LeO.bind ?_ (fun _=>?_))
  | exact ih0 _ _ _
  | exact spec_DateOf.mono _ _
  | exact spec_DayOf.mono _ _ _ _
  | exact LeO.none _
  | refine LeO.ite ?_ ?_
  | refine LeO.bind ?_ (fun _=>?_)
theorem LeO.iter {α:Type} {f:Nat→Option α} (h:∀ k,LeO (f k) (f (k+1))) {k:Nat} {r:α} (e:f k=some r):∀ j,f (k+j)=some r
 | 0=>e
 | j+1=>h (k+j) r (LeO.iter h e j)
theorem fuel_one {α:Type} {f:Nat→Option α} (h:∀ k,LeO (f k) (f (k+1))) {k l:Nat} {r s:α} (e:f k=some r) (e':f l=some s):r=s:=by
 have h1:=LeO.iter h e l;have h2:=LeO.iter h e' k;rw [Nat.add_comm] at h1;exact Option.some.inj (h1.symm.trans h2)
theorem AddM_is (day n:Int):spec_AddMonths.f 40003 day n=some (addM day n):=by
 unfold spec_AddMonths.f spec_l2Day.f spec_l1In.f addM;rw [Option.bind_some];by_cases c:0≤day∧day≤40000
 ·rw [inB_of c,if_pos rfl,Option.bind_some];by_cases c2:-1200≤n∧n≤1200
  ·obtain ⟨a,b,d,hp,he,hf⟩:=DateOf_is c.1 c.2;have hsm:=hp.small c.2;have hb12:=hp.1;rw [inB_of c2,if_pos ⟨c,c2⟩];show spec_AddMonths.j0 (40002+1) day n false=_;rw [spec_AddMonths.j0,if_neg (by decide),hf,Option.bind_some];unfold monK;rw [he];obtain ⟨K,hK⟩:∃ K,K=(2000+(a:Int)) * 12+((b:Int)+1) - 1+n:=⟨_,rfl⟩
   have hk:wrap64 ((wrap64 ((wrap64 ((wrap64 ((2000+(a:Int)) * 12))+((b:Int)+1))) - 1))+n)=K:=by
    rw [w64 (x:=(2000+(a:Int)) * 12) (by omega),w64 (x:=(2000+(a:Int)) * 12+((b:Int)+1)) (by omega),w64 (x:=(2000+(a:Int)) * 12+((b:Int)+1) - 1) (by omega),w64 (by omega),hK]
   simp only [hk,← hK];have hKp:0≤K∧K≤100000:=by omega
   rw [Int.tdiv_eq_ediv_of_nonneg hKp.1,Int.tmod_eq_emod_of_nonneg hKp.1,w64 (x:=K / 12) (by omega),w64 (x:=K % 12+1) (by omega)];unfold spec_l1In.f;by_cases c3:2000≤K / 12∧K / 12≤2200
   ·rw [inB_of c3,Option.bind_some,if_pos rfl];simp only [l2Long_is,Option.bind_some];by_cases c4:d > mLen (K / 12) (K % 12+1)
    ·rw [if_pos c4,if_pos c4,DayOf_is _ _ _ _ (by omega),Option.bind_some]
    ·rw [if_neg c4,if_neg c4,DayOf_is _ _ _ _ (by omega),Option.bind_some]
   ·rw [inB_false.2 c3,Option.bind_some,if_neg (by decide),dayV_no (fun q=>c3 ⟨q.1,q.2.1⟩)]
  ·rw [inB_false.2 c2,if_neg (fun q=>c2 q.2)];show spec_AddMonths.j0 (40002+1) day n true=_;rw [spec_AddMonths.j0,if_pos rfl]
 ·rw [inB_false.2 c,if_neg (by decide),if_neg (fun q=>c q.1)];show spec_AddMonths.j0 (40002+1) day n true=_;rw [spec_AddMonths.j0,if_pos rfl]
theorem spec_l2Long.at (y m:Int) (w:World):Calls Tryd.prog 40 #[.int .i64 y,.int .i64 m] w fun e w'=>e = .returned (.int .i64 (mLen y m))∧Drawn0 w w':=spec_l2Long.calls y m _ w (l2Long_is y m)
set_option maxHeartbeats 1000000 in
set_option maxRecDepth 100000 in
theorem spec_AddMonths.to (day n:Int) (w:World):Calls Tryd.prog 20 #[.int .i64 day,.int .i64 n] w fun e w'=>e = .returned (.int .i64 (addM day n))∧Below w.heap.size w w':=by
 by_cases h:0≤day∧day≤40000
 ·by_cases hn:-1200≤n∧n≤1200
  ·obtain ⟨a,b,d,hp,he,hf⟩:=DateOf_is h.1 h.2;have HF:=Aside0.mk hf;clear hf;have hsm:=hp.small h.2;obtain ⟨K,hK⟩:∃ K,K=(2000+(a:Int)) * 12+((b:Int)+1) - 1+n:=⟨_,rfl⟩
   have hv:addM day n=dayV (K / 12) (K % 12+1) (if d > mLen (K / 12) (K % 12+1) then mLen (K / 12) (K % 12+1) else d):=by
    unfold addM monK;rw [if_pos ⟨h,hn⟩,he,hK]
   have HV:=Aside0.mk hv;clear hv he;obtain ⟨hb12,hd1,hd2,_⟩:=hp
   go_enter Tryd.func20,Tryd.ntmps20
   go_wp2_with fail
   refine (spec_l2Day.to _ _).mono ?_;rintro e w2 ⟨rfl,hw⟩;subst hw;rw [inB_of h]
   go_wp2_with fail
   refine (spec_l1In.to _ _ _ _).mono ?_;rintro e w3 ⟨rfl,hw⟩;subst hw;rw [inB_of hn]
   go_wp2_with fail
   refine (spec_DateOf.calls 40002 day _ _ _ _ HF.out).mono ?_;rintro e w2 ⟨rfl,hb⟩
   go_wp2_with fail
   rw [← hK];refine (spec_l1In.to _ _ _ _).mono ?_;rintro e w3 ⟨rfl,hw⟩;subst hw;by_cases c3:2000≤K / 12∧K / 12≤2200
   ·rw [inB_of c3];obtain ⟨Y,hY⟩:∃ Y,Y=K / 12:=⟨_,rfl⟩;obtain ⟨M,hMm⟩:∃ M,M=K % 12+1:=⟨_,rfl⟩;have hM1:1≤M:=by omega
    have hM2:M≤12:=by omega
    have HV2:=Aside0.mk (show addM day n=dayV Y M (if d > mLen Y M then mLen Y M else d) by rw [hY,hMm];exact HV.out);rw [← hY,← hMm];clear hY hMm hK c3 HV;by_cases hdl:d > mLen Y M
    ·have hdb:decide (mLen Y M < d)=true:=decide_eq_true hdl
     go_wp2_with fail
     go_quiet ((go_at_call 40;exact Calls.quiet_of ((spec_l2Long.at Y M _).mono (fun _ _ h=>⟨h.1,h.2.out⟩))))
     go_wp2_with fail
     refine (spec_l2Long.at Y M _).mono ?_;rintro e w3 ⟨rfl,⟨n4,rfl⟩⟩
     go_wp2_with fail
     have HW:=Aside0.mk (fun q:Nat=>y03 (g:=w2.heap.size) (j:=2) (v:=.int .i64 (mLen Y M)) (y00 (y02 hb (.cells #[.int .i64 (2000+a),.int .i64 (b+1),.int .i64 d] 59 (0,0))) q) hb.size);refine (spec_DayOf.calls 400 _ _ _ _ _ (DayOf_is Y M (mLen Y M) 400 (by omega))).mono ?_;rintro e w4 ⟨rfl,hb4⟩
     go_wp2_with fail
     go_ret
     exact ⟨by rw [HV2.out,if_pos hdl];rfl,below_step (HW.out _) hb4⟩
    ·have hdb:decide (mLen Y M < d)=false:=decide_eq_false hdl
     go_wp2_with fail
     go_quiet ((go_at_call 40;exact Calls.quiet_of ((spec_l2Long.at Y M _).mono (fun _ _ h=>⟨h.1,h.2.out⟩))))
     go_wp2_with fail
     have HW:=Aside0.mk (fun q:Nat=>y00 (y02 hb (.cells #[.int .i64 (2000+a),.int .i64 (b+1),.int .i64 d] 59 (0,0))) q);refine (spec_DayOf.calls 400 _ _ _ _ _ (DayOf_is Y M d 400 (by omega))).mono ?_;rintro e w4 ⟨rfl,hb4⟩
     go_wp2_with fail
     go_ret
     exact ⟨by rw [HV2.out,if_neg (Int.not_lt.2 hdl)];rfl,below_step (HW.out _) hb4⟩
   ·rw [inB_false.2 c3]
    go_wp2_with fail
    go_ret
    exact ⟨by rw [HV.out,dayV_no (fun q=>c3 ⟨q.1,q.2.1⟩)];rfl,y02 hb _⟩
  ·go_enter Tryd.func20,Tryd.ntmps20
   go_wp2_with fail
   refine (spec_l2Day.to _ _).mono ?_;rintro e w2 ⟨rfl,hw⟩;subst hw;rw [inB_of h]
   go_wp2_with fail
   refine (spec_l1In.to _ _ _ _).mono ?_;rintro e w3 ⟨rfl,hw⟩;subst hw;rw [inB_false.2 hn]
   go_wp2_with fail
   go_ret
   exact ⟨by unfold addM;rw [if_neg (fun q=>hn q.2)];rfl,Below.refl _ _⟩
 ·go_enter Tryd.func20,Tryd.ntmps20
  go_wp2_with fail
  refine (spec_l2Day.to _ _).mono ?_;rintro e w2 ⟨rfl,hw⟩;subst hw;rw [inB_false.2 h]
  go_wp2_with fail
  go_ret
  exact ⟨by unfold addM;rw [if_neg (fun q=>h q.1)];rfl,Below.refl _ _⟩
theorem spec_AddMonths.calls (k:Nat) (a0:Int) (a1:Int) (r:Int) (w:World) (h:spec_AddMonths.f k a0 a1=some r) :
 Calls Tryd.prog 20 #[.int .i64 a0,.int .i64 a1] w fun e w'=>e = .returned (.int .i64 r)∧Below w.heap.size w w':=by
 obtain rfl:r=addM a0 a1:=fuel_one (f:=fun k=>spec_AddMonths.f k a0 a1) (spec_AddMonths.mono a0 a1) h (AddM_is a0 a1);exact spec_AddMonths.to a0 a1 w
end Go.Proofs.YtcblmhpebijmaaaDoor.Q
