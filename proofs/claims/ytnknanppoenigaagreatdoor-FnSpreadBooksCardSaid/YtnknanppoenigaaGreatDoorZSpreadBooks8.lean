/- Parts of the proof: what functions of the program and of the reference answer.
   No condition. -/
import Derived.Test.YtnknanppoenigaaGreatDoorZSpreadBooks1
import Derived.Test.YtnknanppoenigaaGreatDoorZSpreadBooks2
import Derived.Test.YtnknanppoenigaaGreatDoorZSpreadBooks4
import Derived.Test.YtnknanppoenigaaGreatDoorZSpreadBooks6
import Derived.Test.YtnknanppoenigaaGreatDoorZSpreadBooks3
import Derived.Test.YtnknanppoenigaaGreatDoorZSpreadBooks5
import Derived.Test.YtnknanppoenigaaGreatDoorZSpreadBooks7
namespace Go.Proofs.YtnknanppoenigaaGreatDoor.Q
open Go.RowKit Go.Proofs.YtnknanppoenigaaGreatDoorW.PrintWords Go.Proofs.YtnknanppoenigaaGreatDoorW.PrintLast Go.Proofs.YtnknanppoenigaaGreatDoorW.PrintMore
set_option linter.unusedVariables false
set_option linter.unusedSimpArgs false
set_option maxHeartbeats 8000000 in
set_option maxRecDepth 100000 in
theorem spec_l4DrawChart.e (w0 w:World) (g:Nat) (c:List Int) (m:Int) (hI:Cur w0 w g c) (hB:Below w0.heap.size w0 w) (hc:c.length≤1048576) (hm:0 < m) (hm7:m≤7) :
 Calls Tryz.prog 70 #[.pointer (some ⟨g,0,none⟩),.int .i64 m] w fun e w'=>∃ (v:Value) (l:List Acc),e = .returned v∧Kd.R k48 48 w' w.heap.size (fun _=>True) v l∧(goodChart l∧3≤l.length)∧Drew w0 w w' g c:=by
 have HL:=hB.size;have D0:=Aside0.mk (Drew.refl hI hB);clear hI hB
 go_enter Tryz.func70,Tryz.ntmps70
 go_wp2_with (((with_reducible refine gate_dst (N:=12) rfl ?_);refine Kd.R_lit k48 _ 48 ?hg (N:=12) ?hd (xs:=([]:List (S48))) (inner:=[]) (ok:=fun _=>True) (okp:=fun _=>True) ?hr ?hp (fun _ hk=>hk) trivial (Below.refl _ _) (Nat.le_refl _) (by simp) ?_;(case hd=>rfl);(case hg=>rfl);(case hr=>(go_simp;done));(case hp=>exact (Reps.none _ _));intro v5 w4 ho hb hg_ hnew_;clear hg_ hnew_;have D1:=Aside0.mk (D0.out.below hb);have R1:=Aside0.mk (Kd.R_mono (D1.out.cur.apart ho (by decide)) (ok':=fun k=>k≠g) (fun _ hk=>hk.2));clear hb ho))
 refine (spec_l1Below.e m D1.out.cur D1.out.bel hc (by omega)).mono ?_;rintro x w5 ⟨r,rfl,⟨r0,r1,_⟩,hD⟩;have D2:=Aside0.mk (D1.out.call hD);have R2:=Aside0.mk (hD.R R1.out (fun _ hk=>hk));have hr:=r1 hm;clear D0 D1 R1 hD r1;have GC:=Aside0.mk goodChart_nil
 go_wp2_with fail
 go_loopg [5,6] (3+r).toNat (fun kq v5 v6 W=>∃ (n:Int) (l:List Acc),v6 = .int .i64 n∧0≤n∧kq=n.toNat∧(l.length:Int)+n=3+r∧Aside0 (k48.R 48 W w.heap.size (fun k=>k≠g) v5 l)∧Aside0 (goodChart l)∧Aside0 (Drew w0 w W g c))
 case atStart=>exact ⟨3+r,[],rfl,by omega,rfl,by simp,R2,GC,D2⟩
 case round =>
  clear R2 GC D2;obtain ⟨n,l,rfl,n0,hk,hln,RO,GC,D⟩:=hrel;obtain ⟨A5,c5,rfl⟩:=Kd.R_slice RO.out;by_cases hn:n > 0
  ·obtain ⟨q0,rfl⟩:∃ q,gk=q+1:=⟨gk - 1,by omega⟩;have hl10:l.length < 10:=by omega
   go_wp2_with fail
   refine (spec_l1DrawName.e D.out.cur D.out.bel hc).mono ?_;rintro x w6 ⟨s,rfl,hs,hD⟩;replace RO:=Aside0.mk (hD.R RO.out (fun _ hk=>hk));replace D:=Aside0.mk (D.out.call hD);clear hD
   go_wp2_with fail
   refine (spec_l1Below.e 5 D.out.cur D.out.bel hc (by omega)).mono ?_;rintro x w7 ⟨kd,rfl,⟨kd0,kd1,_⟩,hD⟩;replace RO:=Aside0.mk (hD.R RO.out (fun _ hk=>hk));replace D:=Aside0.mk (D.out.call hD);have kd2:=kd1 (by omega);clear hD kd1;have hb:=below_alloc (Below.refl w7.heap.size w7) (Obj.cells #[.string s,.int .i64 (-1),.int .i64 (1+kd)] 48);have BK:=Aside0.mk (blk_new w7 (Obj.cells #[.string s,.int .i64 (-1),.int .i64 (1+kd)] 48));have GB:=D.out.size;have NB:=Nat.ne_of_gt D.out.cur.lt;replace RO:=Aside0.mk (Kd.R_below (Kd.R_mono (ok':=fun k=>k≠g∧k≠w7.heap.size) (Kd.R_bound RO.out) (fun k hk=>⟨hk.1,by have:=hk.2.2.1;omega⟩)) hb);replace D:=Aside0.mk (D.out.below hb);clear hb
   go_wp2_with fail
   generalize w7.alloc (Obj.cells #[.string s,.int .i64 (-1),.int .i64 (1+kd)] 48)=w8 at *;have hs':s.size≤100:=by omega
   clear hs
   go_loopg [9] l.length (fun kq v9 W=>∃ (k:Int) (s':ByteArray),v9 = .int .i64 k∧0≤k∧k≤(l.length:Int)∧kq+k.toNat=l.length∧s'.size≤100∧Aside0 (W.heap[w7.heap.size]?=some (.cells #[.string s',.int .i64 (-1),.int .i64 (1+kd)] 48 (0,0)))∧Aside0 (k48.R 48 W w.heap.size (fun k=>k≠g∧k≠w7.heap.size) (.slice A5 l.length c5) l)∧Aside0 (Drew w0 w W g c))
   case atStart=>exact ⟨0,s,rfl,by omega,by omega,by simp,hs',BK,RO,D⟩
   case round =>
    clear BK RO D hs';obtain ⟨k,s,rfl,k0,k1,hkk,hs,BK,RO,D⟩:=hrel;by_cases hkl:k < (l.length:Int)
    ·obtain ⟨q,rfl⟩:∃ q,gk=q+1:=⟨gk - 1,by omega⟩;obtain ⟨ad,e0,x0,x1,x2⟩:=at_T48 (Kd.R_reads' RO.out).2.2 k k0 hkl;subst e0;have y0:wr.cell? ⟨w7.heap.size,0,none⟩=some (.string s):=(y00 BK.out 0).trans rfl;clear x1 x2
     go_wp2_with fail
     go_quiet (fail)
     go_wp2_with fail
     ·refine (spec_l1Text.to l.length (l.length:Int) _ (by omega) (by omega) (by omega)).mono ?_;rintro x w9 ⟨rfl,hd⟩;have hsz:=decT_size l.length;replace BK:=Aside0.mk (y03 (o:=.cells #[.string s,.int .i64 (-1),.int .i64 (1+kd)] 48 (0,0)) (blk_drewN BK.out _) hd.below);replace RO:=Aside0.mk (Kd.R_below (Kd.R_drewN RO.out _) hd.below);replace D:=Aside0.mk ((D.out.drewN _).below hd.below);have y0:w9.cell? ⟨w7.heap.size,0,none⟩=some (.string s):=(y00 BK.out 0).trans rfl;have y1:w9.frozen? ⟨w7.heap.size,0,none⟩=false:=y02 BK.out 0;clear hd x0
      go_wp2_with fail
      go_roundg q
      case rel =>
       refine ⟨k+1,_,by go_num,by omega,by omega,by omega,?_,⟨blk_set BK.out 0 _⟩,⟨Kd.R_far (p:=⟨w7.heap.size,0,none⟩) RO.out (fun _ hk=>hk.2) _⟩,⟨D.out.set (p:=⟨w7.heap.size,0,none⟩) HL GB NB _⟩⟩;rw [ByteArray.size_append];show 1+_≤100;omega
      case measure=>omega
     ·go_roundg q
      case rel=>exact ⟨k+1,s,by go_num,by omega,by omega,by omega,hs,⟨blk_drewN BK.out _⟩,⟨Kd.R_drewN RO.out _⟩,⟨D.out.drewN _⟩⟩
      case measure=>omega
    ·have hke:k=(l.length:Int):=by omega
     clear hkk k0 k1 hkl;subst hke
     go_upto_region 12 with fail
     go_cut [52] (fun v52 W=>∃ b:Bool,v52 = .bool b∧(b=true→0 < l.length)∧Aside0 (W.heap[w7.heap.size]?=some (.cells #[.string s,.int .i64 (-1),.int .i64 (1+kd)] 48 (0,0)))∧Aside0 (k48.R 48 W w.heap.size (fun k=>k≠g∧k≠w7.heap.size) (.slice A5 l.length c5) l)∧Aside0 (Drew w0 w W g c))
     case first =>
      by_cases h0:0 < l.length
      ·go_wp2_with fail
       refine (spec_l1Once.e 3 D.out.cur D.out.bel hc (by omega)).mono ?_;rintro x w9 ⟨b,rfl,hD⟩;replace BK:=Aside0.mk (hD.blk BK.out NB);replace RO:=Aside0.mk (hD.R RO.out (fun _ hk=>hk.1));replace D:=Aside0.mk (D.out.call hD);clear hD
       go_wp2_with fail
       go_meet
       exact ⟨!b,rfl,fun _=>h0,BK,RO,D⟩
      ·have h0':l.length=0:=by omega
       go_wp2_with fail
       go_meet
       exact ⟨false,rfl,(fun h=>by cases h),BK,RO,D⟩
     case rest =>
      clear BK RO D;obtain ⟨b,rfl,hb0,BK,RO,D⟩:=hcut
      go_upto_if 52 with fail
      go_cut [] (fun W=>∃ (p kk:Int),p < (l.length:Int)∧Aside0 (W.heap[w7.heap.size]?=some (.cells #[.string s,.int .i64 p,.int .i64 kk] 48 (0,0)))∧Aside0 (k48.R 48 W w.heap.size (fun k=>k≠g∧k≠w7.heap.size) (.slice A5 l.length c5) l)∧Aside0 (Drew w0 w W g c))
      case first =>
       cases b
       ·go_wp2_with fail
        go_meet
        exact ⟨-1,1+kd,by omega,BK,RO,D⟩
       ·have h0:=hb0 rfl
        go_wp2_with fail
        refine (spec_l1Below.e 3 D.out.cur D.out.bel hc (by omega)).mono ?_;rintro x w9 ⟨u,rfl,⟨u0,u1,_⟩,hD⟩;have u2:=u1 (by omega);replace BK:=Aside0.mk (hD.blk BK.out NB);replace RO:=Aside0.mk (hD.R RO.out (fun _ hk=>hk.1));replace D:=Aside0.mk (D.out.call hD);clear hD
        go_wp2_with fail
        go_loopg [10,11] u.toNat (fun kq v10 v11 W=>∃ (on up:Int),v10 = .int .i64 on∧0≤on∧on < (l.length:Int)∧v11 = .int .i64 up∧0≤up∧up≤3∧kq=up.toNat∧Aside0 (W.heap[w7.heap.size]?=some (.cells #[.string s,.int .i64 (-1),.int .i64 (1+kd)] 48 (0,0)))∧Aside0 (k48.R 48 W w.heap.size (fun k=>k≠g∧k≠w7.heap.size) (.slice A5 l.length c5) l)∧Aside0 (Drew w0 w W g c))
        case atStart=>exact ⟨(l.length:Int) - 1,u,by go_num,by omega,by omega,rfl,u0,by omega,rfl,BK,RO,D⟩
        case round =>
         clear BK RO D u0 u1 u2;obtain ⟨on,up,rfl,o0,o1,rfl,up0,up3,hup,BK,RO,D⟩:=hrel;obtain ⟨ad,e0,x0,x1,x2⟩:=at_T48 (Kd.R_reads' RO.out).2.2 on o0 o1;have hlt:=GC.out.2.2 on o0 o1;have HLT:=Aside0.mk hlt;subst e0;clear x0 x2 hlt;by_cases hu:up > 0
         ·obtain ⟨q,rfl⟩:∃ q,gk=q+1:=⟨gk - 1,by omega⟩;by_cases hp:0≤(rd_T48 l on).f1
          ·go_wp2_with fail
           go_roundg q
           case rel=>exact ⟨(rd_T48 l on).f1,up - 1,rfl,hp,Int.lt_trans HLT.out o1,by go_num,by omega,by omega,by omega,BK,RO,D⟩
           case measure=>omega
          ·have hp':(rd_T48 l on).f1 < 0:=by omega
           clear HLT hp
           go_wp2_with fail
           refine (spec_l4Deep.to _ c5 l on _ (Kd.R_reads' RO.out).2.2 o0 o1 (by omega) (goodChart_deep GC.out o1)).mono ?_;rintro x w' ⟨rfl,rfl⟩;by_cases hdp:deepAt l on < 8
           ·obtain ⟨ad,e0,x0,x1,x2⟩:=at_T48 (Kd.R_reads' RO.out).2.2 on o0 o1;cases e0;have y1:=y02 BK.out 1;have y2:=y02 BK.out 2;have z1:=(y00 BK.out 1).trans rfl;have z2:=(y00 BK.out 2).trans rfl;have x2':=(blk_far BK.out (p:=ad.add (on.toNat * 3+2)));clear x0 x1 x2'
            go_wp2_with fail
            go_meet
            exact ⟨on,(rd_T48 l on).f2,o1,⟨blk_set (blk_set BK.out 1 _) 2 _⟩,⟨Kd.R_far (p:=⟨w7.heap.size,2,none⟩) (Kd.R_far (p:=⟨w7.heap.size,1,none⟩) RO.out (fun _ hk=>hk.2) _) (fun _ hk=>hk.2) _⟩,⟨(D.out.set (p:=⟨w7.heap.size,1,none⟩) HL GB NB _).set (p:=⟨w7.heap.size,2,none⟩) HL GB NB _⟩⟩
           ·go_wp2_with fail
            go_meet
            exact ⟨-1,1+kd,by omega,BK,RO,D⟩
         ·clear HLT
          go_wp2_with fail
          refine (spec_l4Deep.to _ c5 l on _ (Kd.R_reads' RO.out).2.2 o0 o1 (by omega) (goodChart_deep GC.out o1)).mono ?_;rintro x w' ⟨rfl,rfl⟩;by_cases hdp:deepAt l on < 8
          ·obtain ⟨ad,e0,x0,x1,x2⟩:=at_T48 (Kd.R_reads' RO.out).2.2 on o0 o1;cases e0;have y1:=y02 BK.out 1;have y2:=y02 BK.out 2;have z1:=(y00 BK.out 1).trans rfl;have z2:=(y00 BK.out 2).trans rfl;have x2':=(blk_far BK.out (p:=ad.add (on.toNat * 3+2)));clear x0 x1 x2'
           go_wp2_with fail
           go_meet
           exact ⟨on,(rd_T48 l on).f2,o1,⟨blk_set (blk_set BK.out 1 _) 2 _⟩,⟨Kd.R_far (p:=⟨w7.heap.size,2,none⟩) (Kd.R_far (p:=⟨w7.heap.size,1,none⟩) RO.out (fun _ hk=>hk.2) _) (fun _ hk=>hk.2) _⟩,⟨(D.out.set (p:=⟨w7.heap.size,1,none⟩) HL GB NB _).set (p:=⟨w7.heap.size,2,none⟩) HL GB NB _⟩⟩
          ·go_wp2_with fail
           go_meet
           exact ⟨-1,1+kd,by omega,BK,RO,D⟩
      case rest =>
       clear BK RO D;obtain ⟨p,kk,hp,BK,RO,D⟩:=hcut;have y0:=(y00 BK.out 0).trans rfl;have y1:=(y00 BK.out 1).trans rfl;have y2:=(y00 BK.out 2).trans rfl
       go_wp2_with (((with_reducible refine gate_builtin (b:=.append) (xs:=#[.tmp 86,.tmp 88]) rfl ?_);at_builtin;refine Kd.R_append k48 w.heap.size rfl (.tmp 86) (.tmp 88) 24 48 (.agg #[(.string ⟨#[]⟩),(.int .i64 0),(.int .i64 0)]) 32 rfl Tryz.underlying24 info48 rfl (by decide) (by omega) (.slice A5 l.length c5) l (⟨s,p,kk⟩:S48) [.string s,.int .i64 p,.int .i64 kk] (fun k_=>k_≠g∧k_≠w7.heap.size) (fun _=>False) rfl (by (go_simp;done)) ?aP (fun _ hk=>hk.elim) ?aF ?aO (Below.refl _ _) ?aS ?aL ?_;(case aP=>exact k48_mkM _ _ _ (⟨s,p,kk⟩:S48));(case aF=>exact fun k hk=>⟨by have:=D.out.cur.lt;omega,by have:=blk_lt BK.out;omega⟩);(case aO=>exact RO.out);(case aS=>exact D.out.size);(case aL=>omega);intro v1 w1 ho hb hg hat;have RO2:=Aside0.mk ho;have D2:=Aside0.mk (D.out.grown HL hg (fun k hk=>⟨Kd.R_base RO.out k hk,(RO.out.1 k hk).1⟩));clear ho hb hg hat y0 y1 y2))
       go_roundg q0
       case rel=>exact ⟨n - 1,l++[⟨s,p,kk⟩],by go_num,by omega,by omega,by simp;omega,⟨Kd.R_mono RO2.out (fun _ hk=>hk.1)⟩,⟨goodChart_snoc GC.out hl10 hs hp⟩,D2⟩
       case measure=>omega
  ·have hn0:n=0:=by omega
   subst hn0
   go_wp2_with fail
   go_ret
   exact ⟨_,rfl,l,Kd.R_mono RO.out (fun _ _=>trivial),⟨GC.out,by omega⟩,D.out⟩
theorem blk8 {W:World} {g t:Nat} {z0 z1 z2 z3 z4 z5 z6 z7:Value} (h:W.heap[g]?=some (.cells #[z0,z1,z2,z3,z4,z5,z6,z7] t (0,0))) (u0 u1 u2 u3 u4 u5 u6 u7:Value):((((((((W.setCell ⟨g,0,none⟩ u0).setCell ⟨g,1,none⟩ u1).setCell ⟨g,2,none⟩ u2).setCell ⟨g,3,none⟩ u3).setCell ⟨g,4,none⟩ u4).setCell ⟨g,5,none⟩ u5).setCell ⟨g,6,none⟩ u6).setCell ⟨g,7,none⟩ u7).heap[g]?=some (.cells #[u0,u1,u2,u3,u4,u5,u6,u7] t (0,0)):=by
 refine blk_put (cs:=#[u0,u1,u2,u3,u4,u5,u6,z7]) ?_ 7 _ rfl;refine blk_put (cs:=#[u0,u1,u2,u3,u4,u5,z6,z7]) ?_ 6 _ rfl;refine blk_put (cs:=#[u0,u1,u2,u3,u4,z5,z6,z7]) ?_ 5 _ rfl;refine blk_put (cs:=#[u0,u1,u2,u3,z4,z5,z6,z7]) ?_ 4 _ rfl;refine blk_put (cs:=#[u0,u1,u2,z3,z4,z5,z6,z7]) ?_ 3 _ rfl;refine blk_put (cs:=#[u0,u1,z2,z3,z4,z5,z6,z7]) ?_ 2 _ rfl;refine blk_put (cs:=#[u0,z1,z2,z3,z4,z5,z6,z7]) ?_ 1 _ rfl;refine blk_put (cs:=#[z0,z1,z2,z3,z4,z5,z6,z7]) ?_ 0 _ rfl;exact h
section
variable {α:Type} {dd:Kd α} {e base g:Nat} {W w:World} {ok:Nat→Prop} {v:Value} {xs:List α}
theorem R_set8 (h:dd.R e W base ok v xs) (hok:∀ k,ok k→k≠g) (u0 u1 u2 u3 u4 u5 u6 u7:Value):dd.R e ((((((((W.setCell ⟨g,0,none⟩ u0).setCell ⟨g,1,none⟩ u1).setCell ⟨g,2,none⟩ u2).setCell ⟨g,3,none⟩ u3).setCell ⟨g,4,none⟩ u4).setCell ⟨g,5,none⟩ u5).setCell ⟨g,6,none⟩ u6).setCell ⟨g,7,none⟩ u7) base ok v xs:=by
 refine Kd.R_far ?_ hok _;refine Kd.R_far ?_ hok _;refine Kd.R_far ?_ hok _;refine Kd.R_far ?_ hok _;refine Kd.R_far ?_ hok _;refine Kd.R_far ?_ hok _;refine Kd.R_far ?_ hok _;refine Kd.R_far ?_ hok _;exact h
theorem S_set8 (h:Kd.S dd e W base ok v xs) (hok:∀ k,ok k→k≠g) (u0 u1 u2 u3 u4 u5 u6 u7:Value):Kd.S dd e ((((((((W.setCell ⟨g,0,none⟩ u0).setCell ⟨g,1,none⟩ u1).setCell ⟨g,2,none⟩ u2).setCell ⟨g,3,none⟩ u3).setCell ⟨g,4,none⟩ u4).setCell ⟨g,5,none⟩ u5).setCell ⟨g,6,none⟩ u6).setCell ⟨g,7,none⟩ u7) base ok v xs:=by
 refine Kd.S_far ?_ hok _;refine Kd.S_far ?_ hok _;refine Kd.S_far ?_ hok _;refine Kd.S_far ?_ hok _;refine Kd.S_far ?_ hok _;refine Kd.S_far ?_ hok _;refine Kd.S_far ?_ hok _;refine Kd.S_far ?_ hok _;exact h
theorem below_set8 (h:Below w.heap.size w W) (hg:w.heap.size≤g) (u0 u1 u2 u3 u4 u5 u6 u7:Value):Below w.heap.size w ((((((((W.setCell ⟨g,0,none⟩ u0).setCell ⟨g,1,none⟩ u1).setCell ⟨g,2,none⟩ u2).setCell ⟨g,3,none⟩ u3).setCell ⟨g,4,none⟩ u4).setCell ⟨g,5,none⟩ u5).setCell ⟨g,6,none⟩ u6).setCell ⟨g,7,none⟩ u7):=by
 repeat (refine below_set ?_ hg)
 exact h
end
structure Bk where
 m0:List Acc
 d:Int
 c:Int
 m1:List Ent
 h:Int
 m2:List Per
 a:Int
 b:Int
def Bk.none:Bk:=⟨[],0,0,[],0,[],0,0⟩
def Bk.val (x:Bk) (v0 v3 v5:Value):Value:=.agg #[v0,.int .i64 x.d,.int .i64 x.c,v3,.int .i64 x.h,v5,.int .i64 x.a,.int .i64 x.b]
def Bk.own (x:Bk) (W:World) (base:Nat) (v0 v3 v5:Value):Prop:=Kd.R k48 48 W base (fun _=>True) v0 x.m0∧Kd.S k41 41 W base (fun _=>True) v3 x.m1∧Kd.R k63 63 W base (fun _=>True) v5 x.m2
theorem copyBooks_is {l0:List Acc} {d c:Int} {l1:List Ent} {h:Int} {l2:List Per} {a b:Int} (hs:smallB l0 l1 l2):impl_copyBooks.f l0 d c l1 h l2 a b=some (l0,d,c,l1,h,l2,a,b):=by
 obtain ⟨h0,⟨h1,h2⟩,h3⟩:=hs;unfold impl_copyBooks.f impl_copyLedger.f;simp only [Option.bind_some,List.nil_append,List.length_nil,Nat.zero_add];rw [if_pos (by omega),if_pos (by omega),if_pos ⟨h1,h2⟩];rfl
noncomputable def leafK (chart:List Acc) (i:Int):Bool:=leafB chart i && (decide (knd chart i=4) || decide (knd chart i=5))
noncomputable def leavesUpto (chart:List Acc):Nat→List Int
 | 0=>[]
 | n+1=>leavesUpto chart n++(if leafK chart (n:Int)=true then [(n:Int)] else [])
noncomputable def leafExt (chart:List Acc) (i:Int) (j:Nat):List Int:=if leafB chart i=true∧((0 < j∧knd chart i=4)∨(1 < j∧knd chart i=5)) then [i] else []
theorem leafExt_0 (chart:List Acc) (i:Int):leafExt chart i 0=[]:=if_neg (fun q=>by rcases q.2 with r | r <;> omega)
theorem leafExt_2 (chart:List Acc) (n:Nat):leavesUpto chart n++leafExt chart n 2=leavesUpto chart (n+1):=by
 unfold leafExt;simp only [leavesUpto];unfold leafK;by_cases h:leafB chart n=true∧((0 < 2∧knd chart n=4)∨(1 < 2∧knd chart n=5))
 ·rw [if_pos h,if_pos (by rw [h.1];rcases h.2 with q | q <;> simp [q.2])]
 ·rw [if_neg h,if_neg (by
   intro q;simp only [Bool.and_eq_true,Bool.or_eq_true,decide_eq_true_eq] at q
   exact h ⟨q.1,q.2.elim (fun k=>.inl ⟨by omega,k⟩) (fun k=>.inr ⟨by omega,k⟩)⟩)]
theorem leafExt_1n {chart:List Acc} {i:Int} (h:¬ (leafB chart i=true∧knd chart i=4)):leafExt chart i 1=[]:=if_neg (fun q=>h ⟨q.1,by rcases q.2 with r | r;(· exact r.2);(· omega)⟩)
theorem leafExt_1y {chart:List Acc} {i:Int} (h:leafB chart i=true∧knd chart i=4):leafExt chart i 1=[i]:=if_pos ⟨h.1,.inl ⟨by omega,h.2⟩⟩
theorem leafExt_2n {chart:List Acc} {i:Int} (h:¬ (leafB chart i=true∧knd chart i=5)):leafExt chart i 2=leafExt chart i 1:=by
 unfold leafExt;by_cases q:leafB chart i=true∧((0 < 1∧knd chart i=4)∨(1 < 1∧knd chart i=5))
 ·rw [if_pos q,if_pos ⟨q.1,.inl ⟨by omega,by omega⟩⟩]
 ·rw [if_neg q,if_neg (fun k=>by
   rcases k.2 with r | r
   ·exact q ⟨k.1,.inl ⟨by omega,r.2⟩⟩
   ·exact h ⟨k.1,r.2⟩)]
theorem leafExt_2y {chart:List Acc} {i:Int} (h:leafB chart i=true∧knd chart i=5):leafExt chart i 2=[i]:=if_pos ⟨h.1,.inr ⟨by omega,h.2⟩⟩
theorem leafExt_1of5 {chart:List Acc} {i:Int} (h:knd chart i=5):leafExt chart i 1=[]:=if_neg (fun q=>by rcases q.2 with r | r <;> omega)
theorem leavesUpto_len (chart:List Acc) (n:Nat):(leavesUpto chart n).length≤n:=by
 induction n with
 | zero=>simp [leavesUpto]
 | succ n ih=>simp only [leavesUpto,List.length_append];split <;> simp <;> omega
theorem leafExt_len (chart:List Acc) (i:Int) (j:Nat):(leafExt chart i j).length≤1:=by unfold leafExt;split <;> simp
def NB1 (b:Nat) (v:Value):Prop:=some b≠v.ownBlock
theorem NB1.after {b:Nat} {v v1:Value} {W:World} (h:NB1 b v) (hat:v1.ownBlock=v.ownBlock∨∃ q,v1.ownBlock=some q∧W.heap.size≤q) (ha:b < W.heap.size):NB1 b v1:=by
 rcases hat with hat | ⟨q,hq,hle⟩
 ·unfold NB1;rw [hat];exact h
 ·unfold NB1;rw [hq];intro e;injection e with e;omega
set_option maxHeartbeats 16000000 in
set_option maxRecDepth 100000 in
theorem impl_leaves.to (A0:Option Addr) (c0:Nat) (l0:List Acc) (d c:Int) (g:Nat) (w:World) (hr0:Kd.C k48 w A0 l0.length l0) (hl:l0.length≤1048576) (hg:w.heap[g]?=some (.cells #[.int .i64 4,.int .i64 5] 3 (0,0))) :
 Calls Tryz.prog 39 #[.agg #[.slice A0 l0.length c0,.int .i64 d,.int .i64 c],.slice (some ⟨g,0,none⟩) 2 2] w fun e w'=>∃ v:Value,e = .returned v∧Kd.R (Kd.int .i64) 3 w' w.heap.size (fun _=>True) v (leavesUpto l0 l0.length)∧Below w.heap.size w w':=by
 have H0:=Aside0.mk hr0;have HG:=Aside0.mk hg;have HGW:=Aside0.mk (blk_lt hg);have HB:=Aside0.mk (below_alloc (Below.refl w.heap.size w) (.cells #[.slice A0 l0.length c0,.int .i64 d,.int .i64 c] 77));clear hr0 hg
 go_enter Tryz.func39,Tryz.ntmps39
 go_wp2_with (((with_reducible refine gate_dst (N:=10) rfl ?_);refine Kd.R_lit (Kd.int .i64) _ 3 ?hg (N:=10) ?hd (xs:=([]:List Int)) (inner:=[]) (ok:=fun _=>True) (okp:=fun _=>True) ?hr ?hp (fun _ hk=>hk) trivial (Below.refl _ _) (Nat.le_refl _) (by simp) ?_;(case hd=>rfl);(case hg=>rfl);(case hr=>(go_simp;done));(case hp=>exact (Reps.none _ _));intro v1 w1 ho hb hg hnew;have RR:=Aside0.mk (Kd.R_lower (Kd.R_mono (ok':=fun k=>w.heap.size < k) (Kd.R_bound ho) (fun k hk=>by have:=hk.2.1;simp at this;omega)) (HB.out.size));have f0:w1.cell? ⟨w.heap.size,0,none⟩=some (.slice A0 l0.length c0):=y01 hb (by go_simp);have HB1:=Aside0.mk (below_into (w:=w) hb HB.out);clear ho hb hg hnew))
 have F0:=Aside0.mk f0;clear HB f0
 go_loopw [15,5] (fun u v wr=>∃ n:Nat,n≤l0.length∧u = .int .i64 n∧Aside0 (Kd.R (Kd.int .i64) 3 wr w.heap.size (fun k=>w.heap.size < k) v (leavesUpto l0 n))∧Aside0 (Below w.heap.size w wr)∧Aside0 (wr.cell? ⟨w.heap.size,0,none⟩=some (.slice A0 l0.length c0))) (fun u _ _=>(l0.length - (intOf u).toNat))
 case atStart=>exact ⟨0,by omega,rfl,RR,HB1,F0⟩
 case round =>
  clear RR HB1 F0;obtain ⟨n,hn,rfl,RR,HB,F0⟩:=hrel;have f0:=F0.out;have z0:=World.block_lt_of_cell? _ _ f0;by_cases hlt:n < l0.length
  case neg =>
   have hn2:n=l0.length:=by omega
   have RR':=Aside0.mk (show Kd.R (Kd.int .i64) 3 wr w.heap.size (fun k=>w.heap.size < k) _ (leavesUpto l0 l0.length) from hn2 ▸ RR.out);clear hn2
   go_wp2_with fail
   go_ret
   exact ⟨_,rfl,Kd.R_mono RR'.out (fun _ _=>trivial),HB.out⟩
  have hin:((n:Nat):Int) < (l0.length:Int):=by omega
  obtain ⟨ad,e0,x0,x1,x2⟩:=at_T48 (Kd.C_below H0.out HB.out) n (by omega) hin;cases e0;simp only [Int.toNat_natCast] at x0 x1 x2;have hkd:(rd_T48 l0 (n:Int)).f2=knd l0 n:=rfl;have hl1:=leavesUpto_len l0 n;have HC0:=Aside0.mk (Kd.C_below H0.out HB.out);have HK:=Aside0.mk hkd;have HG1:=Aside0.mk (y03 HG.out HB.out);clear hkd;generalize (rd_T48 l0 (n:Int)).f0=y0 at *;generalize (rd_T48 l0 (n:Int)).f1=y1 at *;have hab:=below_alloc (Below.refl wr.heap.size wr) (.cells #[.string y0,.int .i64 y1,.int .i64 (rd_T48 l0 (n:Int)).f2] 48);have HR1:=Aside0.mk (Kd.R_alloc RR.out (.cells #[.string y0,.int .i64 y1,.int .i64 (rd_T48 l0 (n:Int)).f2] 48));have NB:=Aside0.mk (show NB1 wr.heap.size _ from fun e=>by have:=Kd.R_lt RR.out _ e.symm;omega);have HBX:=Aside0.mk (below_into (w:=w) hab HB.out);have F1:=Aside0.mk (y01 hab f0);have G1:=Aside0.mk (y03 HG1.out hab);have YC:=Aside0.mk (show (wr.alloc (.cells #[.string y0,.int .i64 y1,.int .i64 (rd_T48 l0 (n:Int)).f2] 48)).cell? ⟨wr.heap.size,2,none⟩=some (.int .i64 (rd_T48 l0 (n:Int)).f2) from by go_simp);have ZW:=Aside0.mk (show wr.heap.size < (wr.alloc (.cells #[.string y0,.int .i64 y1,.int .i64 (rd_T48 l0 (n:Int)).f2] 48)).heap.size from by simp);generalize (rd_T48 l0 (n:Int)).f2=kk at *;obtain rfl:kk=knd l0 n:=HK.out;clear hab f0 HK HG1
  go_wp2_with fail
  generalize hb1:wr.heap.size=b1 at *
  go_loopw [22,5] (fun u v wq=>∃ j:Nat,j≤2∧u = .int .i64 j∧Aside0 (Kd.R (Kd.int .i64) 3 wq w.heap.size (fun k=>w.heap.size < k) v (leavesUpto l0 n++leafExt l0 n j))∧Aside0 (NB1 b1 v)∧Aside0 (Below w.heap.size w wq)∧Aside0 (wq.cell? ⟨w.heap.size,0,none⟩=some (.slice (some ad) l0.length c0))∧Aside0 (wq.cell? ⟨b1,2,none⟩=some (.int .i64 (knd l0 n)))∧Aside0 (wq.heap[g]?=some (.cells #[.int .i64 4,.int .i64 5] 3 (0,0)))) (fun u _ _=>(2 - (intOf u).toNat))
  case atStart=>exact ⟨0,by omega,rfl,⟨by rw [leafExt_0,List.append_nil];exact HR1.out⟩,NB,HBX,F1,YC,G1⟩
  case round =>
   clear HR1 NB HBX F1 YC G1 RR HB F0 x0 x1 x2 ZW z0;obtain ⟨j,hj,rfl,RR,NB,HB,F0,YC,G1⟩:=hrel;have hj3:j=0∨j=1∨j=2:=by omega
   rcases hj3 with rfl | rfl | rfl
   ·have q0:wr.cell? ⟨g,0,none⟩=some (.int .i64 4):=(y00 G1.out 0).trans rfl;have yc:=YC.out;have f0:=F0.out;by_cases hk:knd l0 n=4
    case neg =>
     have kb:(knd l0 n == 4)=false:=beq_eq_false_iff_ne.2 hk;have HE:=Aside0.mk (show leafExt l0 n 1=leafExt l0 n 0 from by rw [leafExt_0,leafExt_1n (fun q=>hk q.2)]);clear hk
     go_wp2_with fail
     go_roundw
     case rel=>exact ⟨1,by omega,rfl,⟨by rw [HE.out];exact RR.out⟩,NB,HB,F0,YC,G1⟩
     case measure=>simp [intOf]
    case pos =>
     have kb:(knd l0 n == 4)=true:=by rw [hk];rfl
     have HKK:=Aside0.mk hk;clear hk;cases hlf:leafB l0 n with
     | false =>
      have HE:=Aside0.mk (show leafExt l0 n 1=leafExt l0 n 0 from by rw [leafExt_0,leafExt_1n (fun q=>by rw [hlf] at q;cases q.1)]);have HLF:=Aside0.mk hlf;clear hlf
      go_wp2_with fail
      refine (impl_leafAt.to (some ad) c0 l0 n _ (Kd.C_below H0.out HB.out)).mono ?_;rintro x w' ⟨rfl,rfl⟩;rw [HLF.out]
      go_wp2_with fail
      go_roundw
      case rel=>exact ⟨1,by omega,rfl,⟨by rw [HE.out];exact RR.out⟩,NB,HB,F0,YC,G1⟩
      case measure=>simp [intOf]
     | true =>
      have HE:=Aside0.mk (show leavesUpto l0 n++leafExt l0 n 1=(leavesUpto l0 n++leafExt l0 n 0)++[(n:Int)] from by rw [leafExt_0,List.append_nil,leafExt_1y ⟨hlf,HKK.out⟩]);have HLF:=Aside0.mk hlf;have hln:(leavesUpto l0 n++leafExt l0 n 0).length≤1048577:=by have:=leafExt_len l0 n 0;rw [List.length_append];omega
      have HLN:=Aside0.mk hln;clear hlf hln
      go_wp2_with fail
      refine (impl_leafAt.to (some ad) c0 l0 n _ (Kd.C_below H0.out HB.out)).mono ?_;rintro x w' ⟨rfl,rfl⟩;rw [HLF.out];have zf:=World.block_lt_of_cell? _ _ f0;have zy:=World.block_lt_of_cell? _ _ yc
      go_wp2_with (((with_reducible refine gate_builtin (b:=.append) (xs:=#[.tmp 37,.tmp 39]) rfl ?_);at_builtin;refine Kd.R_append (Kd.int .i64) (w0:=w) w.heap.size rfl (.tmp 37) (.tmp 39) 42 3 (.int .i64 0) 8 rfl Tryz.underlying42 info3 rfl (by decide) (by omega) _ (leavesUpto l0 n++leafExt l0 n 0) (n:Int) [.int .i64 (n:Int)] (fun k=>w.heap.size < k) (fun _=>False) rfl rfl rfl (fun _ hk=>hk.elim) (fun k hk=>by omega) RR.out HB.out HB.out.size (by have:=HLN.out;omega) ?_;intro v7 wa ho hb hg hat;have F0':=Aside0.mk (cell_grown hg f0 (fun e=>by have:=RR.out.1 _ e.symm;simp at this));have YC':=Aside0.mk (cell_grown hg yc NB.out);have NB':=Aside0.mk (NB.out.after hat zy);have G1':=Aside0.mk (blk_grown G1.out hg (fun e=>by have:=RR.out.1 _ e.symm;have:=HGW.out;omega));have RR':=Aside0.mk ho;have HB':=Aside0.mk hb;clear ho hb hg hat f0 yc q0 RR NB HB F0 YC G1 zf zy))
      go_roundw
      case rel=>exact ⟨1,by omega,rfl,⟨by rw [HE.out];exact RR'.out⟩,NB',HB',F0',YC',G1'⟩
      case measure=>simp [intOf]
   ·have q0:wr.cell? ⟨g,1,none⟩=some (.int .i64 5):=(y00 G1.out 1).trans rfl;have yc:=YC.out;have f0:=F0.out;by_cases hk:knd l0 n=5
    case neg =>
     have kb:(knd l0 n == 5)=false:=beq_eq_false_iff_ne.2 hk;have HE:=Aside0.mk (show leafExt l0 n 2=leafExt l0 n 1 from leafExt_2n (fun q=>hk q.2));clear hk
     go_wp2_with fail
     go_roundw
     case rel=>exact ⟨2,by omega,rfl,⟨by rw [HE.out];exact RR.out⟩,NB,HB,F0,YC,G1⟩
     case measure=>simp [intOf]
    case pos =>
     have kb:(knd l0 n == 5)=true:=by rw [hk];rfl
     have HKK:=Aside0.mk hk;clear hk;cases hlf:leafB l0 n with
     | false =>
      have HE:=Aside0.mk (show leafExt l0 n 2=leafExt l0 n 1 from leafExt_2n (fun q=>by rw [hlf] at q;cases q.1));have HLF:=Aside0.mk hlf;clear hlf
      go_wp2_with fail
      refine (impl_leafAt.to (some ad) c0 l0 n _ (Kd.C_below H0.out HB.out)).mono ?_;rintro x w' ⟨rfl,rfl⟩;rw [HLF.out]
      go_wp2_with fail
      go_roundw
      case rel=>exact ⟨2,by omega,rfl,⟨by rw [HE.out];exact RR.out⟩,NB,HB,F0,YC,G1⟩
      case measure=>simp [intOf]
     | true =>
      have HE:=Aside0.mk (show leavesUpto l0 n++leafExt l0 n 2=(leavesUpto l0 n++leafExt l0 n 1)++[(n:Int)] from by rw [leafExt_1of5 HKK.out,List.append_nil,leafExt_2y ⟨hlf,HKK.out⟩]);have HLF:=Aside0.mk hlf;have hln:(leavesUpto l0 n++leafExt l0 n 1).length≤1048577:=by have:=leafExt_len l0 n 1;rw [List.length_append];omega
      have HLN:=Aside0.mk hln;clear hlf hln
      go_wp2_with fail
      refine (impl_leafAt.to (some ad) c0 l0 n _ (Kd.C_below H0.out HB.out)).mono ?_;rintro x w' ⟨rfl,rfl⟩;rw [HLF.out];have zf:=World.block_lt_of_cell? _ _ f0;have zy:=World.block_lt_of_cell? _ _ yc
      go_wp2_with (((with_reducible refine gate_builtin (b:=.append) (xs:=#[.tmp 37,.tmp 39]) rfl ?_);at_builtin;refine Kd.R_append (Kd.int .i64) (w0:=w) w.heap.size rfl (.tmp 37) (.tmp 39) 42 3 (.int .i64 0) 8 rfl Tryz.underlying42 info3 rfl (by decide) (by omega) _ (leavesUpto l0 n++leafExt l0 n 1) (n:Int) [.int .i64 (n:Int)] (fun k=>w.heap.size < k) (fun _=>False) rfl rfl rfl (fun _ hk=>hk.elim) (fun k hk=>by omega) RR.out HB.out HB.out.size (by have:=HLN.out;omega) ?_;intro v7 wa ho hb hg hat;have F0':=Aside0.mk (cell_grown hg f0 (fun e=>by have:=RR.out.1 _ e.symm;simp at this));have YC':=Aside0.mk (cell_grown hg yc NB.out);have NB':=Aside0.mk (NB.out.after hat zy);have G1':=Aside0.mk (blk_grown G1.out hg (fun e=>by have:=RR.out.1 _ e.symm;have:=HGW.out;omega));have RR':=Aside0.mk ho;have HB':=Aside0.mk hb;clear ho hb hg hat f0 yc q0 RR NB HB F0 YC G1 zf zy))
      go_roundw
      case rel=>exact ⟨2,by omega,rfl,⟨by rw [HE.out];exact RR'.out⟩,NB',HB',F0',YC',G1'⟩
      case measure=>simp [intOf]
   ·have RR2:=Aside0.mk (show Kd.R (Kd.int .i64) 3 wr w.heap.size (fun k=>w.heap.size < k) _ (leavesUpto l0 (n+1)) from by have:=RR.out;rw [leafExt_2] at this;exact this)
    go_wp2_with fail
    go_roundw
    case rel=>exact ⟨n+1,by omega,by go_num,RR2,HB,F0⟩
    case measure=>simp [intOf];omega
set_option maxHeartbeats 8000000 in
set_option maxRecDepth 100000 in
theorem impl_upTo.to (A:Option Addr) (cc:Nat) (es:List Ent) (h a d c tt:Int) (w:World) (hr:Kd.C k41 w A es.length es) (hn:es.length≤1000) (hf:∀ e∈es,entFine e) :
 Calls Tryz.prog 40 #[.agg #[.slice A es.length cc,.int .i64 h],.int .i64 a,.int .i64 d,.int .i64 c,.int .i64 tt] w fun e w'=>e = .returned (.tuple #[.int .i64 (amtV a d c (-4611686018427387904) tt es),.int .i64 (basV a d c (-4611686018427387904) tt es)])∧Below w.heap.size w w':=by
 have HR:=Aside0.mk hr;have HF:=Aside0.mk hf;have HB:=Aside0.mk (below_alloc (Below.refl w.heap.size w) (.cells #[.slice A es.length cc,.int .i64 h] 79));clear hr hf;have HC:=Aside0.mk (fun W hC=>impl_Balance.to A cc es h a d c (-4611686018427387904) tt W hC hn HF.out);generalize amtV a d c (-4611686018427387904) tt es=x1 at *;generalize basV a d c (-4611686018427387904) tt es=x2 at *
 go_enter Tryz.func40,Tryz.ntmps40
 go_wp2_with fail
 refine (HC.out _ (Kd.C_below HR.out HB.out)).mono ?_;rintro e w2 ⟨rfl,hb⟩;have HB2:=Aside0.mk (below_into (w:=w) hb HB.out);clear hb
 go_wp2_with fail
 go_ret2
 exact ⟨rfl,HB2.out⟩
set_option maxHeartbeats 8000000 in
set_option maxRecDepth 100000 in
theorem impl_open.to (A0:Option Addr) (n0 c0:Nat) (d c:Int) (A1:Option Addr) (n1 c1:Nat) (h:Int) (A2:Option Addr) (n2 c2:Nat) (a b:Int) (w:World) :
 Calls Tryz.prog 38 #[.agg #[.slice A0 n0 c0,.int .i64 d,.int .i64 c,.slice A1 n1 c1,.int .i64 h,.slice A2 n2 c2,.int .i64 a,.int .i64 b]] w fun e w'=>e = .returned (.agg #[.slice A0 n0 c0,.int .i64 d,.int .i64 c,.slice A1 n1 c1,.int .i64 h,.slice A0 n0 c0,.int .i64 d,.int .i64 c,.slice A1 n1 c1,.int .i64 h,.slice A2 n2 c2,.int .i64 a,.int .i64 b])∧Below w.heap.size w w':=by
 go_enter Tryz.func38,Tryz.ntmps38
 go_wp2_with fail
 refine bodyPost_ret (results_cell_row rfl _ _ (w.heap.size+1) 81 #[.slice A0 n0 c0,.int .i64 d,.int .i64 c,.slice A1 n1 c1,.int .i64 h,.slice A0 n0 c0,.int .i64 d,.int .i64 c,.slice A1 n1 c1,.int .i64 h,.slice A2 n2 c2,.int .i64 a,.int .i64 b] (0,0) _ rfl (by have:=blk_new (w.alloc (.cells #[.slice A0 n0 c0,.int .i64 d,.int .i64 c,.slice A1 n1 c1,.int .i64 h,.slice A2 n2 c2,.int .i64 a,.int .i64 b] 32)) (.cells #[.slice A0 n0 c0,.int .i64 d,.int .i64 c,.slice A1 n1 c1,.int .i64 h,.slice A0 n0 c0,.int .i64 d,.int .i64 c,.slice A1 n1 c1,.int .i64 h,.slice A2 n2 c2,.int .i64 a,.int .i64 b] 81);simpa using this) Tryz.underlying81 rfl (by kernel_rfl)) rfl ?_;exact ⟨rfl,below_two w _ _⟩
theorem Shares_l3 (x5 x8:List Int) (x9 one m:Int) (hm:firstMax x8 m) (hl:x5.length=x8.length):∀ (n k:Nat) (b i:Int),0≤b→b < i→i+n=(x8.length:Int)→x8.length≤200→n < k→(∀ j:Int,0≤j→j < i→rd x8 j≤rd x8 b∧(j < b→rd x8 j < rd x8 b)) →
 spec_Shares.l3 k x5 x8 x9 one b i=spec_Shares.l2 (k - n - 1) (x5.set m.toNat (wrap64 (rd x5 m+one))) (x8.set m.toNat (-1)) (wrap64 (x9 - one)) one:=by
 intro n
 induction n with
 | zero =>
  intro k b i b0 bi hi hc hk hp;obtain ⟨k,rfl⟩:∃ j,k=j+1:=⟨k - 1,by omega⟩;have hb:b=m:=firstMax_one ⟨b0,by omega,fun j j0 j1=>hp j j0 (by omega)⟩ hm;subst hb;rw [spec_Shares.l3,if_neg (by omega),if_pos b0,if_pos (by omega),if_pos (by omega)];rfl
 | succ n ih =>
  intro k b i b0 bi hi hc hk hp;obtain ⟨k,rfl⟩:∃ j,k=j+1:=⟨k - 1,by omega⟩;have hw:wrap64 (i+1)=i+1:=by unfold wrap64;omega
  rw [spec_Shares.l3,if_pos (by omega),if_pos (by omega),if_pos b0,if_pos (by omega),hw];have e:k+1 - (n+1) - 1=k - n - 1:=by omega
  by_cases q:rd x8 i > rd x8 b
  ·rw [if_pos q,e];refine ih k i (i+1) (by omega) (by omega) (by omega) hc (by omega) (fun j j0 j1=>?_);by_cases ej:j=i
   ·subst ej;exact ⟨Int.le_refl _,fun q=>absurd q (by omega)⟩
   ·have:=(hp j j0 (by omega)).1;exact ⟨by omega,fun _=>by omega⟩
  ·rw [if_neg q,e];refine ih k b (i+1) b0 (by omega) (by omega) hc (by omega) (fun j j0 j1=>?_);by_cases ej:j=i
   ·subst ej;exact ⟨by omega,fun q=>absurd q (by omega)⟩
   ·exact hp j j0 (by omega)
set_option maxRecDepth 100000 in
theorem Shares_l2 {one:Int} (ho:one=1∨one = -1):∀ (P:List Cut) (k:Nat) (x5 x8:List Int),P.length≤200→picks x8 P→x5.length=x8.length→x8.length≤200→P.length * 300 < k →
 spec_Shares.l2 k x5 x8 (one * (P.length:Int)) one=some (giveC one x5 P)
 | [],k,x5,x8,_,_,_,_,hk=>by
  obtain ⟨k,rfl⟩:∃ j,k=j+1:=⟨k - 1,by omega⟩;rw [spec_Shares.l2,if_pos (by simp)];rfl
 | c :: cs,k,x5,x8,hP,hp,hl,hc,hk=>by
  obtain ⟨k,rfl⟩:∃ j,k=j+1:=⟨k - 1,by omega⟩;unfold picks at hp;obtain ⟨hm,hp⟩:=hp;have hlen:=hm.2.1;have h0:=hm.1;simp only [List.length_cons] at hP hk
  have hne:¬ one * (((c :: cs).length:Nat):Int)=0:=by
   simp only [List.length_cons];rcases ho with rfl | rfl <;> omega
  rw [spec_Shares.l2,if_neg hne]
  rw [Shares_l3 x5 x8 _ one c.f0 hm hl (x8.length - 1) k 0 1 (by omega) (by omega) (by omega) hc (by omega) (fun j j0 j1=>by
   have:j=0:=by omega
   subst this
   exact ⟨Int.le_refl _,fun q=>absurd q (by omega)⟩)]
  have hs:wrap64 (one * (((c :: cs).length:Nat):Int) - one)=one * (cs.length:Int):=by
   simp only [List.length_cons];unfold wrap64;rcases ho with rfl | rfl <;> omega
  rw [hs,Shares_l2 ho cs _ _ _ (by omega) hp (by simp [hl]) (by simpa using hc) (by omega)];rfl
theorem Shares_l0 (t:Int) (ws:List Int) (hl:ws.length≤200):∀ (n k:Nat) (i:Int),0≤i→i+n=(ws.length:Int)→n < k→(∀ x∈ws.take i.toNat,factP x) →
 spec_Shares.l0 k t ws [] (sumS (ws.take i.toNat)) i=open Classical in if ∀ x∈ws,factP x then (if sumS ws=0 then some [] else spec_Shares.l1 (k - n - 1) t ws [] (sumS ws) [] t 0) else some []:=by
 intro n
 induction n with
 | zero =>
  intro k i i0 hi hk hp;obtain ⟨k,rfl⟩:∃ j,k=j+1:=⟨k - 1,by omega⟩;have e:ws.take i.toNat=ws:=List.take_of_length_le (by omega);rw [e] at hp ⊢;rw [spec_Shares.l0,if_neg (by omega),if_pos hp];rfl
 | succ n ih =>
  intro k i i0 hi hk hp;obtain ⟨k,rfl⟩:∃ j,k=j+1:=⟨k - 1,by omega⟩;have hm:=mem_rd (l:=ws) i0 (by omega);have hw:wrap64 (i+1)=i+1:=by unfold wrap64;omega
  rw [spec_Shares.l0,if_pos (by omega),if_pos i0];by_cases q:factP (rd ws i)
  ·have hf:spec_l1Factor.f (rd ws i)=some true:=by
    unfold spec_l1Factor.f spec_l1In.f;unfold factP at q;simp [inB_of q]
   have hs:=sumS_b hp
   have hs2:wrap64 (sumS (ws.take i.toNat)+rd ws i)=sumS (ws.take (i+1).toNat):=by
    rw [take_rd i0 (by omega),sumS_app];simp only [sumS];have hl2:(ws.take i.toNat).length≤200:=by rw [List.length_take];omega
    unfold factP at q;unfold wrap64;omega
   rw [hf];simp only [Option.bind_some,if_true]
   rw [hs2,hw,ih k (i+1) (by omega) (by omega) (by omega) (fun x hx=>by
    rw [take_rd i0 (by omega)] at hx;rcases List.mem_append.1 hx with hx | hx
    ·exact hp x hx
    ·rw [List.mem_singleton.1 hx];exact q)]
   rw [show k+1 - (n+1) - 1=k - n - 1 by omega]
  ·have hf:spec_l1Factor.f (rd ws i)=some false:=by
    unfold spec_l1Factor.f spec_l1In.f;unfold factP at q;simp [inB_not q]
   rw [hf,if_neg (fun h=>q (h _ hm))];simp
theorem Shares_l1 (t all:Int) (ws:List Int) (hl:ws.length≤200) (ht:-100000000000≤t∧t≤100000000000) (hf:∀ x∈ws,factP x) (ha:all≠0):∀ (n k:Nat) (i:Int),0≤i→i+n=(ws.length:Int)→n < k →
 spec_Shares.l1 k t ws ((quoS t all ws).take i.toNat) all ((rstS t all ws).take i.toNat) (wrap64 (t - sumS ((quoS t all ws).take i.toNat))) i=if wrap64 (t - sumS (quoS t all ws)) < 0 then spec_Shares.j3 (k - n - 1) (quoS t all ws) (rstS t all ws) (wrap64 (t - sumS (quoS t all ws))) (-1) else spec_Shares.j3 (k - n - 1) (quoS t all ws) (rstS t all ws) (wrap64 (t - sumS (quoS t all ws))) 1:=by
 have l1:(quoS t all ws).length=ws.length:=by unfold quoS;rw [List.length_map]
 have l2:(rstS t all ws).length=ws.length:=by unfold rstS;rw [List.length_map]
 intro n
 induction n with
 | zero =>
  intro k i i0 hi hk;obtain ⟨k,rfl⟩:∃ j,k=j+1:=⟨k - 1,by omega⟩;have e:(quoS t all ws).take i.toNat=quoS t all ws:=List.take_of_length_le (by omega);have e2:(rstS t all ws).take i.toNat=rstS t all ws:=List.take_of_length_le (by omega);rw [e,e2,spec_Shares.l1,if_neg (by omega)];rfl
 | succ n ih =>
  intro k i i0 hi hk;obtain ⟨k,rfl⟩:∃ j,k=j+1:=⟨k - 1,by omega⟩;have hm:=mem_rd (l:=ws) i0 (by omega);have hw:wrap64 (i+1)=i+1:=by unfold wrap64;omega
  have hb:=mulB ht (hf _ hm);have hwm:wrap64 (t * rd ws i)=t * rd ws i:=by unfold wrap64;omega
  have hd:=tdivB (a:=t * rd ws i) (b:=all);have hr:=tmodB (a:=t * rd ws i) (b:=all);have hwd:wrap64 (Int.tdiv (t * rd ws i) all)=Int.tdiv (t * rd ws i) all:=by unfold wrap64;omega
  have habs:spec_l1Abs.f (Int.tmod (t * rd ws i) all)=some (absI (Int.tmod (t * rd ws i) all)):=by
   unfold spec_l1Abs.f absI
   split
   ·congr 1;unfold wrap64;omega
   ·rfl
  have hq:rd (quoS t all ws) i=Int.tdiv (t * rd ws i) all:=by
   unfold rd quoS;rw [List.getD_eq_getElem?_getD,List.getD_eq_getElem?_getD,List.getElem?_map,List.getElem?_eq_getElem (by omega)];rfl
  have hq2:rd (rstS t all ws) i=absI (Int.tmod (t * rd ws i) all):=by
   unfold rd rstS;rw [List.getD_eq_getElem?_getD,List.getD_eq_getElem?_getD,List.getElem?_map,List.getElem?_eq_getElem (by omega)];rfl
  rw [spec_Shares.l1,if_pos (by omega),if_pos i0,if_neg ha,if_pos (by rw [List.length_take];omega),hwm,habs];simp only [Option.bind_some];rw [if_pos (by rw [List.length_take];omega),hwd,← hq,← hq2,← take_rd i0 (by omega),← take_rd i0 (by omega),hw,wrap_sub]
  have hs:t - sumS ((quoS t all ws).take i.toNat) - rd (quoS t all ws) i=t - sumS ((quoS t all ws).take (i+1).toNat):=by
   rw [take_rd i0 (by omega),sumS_app];simp only [sumS];omega
  rw [hs,ih k (i+1) (by omega) (by omega) (by omega)];rw [show k+1 - (n+1) - 1=k - n - 1 by omega]
theorem spec_Shares_is (t:Int) (ws:List Int) (k:Nat) (hk:100000≤k):spec_Shares.f k t ws=some (sharesR t ws):=by
 unfold spec_Shares.f spec_l1Amount.f;simp only [Option.bind_some];by_cases ht:-100000000000≤t∧t≤100000000000
 case neg =>
  obtain ⟨k,rfl⟩:∃ j,k=j+1:=⟨k - 1,by omega⟩;rw [inB_not ht,if_neg (by simp),spec_Shares.j0,if_pos rfl];unfold sharesR;rw [if_neg (fun q=>ht q.1)]
 obtain ⟨k,rfl⟩:∃ j,k=j+1:=⟨k - 1,by omega⟩;rw [inB_of ht,if_pos rfl,spec_Shares.j0];by_cases hl:ws.length≤200
 case neg =>
  rw [if_pos (by simp;omega)];unfold sharesR;rw [if_neg (fun q=>hl q.2.1)]
 rw [if_neg (by simp;omega)];have h0:=Shares_l0 t ws hl ws.length k 0 (Int.le_refl _) (by omega) (by omega) (by simp);simp only [Int.toNat_zero,List.take_zero,sumS] at h0;rw [h0];by_cases hf:∀ x∈ws,factP x
 case neg =>
  rw [if_neg hf];unfold sharesR;rw [if_neg (fun q=>hf q.2.2.1)]
 rw [if_pos hf];by_cases hs:sumS ws=0
 ·rw [if_pos hs];unfold sharesR;rw [if_neg (fun q=>q.2.2.2 hs)]
 rw [if_neg hs];have hpos:=sumS_b hf;have h1:=Shares_l1 t (sumS ws) ws hl ht hf hs ws.length (k - ws.length - 1) 0 (Int.le_refl _) (by omega) (by omega);simp only [Int.toNat_zero,List.take_zero,sumS,Int.sub_zero] at h1;rw [show wrap64 t=t by unfold wrap64;omega] at h1;rw [h1];obtain ⟨f1,f2,f3⟩:=left_few (t:=t) (ws:=ws) (fun x hx=>(hf x hx).1) (by omega);have hpk:=picks_rst (t:=t) (ws:=ws) (t - sumS (quoS t (sumS ws) ws)).natAbs (by omega);have e1:(quoS t (sumS ws) ws).length=ws.length:=by unfold quoS;rw [List.length_map]
 have e2:(rstS t (sumS ws) ws).length=ws.length:=by unfold rstS;rw [List.length_map]
 have e3:((msortC ws.length (cutsOf (rstS t (sumS ws) ws))).take (t - sumS (quoS t (sumS ws) ws)).natAbs).length=(t - sumS (quoS t (sumS ws) ws)).natAbs:=by
  rw [List.length_take,(msortC_perm _ _).length_eq];unfold cutsOf;rw [List.length_map,List.length_range,e2];omega
 have hsr:sharesR t ws=giveC (oneS (t - sumS (quoS t (sumS ws) ws))) (quoS t (sumS ws) ws) ((msortC ws.length (cutsOf (rstS t (sumS ws) ws))).take (t - sumS (quoS t (sumS ws) ws)).natAbs):=by
  unfold sharesR;rw [if_pos ⟨ht,hl,hf,hs⟩]
 rw [hsr];clear hsr;generalize t - sumS (quoS t (sumS ws) ws)=L at *;generalize (msortC ws.length (cutsOf (rstS t (sumS ws) ws))).take L.natAbs=P at *;rw [show wrap64 L=L by unfold wrap64;omega];obtain ⟨k2,hk2⟩:∃ j,k - ws.length - 1 - ws.length - 1=j+1:=⟨k - ws.length - 1 - ws.length - 1 - 1,by omega⟩;rw [hk2];by_cases hL:L < 0
 ·rw [if_pos hL,spec_Shares.j3];have:=Shares_l2 (one:=-1) (.inr rfl) P k2 (quoS t (sumS ws) ws) (rstS t (sumS ws) ws) (by omega) hpk (by omega) (by omega) (by omega);rw [show (-1:Int) * (P.length:Int)=L by omega] at this;rw [this];unfold oneS;rw [if_pos hL]
 ·rw [if_neg hL,spec_Shares.j3];have:=Shares_l2 (one:=1) (.inl rfl) P k2 (quoS t (sumS ws) ws) (rstS t (sumS ws) ws) (by omega) hpk (by omega) (by omega) (by omega);rw [show (1:Int) * (P.length:Int)=L by omega] at this;rw [this];unfold oneS;rw [if_neg hL]
end Go.Proofs.YtnknanppoenigaaGreatDoor.Q
namespace Go.Proofs.YtnknanppoenigaaGreatDoor.Q
open Go.RowKit Go.Proofs.YtnknanppoenigaaGreatDoorW.PrintWords Go.Proofs.YtnknanppoenigaaGreatDoorW.PrintLast Go.Proofs.YtnknanppoenigaaGreatDoorW.PrintMore
attribute [local go_sem] max2_int min2_int max_two min_two max_three min_three max_four min_four
set_option linter.unusedVariables false
set_option linter.unusedSimpArgs false
theorem curSum_step {l:List Lin} {i:Int} (c:Int) (h0:0≤i) (h1:i < (l.length:Int)):curSum (l.take (i+1).toNat) c=curSum (l.take i.toNat) c+if (rd_T67 l i).f2=c then (rd_T67 l i).f3 else 0:=by rw [take_snoc h0 h1,curSum_snoc]
theorem dimSum_step {l:List Lin} {i:Int} (c:Int) (h0:0≤i) (h1:i < (l.length:Int)):dimSum (l.take (i+1).toNat) c=dimSum (l.take i.toNat) c+if (rd_T67 l i).f1=c then (rd_T67 l i).f4 else 0:=by rw [take_snoc h0 h1,dimSum_snoc]
theorem sums_bounds {l:List Lin} (h:∀ x∈l,(-100000000000≤x.f3∧x.f3≤100000000000)∧(-100000000000≤x.f4∧x.f4≤100000000000)) (hl:l.length≤60) (n:Nat) (c d:Int):(-6000000000000≤curSum (l.take n) c∧curSum (l.take n) c≤6000000000000)∧(-6000000000000≤dimSum (l.take n) d∧dimSum (l.take n) d≤6000000000000):=by
 have hs:smallLines (l.take n):=fun y hy=>h y (List.mem_of_mem_take hy)
 have h1:=curSum_small hs c;have h2:=dimSum_small hs d;have h3:((l.take n).length:Int)≤60:=by rw [List.length_take];omega
 omega
theorem frame_parts {chart:List Acc} {dims curs:Int} (h:frameB chart dims curs=true):chartOk chart=true∧(1≤dims∧dims≤20)∧(1≤curs∧curs≤20):=by
 unfold frameB at h;rw [Bool.and_eq_true,Bool.and_eq_true] at h;exact ⟨h.1,inB_true.1 h.2.1,inB_true.1 h.2.2⟩
theorem and_l {a b c:Bool} (h:a=true) (k:c=b):c=(a && b):=by rw [h,Bool.true_and];exact k
theorem and_r {a b:Bool} (h:a=false):false=(a && b):=by rw [h];rfl
set_option maxHeartbeats 16000000 in
set_option maxRecDepth 100000 in
theorem spec_EntryOk.to (A0:Option Addr) (c0:Nat) (l0:List Acc) (dims curs:Int) (e:Ent) (A3:Option Addr) (c3:Nat) (w:World) (hr0:Kd.C k48 w A0 l0.length l0) (hs:∀ x∈l0,x.f0.size≤maxLen) (hr3:Kd.C k67 w A3 e.f3.length e.f3) (hm:e.f2.size≤maxLen) :
 Calls Tryz.prog 33 #[.agg #[.slice A0 l0.length c0,.int .i64 dims,.int .i64 curs],.agg #[.int .i64 e.f0,.int .i64 e.f1,.string e.f2,.slice A3 e.f3.length c3]] w fun x w'=>x = .returned (.bool (frameB l0 dims curs && entryB l0 dims curs e))∧Below w.heap.size w w':=by
 have hl0:=hr0.2.1;have hlen:=hr3.2.1;have H0:=Aside0.mk hr0;have H3:=Aside0.mk hr3;have HS:=Aside0.mk hs;have HM:=Aside0.mk hm;have H00:=Aside0.mk (Kd.C_below hr0 (below_two w (.cells #[.slice A0 l0.length c0,.int .i64 dims,.int .i64 curs] 26) (.cells #[.int .i64 e.f0,.int .i64 e.f1,.string e.f2,.slice A3 e.f3.length c3] 41)));clear hr0 hr3 hs hm
 go_enter Tryz.func33,Tryz.ntmps33
 go_wp2_with fail
 refine (spec_FrameOk.to A0 c0 l0 dims curs _ H00.out HS.out).mono ?_;rintro x w1 ⟨rfl,hb⟩;have HB:=Aside0.mk (below_into (w:=w) hb (below_two _ _ _));have f0:w1.cell? ⟨w.heap.size,0,none⟩=some (.slice A0 l0.length c0):=y01 hb (by go_simp);have f1:w1.cell? ⟨w.heap.size,1,none⟩=some (.int .i64 dims):=y01 hb (by go_simp);have f2:w1.cell? ⟨w.heap.size,2,none⟩=some (.int .i64 curs):=y01 hb (by go_simp);have y0:w1.cell? ⟨w.heap.size+1,0,none⟩=some (.int .i64 e.f0):=y01 hb (by go_simp);have y1:w1.cell? ⟨w.heap.size+1,1,none⟩=some (.int .i64 e.f1):=y01 hb (by go_simp);have y2:w1.cell? ⟨w.heap.size+1,2,none⟩=some (.string e.f2):=y01 hb (by go_simp);have y3:w1.cell? ⟨w.heap.size+1,3,none⟩=some (.slice A3 e.f3.length c3):=y01 hb (by go_simp);clear hb H00;cases hfr:frameB l0 dims curs with
 | false =>
  have HF:=Aside0.mk hfr;clear hfr
  go_wp2_with fail
  go_ret
  exact ⟨ret_bool (and_r HF.out),HB.out⟩
 | true =>
  obtain ⟨hch,hd,hc⟩:=frame_parts hfr;have HCH:=Aside0.mk hch;have HD:=Aside0.mk hd;have HC:=Aside0.mk hc;have HF:=Aside0.mk hfr;clear hfr hch hd hc
  go_wp2_with fail
  refine (spec_l2Day.to _ _).mono ?_;rintro x w' ⟨rfl,rfl⟩;cases h1:inB e.f0 0 40000 with
  | false =>
   have HN:=Aside0.mk (entryB_not (fun q=>inB_false.1 h1 q.1):false=entryB l0 dims curs e);clear h1
   go_wp2_with fail
   go_ret
   exact ⟨ret_bool (and_l HF.out HN.out),HB.out⟩
  | true =>
   have P1:=Aside0.mk (inB_true.1 h1);clear h1
   go_wp2_with fail
   refine (spec_l1In.to _ _ _ _).mono ?_;rintro x w' ⟨rfl,rfl⟩;cases h2:inB e.f1 0 1000 with
   | false =>
    have HN:=Aside0.mk (entryB_not (fun q=>inB_false.1 h2 q.2.1):false=entryB l0 dims curs e);clear h2
    go_wp2_with fail
    go_ret
    exact ⟨ret_bool (and_l HF.out HN.out),HB.out⟩
   | true =>
    have P2:=Aside0.mk (inB_true.1 h2);clear h2
    go_wp2_with fail
    refine (spec_l5TextOk.to _ _ HM.out).mono ?_;rintro x w' ⟨rfl,rfl⟩;cases h3:textB e.f2 with
    | false =>
     have HN:=Aside0.mk (entryB_not (fun q=>by have:=textB_iff.2 ⟨q.2.2.2.2.1,q.2.2.1⟩;rw [h3] at this;cases this):false=entryB l0 dims curs e);clear h3
     go_wp2_with fail
     go_ret
     exact ⟨ret_bool (and_l HF.out HN.out),HB.out⟩
    | true =>
     have P3:=Aside0.mk (textB_iff.1 h3);clear h3
     go_wp2_with fail
     refine (spec_l1In.to _ _ _ _).mono ?_;rintro x w' ⟨rfl,rfl⟩;cases h4:inB (e.f3.length:Int) 2 60 with
     | false =>
      have HN:=Aside0.mk (entryB_not (fun q=>inB_false.1 h4 (by have:=q.2.2.2.1;omega)):false=entryB l0 dims curs e);clear h4
      go_wp2_with fail
      go_ret
      exact ⟨ret_bool (and_l HF.out HN.out),HB.out⟩
     | true =>
      obtain ⟨hn0,hn1⟩:=inB_true.1 h4;clear h4;have HB1:=Aside0.mk (Below.refl w'.heap.size w');have F0:=Aside0.mk f0;have F1:=Aside0.mk f1;have F2:=Aside0.mk f2;have Y3:=Aside0.mk y3
      go_wp2_with fail
      clear f0 f1 f2 y0 y1 y2 y3
      go_loopw [5] (fun v wr=>∃ i:Int,0≤i∧i≤(e.f3.length:Int)∧v = .int .i64 i∧Aside0 (Below w'.heap.size w' wr)∧Aside0 (∀ x∈e.f3.take i.toNat,lineP l0 dims curs x)) (fun v _=>(e.f3.length - (intOf v).toNat))
      case atStart=>exact ⟨0,by omega,by omega,rfl,HB1,⟨fun x hx=>by cases hx⟩⟩
      case round =>
       clear HB1;obtain ⟨i,hi0,hi1,rfl,HB1,HO⟩:=hrel;have f0:=y01 HB1.out F0.out;have f1:=y01 HB1.out F1.out;have f2:=y01 HB1.out F2.out;have y3:=y01 HB1.out Y3.out;have HBW:=Aside0.mk (below_into HB1.out HB.out);by_cases hlt:i < (e.f3.length:Int)
       ·obtain ⟨ad,e0,x0,x1,x2,x3,x4⟩:=at_T67 (Kd.C_below H3.out HBW.out) i hi0 hlt;cases e0;have HC0:=Aside0.mk (Kd.C_below H0.out HBW.out)
        go_wp2_with fail
        go_region_held3 (fun w'=>w'.cell? ⟨w.heap.size,0,none⟩=some (.slice A0 l0.length c0)∧w'.cell? ⟨w.heap.size,1,none⟩=some (.int .i64 dims)∧w'.cell? ⟨w.heap.size,2,none⟩=some (.int .i64 curs)∧w'.cell? ⟨w.heap.size+1,3,none⟩=some (.slice (some ad) e.f3.length c3)∧w'.cell? (ad.add (i.toNat * 5))=some (.int .i64 (rd_T67 e.f3 i).f0)∧w'.cell? ⟨(ad.add (i.toNat * 5)).block,(ad.add (i.toNat * 5)).off+1,none⟩=some (.int .i64 (rd_T67 e.f3 i).f1)∧w'.cell? ⟨(ad.add (i.toNat * 5)).block,(ad.add (i.toNat * 5)).off+2,none⟩=some (.int .i64 (rd_T67 e.f3 i).f2)∧w'.cell? ⟨(ad.add (i.toNat * 5)).block,(ad.add (i.toNat * 5)).off+3,none⟩=some (.int .i64 (rd_T67 e.f3 i).f3)∧w'.cell? ⟨(ad.add (i.toNat * 5)).block,(ad.add (i.toNat * 5)).off+4,none⟩=some (.int .i64 (rd_T67 e.f3 i).f4)) ((first | go_keep | exact ⟨y01 hb (by assumption),y01 hb (by assumption),y01 hb (by assumption),y01 hb (by assumption),y01 hb (by assumption),y01 hb (by assumption),y01 hb (by assumption),y01 hb (by assumption),y01 hb (by assumption)⟩))
         ((go_at_call 67;refine (spec_l5LineOk.to A0 c0 l0 dims curs (rd_T67 e.f3 i) _ (by repeat (exact HC0.out)) HS.out HCH.out HD.out HC.out).mono ?_;rintro x w2 ⟨rfl,hb⟩))
        have HB2:=Aside0.mk (below_into (w:=w') hb (below_drew HB1.out));clear hb;cases hlb:lineB l0 dims curs (rd_T67 e.f3 i) with
        | false =>
         have HN:=Aside0.mk (entryB_not (fun q=>by have:=lineB_true.2 (all_at (z:=z67) (p:=lineP l0 dims curs) hi0 hlt q.2.2.2.2.2.1);rw [show lineB l0 dims curs (e.f3.getD i.toNat z67)=false from hlb] at this;cases this):false=entryB l0 dims curs e);have HBF:=Aside0.mk (below_into HB2.out HB.out);clear hlb HB2
         go_wp2_with fail
         go_ret
         exact ⟨ret_bool (and_l HF.out HN.out),HBF.out⟩
        | true =>
         have HO2:=Aside0.mk (all_step (z:=z67) (p:=lineP l0 dims curs) hi0 hlt HO.out (lineB_true.1 hlb));clear hlb
         go_wp2_with fail
         go_roundw
         case rel=>exact ⟨i+1,by omega,by omega,rfl,HB2,HO2⟩
         case measure=>simp [intOf];omega
       ·have HOK:=Aside0.mk (all_end (by omega) HO.out:∀ x∈e.f3,lineP l0 dims curs x);have HSB:=Aside0.mk (fun n c d=>sums_bounds (l:=e.f3) (fun x hx=>⟨(HOK.out x hx).2.2.2.1,(HOK.out x hx).2.2.2.2.1⟩) (by omega) n c d);have HAM:=Aside0.mk (fun (k:Int) (h0:0≤k) (h1:k < (e.f3.length:Int))=>(all_at (z:=z67) (p:=fun x=>(-100000000000≤x.f3∧x.f3≤100000000000)∧(-100000000000≤x.f4∧x.f4≤100000000000)) h0 h1 (fun x hx=>⟨(HOK.out x hx).2.2.2.1,(HOK.out x hx).2.2.2.2.1⟩)));clear HO
        go_wp2_with fail
        clear f0 f1 f2 y3
        go_loopw [6] (fun v wr=>∃ i:Int,0≤i∧i≤(e.f3.length:Int)∧v = .int .i64 i∧Aside0 (Below w'.heap.size w' wr)∧Aside0 (∀ x∈e.f3.take i.toNat,curSum e.f3 x.f2=0∧dimSum e.f3 x.f1=0)) (fun v _=>(e.f3.length - (intOf v).toNat))
        case atStart=>exact ⟨0,by omega,by omega,rfl,HB1,⟨fun x hx=>by cases hx⟩⟩
        case round =>
         clear HB1 HBW;obtain ⟨j,hj0,hj1,rfl,HB1,HZ⟩:=hrel;have y3:=y01 HB1.out Y3.out;by_cases hlt2:j < (e.f3.length:Int)
         ·go_wp2_with fail
          clear y3
          go_loopw [7,8,9] (fun vc vd vk wr=>∃ k:Int,0≤k∧k≤(e.f3.length:Int)∧vk = .int .i64 k∧vc = .int .i64 (curSum (e.f3.take k.toNat) (rd_T67 e.f3 j).f2)∧vd = .int .i64 (dimSum (e.f3.take k.toNat) (rd_T67 e.f3 j).f1)∧Aside0 (Below w'.heap.size w' wr)) (fun _ _ vk _=>(e.f3.length - (intOf vk).toNat))
          case atStart=>exact ⟨0,by omega,by omega,rfl,rfl,rfl,HB1⟩
          case round =>
           clear HB1;obtain ⟨k,hk0,hk1,rfl,rfl,rfl,HB1⟩:=hrel;have y3:=y01 HB1.out Y3.out;have HBW:=Aside0.mk (below_into HB1.out HB.out);by_cases hlt3:k < (e.f3.length:Int)
           ·obtain ⟨ad,e0,x0,x1,x2,x3,x4⟩:=at_T67 (Kd.C_below H3.out HBW.out) k hk0 hlt3;obtain ⟨bd,e1,z0,z1,z2,z3,z4⟩:=at_T67 (Kd.C_below H3.out HBW.out) j hj0 hlt2;cases e0;obtain rfl:ad=bd:=by injection e1
            have HC1:=Aside0.mk (curSum_step (l:=e.f3) (rd_T67 e.f3 j).f2 hk0 hlt3);have HD1:=Aside0.mk (dimSum_step (l:=e.f3) (rd_T67 e.f3 j).f1 hk0 hlt3);obtain ⟨⟨b0,b1⟩,b2,b3⟩:=HSB.out k.toNat (rd_T67 e.f3 j).f2 (rd_T67 e.f3 j).f1;obtain ⟨⟨m0,m1⟩,m2,m3⟩:=show (-100000000000≤(rd_T67 e.f3 k).f3∧(rd_T67 e.f3 k).f3≤100000000000)∧(-100000000000≤(rd_T67 e.f3 k).f4∧(rd_T67 e.f3 k).f4≤100000000000) from HAM.out k hk0 hlt3;generalize curSum (e.f3.take k.toNat) (rd_T67 e.f3 j).f2=cs at *;generalize dimSum (e.f3.take k.toNat) (rd_T67 e.f3 j).f1=ds at *;cases hq:((rd_T67 e.f3 k).f2 == (rd_T67 e.f3 j).f2) with
            | true =>
             cases hr:((rd_T67 e.f3 k).f1 == (rd_T67 e.f3 j).f1) with
             | true =>
              go_wp2_with fail
              go_quiet (fail)
              go_wp2_with fail
              go_quiet (fail)
              go_wp2_with fail
              go_roundw
              case rel=>exact ⟨k+1,by omega,by omega,rfl,by rw [HC1.out,if_pos (beq_iff_eq.1 hq)],by rw [HD1.out,if_pos (beq_iff_eq.1 hr)],⟨pw_below_drewN HB1.out _⟩⟩
              case measure=>simp [intOf];omega
             | false =>
              go_wp2_with fail
              go_quiet (fail)
              go_wp2_with fail
              go_quiet (fail)
              go_wp2_with fail
              go_roundw
              case rel=>exact ⟨k+1,by omega,by omega,rfl,by rw [HC1.out,if_pos (beq_iff_eq.1 hq)],by rw [HD1.out,if_neg (beq_eq_false_iff_ne.1 hr),Int.add_zero],⟨pw_below_drewN HB1.out _⟩⟩
              case measure=>simp [intOf];omega
            | false =>
             cases hr:((rd_T67 e.f3 k).f1 == (rd_T67 e.f3 j).f1) with
             | true =>
              go_wp2_with fail
              go_quiet (fail)
              go_wp2_with fail
              go_quiet (fail)
              go_wp2_with fail
              go_roundw
              case rel=>exact ⟨k+1,by omega,by omega,rfl,by rw [HC1.out,if_neg (beq_eq_false_iff_ne.1 hq),Int.add_zero],by rw [HD1.out,if_pos (beq_iff_eq.1 hr)],⟨pw_below_drewN HB1.out _⟩⟩
              case measure=>simp [intOf];omega
             | false =>
              go_wp2_with fail
              go_quiet (fail)
              go_wp2_with fail
              go_quiet (fail)
              go_wp2_with fail
              go_roundw
              case rel=>exact ⟨k+1,by omega,by omega,rfl,by rw [HC1.out,if_neg (beq_eq_false_iff_ne.1 hq),Int.add_zero],by rw [HD1.out,if_neg (beq_eq_false_iff_ne.1 hr),Int.add_zero],⟨pw_below_drewN HB1.out _⟩⟩
              case measure=>simp [intOf];omega
           ·have HKE:k=(e.f3.length:Int):=by omega
            subst HKE;have hcd:=Aside0.mk (show curSum (e.f3.take (e.f3.length:Int).toNat) (rd_T67 e.f3 j).f2=curSum e.f3 (rd_T67 e.f3 j).f2∧dimSum (e.f3.take (e.f3.length:Int).toNat) (rd_T67 e.f3 j).f1=dimSum e.f3 (rd_T67 e.f3 j).f1 by rw [List.take_of_length_le (by omega)];exact ⟨rfl,rfl⟩);generalize curSum (e.f3.take (e.f3.length:Int).toNat) (rd_T67 e.f3 j).f2=cs at *;generalize dimSum (e.f3.take (e.f3.length:Int).toNat) (rd_T67 e.f3 j).f1=ds at *;by_cases z1:cs=0
            ·have z1b:(cs != 0)=false:=by rw [z1];rfl
             by_cases z2:ds=0
             ·have z2b:(ds != 0)=false:=by rw [z2];rfl
              have HZ2:=Aside0.mk (all_step (z:=z67) (p:=fun x=>curSum e.f3 x.f2=0∧dimSum e.f3 x.f1=0) hj0 hlt2 HZ.out ⟨hcd.out.1 ▸ z1,hcd.out.2 ▸ z2⟩);clear hcd
              go_wp2_with fail
              go_roundw
              case rel=>exact ⟨j+1,by omega,by omega,rfl,HB1,HZ2⟩
              case measure=>simp [intOf];omega
             ·have z2b:(ds != 0)=true:=bne_iff_ne.2 z2;have HN:=Aside0.mk (entryB_not (fun q=>z2 (hcd.out.2.trans (all_at (z:=z67) (p:=fun x=>curSum e.f3 x.f2=0∧dimSum e.f3 x.f1=0) hj0 hlt2 q.2.2.2.2.2.2).2)):false=entryB l0 dims curs e);clear hcd
              go_wp2_with fail
              go_ret
              exact ⟨ret_bool (and_l HF.out HN.out),HBW.out⟩
            ·have z1b:(cs != 0)=true:=bne_iff_ne.2 z1;have HN:=Aside0.mk (entryB_not (fun q=>z1 (hcd.out.1.trans (all_at (z:=z67) (p:=fun x=>curSum e.f3 x.f2=0∧dimSum e.f3 x.f1=0) hj0 hlt2 q.2.2.2.2.2.2).1)):false=entryB l0 dims curs e);clear hcd
             go_wp2_with fail
             go_ret
             exact ⟨ret_bool (and_l HF.out HN.out),HBW.out⟩
         ·have HBW:=Aside0.mk (below_into HB1.out HB.out);have HE:=Aside0.mk (show entryP l0 dims curs e from ⟨P1.out,P2.out,P3.out.2,⟨by omega,by omega⟩,P3.out.1,HOK.out,all_end (by omega) HZ.out⟩)
          go_wp2_with fail
          go_ret
          exact ⟨ret_bool (and_l HF.out (entryB_true.2 HE.out).symm),HBW.out⟩
open Classical in
noncomputable def spec_EntryOk.f (l0:List Acc) (dims curs:Int) (a0 a1:Int) (a2:ByteArray) (l3:List Lin):Option Bool:=if (∀ x∈l0,x.f0.size≤maxLen)∧a2.size≤maxLen then some (frameB l0 dims curs && entryB l0 dims curs ⟨a0,a1,a2,l3⟩) else none
theorem spec_EntryOk.calls (A0:Option Addr) (c0:Nat) (l0:List Acc) (dims curs:Int) (a0 a1:Int) (a2:ByteArray) (A3:Option Addr) (c3:Nat) (l3:List Lin) (r:Bool) (w:World) (hr0:Kd.C k48 w A0 l0.length l0) (hc0:l0.length≤c0) (hr3:Kd.C k67 w A3 l3.length l3) (hc3:l3.length≤c3) (hf:spec_EntryOk.f l0 dims curs a0 a1 a2 l3=some r) :
 Calls Tryz.prog 33 #[.agg #[.slice A0 l0.length c0,.int .i64 dims,.int .i64 curs],.agg #[.int .i64 a0,.int .i64 a1,.string a2,.slice A3 l3.length c3]] w fun x w'=>x = .returned (.bool r)∧Below w.heap.size w w':=by
 unfold spec_EntryOk.f at hf
 split at hf
 ·rename_i q
  cases hf;exact spec_EntryOk.to A0 c0 l0 dims curs ⟨a0,a1,a2,l3⟩ A3 c3 w hr0 q.1 hr3 q.2
 ·cases hf
noncomputable def impl_EntryOk.f (l0_0:List (S48)) (a0_1:Int) (a0_2:Int) (a1_0:Int) (a1_1:Int) (a1_2:ByteArray) (l1_3:List (S67)):Option (Bool):=(impl_FrameOk.f l0_0 a0_1 a0_2).bind fun t31003=>(if t31003=true then ((impl_entryIn.f l0_0 a0_1 a0_2 a1_0 a1_1 a1_2 l1_3).bind fun t31004=>(some t31004)) else (some false))
set_option maxHeartbeats 8000000 in
set_option maxRecDepth 100000 in
theorem impl_EntryOk.calls (A0_0:Option Addr) (c0_0:Nat) (l0_0:List (S48)) (a0_1:Int) (a0_2:Int) (a1_0:Int) (a1_1:Int) (a1_2:ByteArray) (A1_3:Option Addr) (c1_3:Nat) (l1_3:List (S67)) (r:Bool) (w:World) (hr0_0:Kd.C k48 w A0_0 l0_0.length l0_0) (hc0_0:l0_0.length≤c0_0) (hr1_3:Kd.C k67 w A1_3 l1_3.length l1_3) (hc1_3:l1_3.length≤c1_3) (h:impl_EntryOk.f l0_0 a0_1 a0_2 a1_0 a1_1 a1_2 l1_3=some r) :
 Calls Tryz.prog 30 #[.agg #[.slice A0_0 l0_0.length c0_0,.int .i64 a0_1,.int .i64 a0_2],.agg #[.int .i64 a1_0,.int .i64 a1_1,.string a1_2,.slice A1_3 l1_3.length c1_3]] w fun e w'=>e = .returned (.bool r)∧Below w.heap.size w w':=by
 have hu26:=Tryz.underlying26;have hu41:=Tryz.underlying41;have HR0_0:=Aside0.mk hr0_0;have HC0_0:=Aside0.mk hc0_0;clear hr0_0 hc0_0;have HR1_3:=Aside0.mk hr1_3;have HC1_3:=Aside0.mk hc1_3;clear hr1_3 hc1_3;have HB:=Aside0.mk (Below.refl w.heap.size w);have H:((impl_FrameOk.f l0_0 a0_1 a0_2).bind fun t31003=>(if t31003=true then ((impl_entryIn.f l0_0 a0_1 a0_2 a1_0 a1_1 a1_2 l1_3).bind fun t31004=>(some t31004)) else (some false)))=some r:=h;clear h;replace H:=Option.bind_eq_some_iff.mp H;obtain ⟨t31003,A30,H⟩:=H;replace H:(if t31003=true then ((impl_entryIn.f l0_0 a0_1 a0_2 a1_0 a1_1 a1_2 l1_3).bind fun t31004=>(some t31004)) else (some false))=some r:=H;have A3:=Aside0.mk A30;clear A30;by_cases c4:t31003=true
 ·subst c4;have H1:((impl_entryIn.f l0_0 a0_1 a0_2 a1_0 a1_1 a1_2 l1_3).bind fun t31004=>(some t31004))=some r:=by rw [if_pos rfl] at H;exact H
  clear H;have H:=H1;clear H1;replace H:=Option.bind_eq_some_iff.mp H;obtain ⟨t31004,A50,H⟩:=H;replace H:(some t31004)=some r:=H;have A5:=Aside0.mk A50;clear A50;obtain rfl:=Option.some.inj H
  go_enter Tryz.func30,Tryz.ntmps30
  go_wp2_with (first | ((with_reducible refine gate_dst (N:=2) rfl ?_);refine box_event ?hg (N:=2) ?hd (cs:=#[.slice A0_0 l0_0.length c0_0,.int .i64 a0_1,.int .i64 a0_2]) (t:=26) ?hr ?_;(case hd=>rfl);(case hg=>rfl);(case hr=>(go_simp;done));intro gb31001 hg w6 hbox hb;have n0_:=Aside0.mk (below_step HB.out hb);have n1_:=Aside0.mk (hbox);have n2_:=Aside0.mk ((by rw [hg];exact (below_size HB.out):w.heap.size≤gb31001));have n3_:=Aside0.mk ((by rw [hg];exact (below_size HB.out):w.heap.size≤gb31001));clear HB;have HB:=n0_;have BK31001:=n1_;have GW31001:=n2_;have GE31001:=n3_;clear n0_ n1_ n2_ n3_;clear hb hbox hg) | ((with_reducible refine gate_dst (N:=3) rfl ?_);refine box_event ?hg (N:=3) ?hd (cs:=#[.int .i64 a1_0,.int .i64 a1_1,.string a1_2,.slice A1_3 l1_3.length c1_3]) (t:=41) ?hr ?_;(case hd=>rfl);(case hg=>rfl);(case hr=>(go_simp;done));intro gb31002 hg w7 hbox hb;have n0_:=Aside0.mk (y03 (g:=gb31001) (o:=.cells #[.slice A0_0 l0_0.length c0_0,.int .i64 a0_1,.int .i64 a0_2] 26 (0,0)) BK31001.out hb);have n1_:=Aside0.mk (below_step HB.out hb);have n2_:=Aside0.mk (hbox);have n3_:=Aside0.mk ((by rw [hg];exact (below_size HB.out):w.heap.size≤gb31002));have n4_:=Aside0.mk ((by rw [hg];exact (below_size HB.out):w.heap.size≤gb31002));have n5_:=Aside0.mk ((by rw [hg];exact Nat.ne_of_lt (blk_lt (g:=gb31001) (o:=.cells #[.slice A0_0 l0_0.length c0_0,.int .i64 a0_1,.int .i64 a0_2] 26 (0,0)) BK31001.out):gb31001≠gb31002));have n6_:=Aside0.mk ((by rw [hg];exact Nat.ne_of_gt (blk_lt (g:=gb31001) (o:=.cells #[.slice A0_0 l0_0.length c0_0,.int .i64 a0_1,.int .i64 a0_2] 26 (0,0)) BK31001.out):gb31002≠gb31001));clear BK31001;clear HB;have BK31001:=n0_;have HB:=n1_;have BK31002:=n2_;have GW31002:=n3_;have GE31002:=n4_;have NB31001_31002:=n5_;have NB31002_31001:=n6_;clear n0_ n1_ n2_ n3_ n4_ n5_ n6_;clear hb hbox hg;have hnb8:=NB31001_31002.out;have hnc8:=NB31002_31001.out;have hcz9_0:w7.cell? ⟨gb31001,0,none⟩=some (.slice A0_0 l0_0.length c0_0):=(y00 BK31001.out 0).trans rfl;have hcz9_1:w7.cell? ⟨gb31001,1,none⟩=some (.int .i64 a0_1):=(y00 BK31001.out 1).trans rfl;have hcz9_2:w7.cell? ⟨gb31001,2,none⟩=some (.int .i64 a0_2):=(y00 BK31001.out 2).trans rfl;have hfz9_0:=y02 BK31001.out 0;have hfz9_1:=y02 BK31001.out 1;have hfz9_2:=y02 BK31001.out 2) | ((with_reducible refine gate_callee (f:=57) rfl ?_);refine goesL_ (some 6) rfl rfl Tryz.func57 (by kernel_rfl) rfl #[.agg #[.slice A0_0 l0_0.length c0_0,.int .i64 a0_1,.int .i64 a0_2]] rfl (by (try simp only [List.map_toArray,List.map_cons,List.map_nil]);rfl) ?_;(with_reducible refine (impl_FrameOk.calls _ _ l0_0 a0_1 a0_2 true _ ?side1 ?side2 A3.out).mono ?_);(case side1=>repeat (exact (Kd.C_below HR0_0.out HB.out)));(case side2=>exact HC0_0.out);rintro e w10 ⟨rfl,hb⟩;refine ⟨_,rfl,?_⟩;have n0_:=Aside0.mk (y03 (g:=gb31001) (o:=.cells #[.slice A0_0 l0_0.length c0_0,.int .i64 a0_1,.int .i64 a0_2] 26 (0,0)) BK31001.out hb);have n1_:=Aside0.mk (y03 (g:=gb31002) (o:=.cells #[.int .i64 a1_0,.int .i64 a1_1,.string a1_2,.slice A1_3 l1_3.length c1_3] 41 (0,0)) BK31002.out hb);have n2_:=Aside0.mk (below_step HB.out hb);clear BK31001;clear BK31002;clear HB;have BK31001:=n0_;have BK31002:=n1_;have HB:=n2_;clear n0_ n1_ n2_;(try clear hb);(try clear hb2);(try clear hk);(try clear hi);have hcz11_0:w10.cell? ⟨gb31001,0,none⟩=some (.slice A0_0 l0_0.length c0_0):=(y00 BK31001.out 0).trans rfl;have hcz11_1:w10.cell? ⟨gb31001,1,none⟩=some (.int .i64 a0_1):=(y00 BK31001.out 1).trans rfl;have hcz11_2:w10.cell? ⟨gb31001,2,none⟩=some (.int .i64 a0_2):=(y00 BK31001.out 2).trans rfl;have hfz11_0:=y02 BK31001.out 0;have hfz11_1:=y02 BK31001.out 1;have hfz11_2:=y02 BK31001.out 2;have hcz12_0:w10.cell? ⟨gb31002,0,none⟩=some (.int .i64 a1_0):=(y00 BK31002.out 0).trans rfl;have hcz12_1:w10.cell? ⟨gb31002,1,none⟩=some (.int .i64 a1_1):=(y00 BK31002.out 1).trans rfl;have hcz12_2:w10.cell? ⟨gb31002,2,none⟩=some (.string a1_2):=(y00 BK31002.out 2).trans rfl;have hcz12_3:w10.cell? ⟨gb31002,3,none⟩=some (.slice A1_3 l1_3.length c1_3):=(y00 BK31002.out 3).trans rfl;have hfz12_0:=y02 BK31002.out 0;have hfz12_1:=y02 BK31002.out 1;have hfz12_2:=y02 BK31002.out 2;have hfz12_3:=y02 BK31002.out 3) | (go_at_call 41;(with_reducible refine (impl_entryIn.calls _ _ l0_0 a0_1 a0_2 a1_0 a1_1 a1_2 _ _ l1_3 t31004 _ ?side1 ?side2 ?side3 ?side4 A5.out).mono ?_);(case side1=>repeat (exact (Kd.C_below HR0_0.out HB.out)));(case side2=>exact HC0_0.out);(case side3=>repeat (exact (Kd.C_below HR1_3.out HB.out)));(case side4=>exact HC1_3.out);rintro e w13 ⟨rfl,hb⟩;have n0_:=Aside0.mk (y03 (g:=gb31001) (o:=.cells #[.slice A0_0 l0_0.length c0_0,.int .i64 a0_1,.int .i64 a0_2] 26 (0,0)) BK31001.out hb);have n1_:=Aside0.mk (y03 (g:=gb31002) (o:=.cells #[.int .i64 a1_0,.int .i64 a1_1,.string a1_2,.slice A1_3 l1_3.length c1_3] 41 (0,0)) BK31002.out hb);have n2_:=Aside0.mk (below_step HB.out hb);clear BK31001;clear BK31002;clear HB;have BK31001:=n0_;have BK31002:=n1_;have HB:=n2_;clear n0_ n1_ n2_;(try clear hb);(try clear hb2);(try clear hk);(try clear hi)))
  go_ret
  exact ⟨by first | rfl | (simp [errW_none,errW_some] <;> rfl) | (simp [*,errW_none,errW_some] <;> rfl),by exact HB.out⟩
 ·replace c4:=Bool.eq_false_iff.mpr c4;subst c4;have H1:(some false)=some r:=by rw [if_neg (show ¬ (false=true) by decide)] at H;exact H
  clear H;have H:=H1;clear H1;obtain rfl:=Option.some.inj H
  go_enter Tryz.func30,Tryz.ntmps30
  go_wp2_with (first | ((with_reducible refine gate_dst (N:=2) rfl ?_);refine box_event ?hg (N:=2) ?hd (cs:=#[.slice A0_0 l0_0.length c0_0,.int .i64 a0_1,.int .i64 a0_2]) (t:=26) ?hr ?_;(case hd=>rfl);(case hg=>rfl);(case hr=>(go_simp;done));intro gb31001 hg w14 hbox hb;have n0_:=Aside0.mk (below_step HB.out hb);have n1_:=Aside0.mk (hbox);have n2_:=Aside0.mk ((by rw [hg];exact (below_size HB.out):w.heap.size≤gb31001));have n3_:=Aside0.mk ((by rw [hg];exact (below_size HB.out):w.heap.size≤gb31001));clear HB;have HB:=n0_;have BK31001:=n1_;have GW31001:=n2_;have GE31001:=n3_;clear n0_ n1_ n2_ n3_;clear hb hbox hg) | ((with_reducible refine gate_dst (N:=3) rfl ?_);refine box_event ?hg (N:=3) ?hd (cs:=#[.int .i64 a1_0,.int .i64 a1_1,.string a1_2,.slice A1_3 l1_3.length c1_3]) (t:=41) ?hr ?_;(case hd=>rfl);(case hg=>rfl);(case hr=>(go_simp;done));intro gb31002 hg w15 hbox hb;have n0_:=Aside0.mk (y03 (g:=gb31001) (o:=.cells #[.slice A0_0 l0_0.length c0_0,.int .i64 a0_1,.int .i64 a0_2] 26 (0,0)) BK31001.out hb);have n1_:=Aside0.mk (below_step HB.out hb);have n2_:=Aside0.mk (hbox);have n3_:=Aside0.mk ((by rw [hg];exact (below_size HB.out):w.heap.size≤gb31002));have n4_:=Aside0.mk ((by rw [hg];exact (below_size HB.out):w.heap.size≤gb31002));have n5_:=Aside0.mk ((by rw [hg];exact Nat.ne_of_lt (blk_lt (g:=gb31001) (o:=.cells #[.slice A0_0 l0_0.length c0_0,.int .i64 a0_1,.int .i64 a0_2] 26 (0,0)) BK31001.out):gb31001≠gb31002));have n6_:=Aside0.mk ((by rw [hg];exact Nat.ne_of_gt (blk_lt (g:=gb31001) (o:=.cells #[.slice A0_0 l0_0.length c0_0,.int .i64 a0_1,.int .i64 a0_2] 26 (0,0)) BK31001.out):gb31002≠gb31001));clear BK31001;clear HB;have BK31001:=n0_;have HB:=n1_;have BK31002:=n2_;have GW31002:=n3_;have GE31002:=n4_;have NB31001_31002:=n5_;have NB31002_31001:=n6_;clear n0_ n1_ n2_ n3_ n4_ n5_ n6_;clear hb hbox hg;have hnb16:=NB31001_31002.out;have hnc16:=NB31002_31001.out;have hcz17_0:w15.cell? ⟨gb31001,0,none⟩=some (.slice A0_0 l0_0.length c0_0):=(y00 BK31001.out 0).trans rfl;have hcz17_1:w15.cell? ⟨gb31001,1,none⟩=some (.int .i64 a0_1):=(y00 BK31001.out 1).trans rfl;have hcz17_2:w15.cell? ⟨gb31001,2,none⟩=some (.int .i64 a0_2):=(y00 BK31001.out 2).trans rfl;have hfz17_0:=y02 BK31001.out 0;have hfz17_1:=y02 BK31001.out 1;have hfz17_2:=y02 BK31001.out 2) | ((with_reducible refine gate_callee (f:=57) rfl ?_);refine goesL_ (some 6) rfl rfl Tryz.func57 (by kernel_rfl) rfl #[.agg #[.slice A0_0 l0_0.length c0_0,.int .i64 a0_1,.int .i64 a0_2]] rfl (by (try simp only [List.map_toArray,List.map_cons,List.map_nil]);rfl) ?_;(with_reducible refine (impl_FrameOk.calls _ _ l0_0 a0_1 a0_2 false _ ?side1 ?side2 A3.out).mono ?_);(case side1=>repeat (exact (Kd.C_below HR0_0.out HB.out)));(case side2=>exact HC0_0.out);rintro e w18 ⟨rfl,hb⟩;refine ⟨_,rfl,?_⟩;have n0_:=Aside0.mk (y03 (g:=gb31001) (o:=.cells #[.slice A0_0 l0_0.length c0_0,.int .i64 a0_1,.int .i64 a0_2] 26 (0,0)) BK31001.out hb);have n1_:=Aside0.mk (y03 (g:=gb31002) (o:=.cells #[.int .i64 a1_0,.int .i64 a1_1,.string a1_2,.slice A1_3 l1_3.length c1_3] 41 (0,0)) BK31002.out hb);have n2_:=Aside0.mk (below_step HB.out hb);clear BK31001;clear BK31002;clear HB;have BK31001:=n0_;have BK31002:=n1_;have HB:=n2_;clear n0_ n1_ n2_;(try clear hb);(try clear hb2);(try clear hk);(try clear hi)))
  go_ret
  exact ⟨by first | rfl | (simp [errW_none,errW_some] <;> rfl) | (simp [*,errW_none,errW_some] <;> rfl),by exact HB.out⟩
end Go.Proofs.YtnknanppoenigaaGreatDoor.Q
namespace Go.Proofs.YtnknanppoenigaaGreatDoor.Q
open Go.RowKit Go.Proofs.YtnknanppoenigaaGreatDoorW.PrintWords Go.Proofs.YtnknanppoenigaaGreatDoorW.PrintLast Go.Proofs.YtnknanppoenigaaGreatDoorW.PrintMore
set_option linter.unusedVariables false
set_option linter.unusedSimpArgs false
theorem results_c1 {P:Program} {fn:Func} {p:Tmp} {ty:TypeId} (h:fn.results=#[.cell p ty]) (tmps:Array Value) (w:World) (g:Nat) (t:TypeId) (cs:Array Value) (fr:Nat × Nat) (d:TypeDesc)
 (hp:tmps.getD p undef = .pointer (some ⟨g,0,none⟩)) (hg:w.heap[g]?=some (.cells cs t fr))
 (hu:P.underlying ty=some d) (hd:(match d with | .struct _ | .array _ _=>true | _=>false)=true) (hi:(P.info? ty).map (·.size)=some cs.size) :
 (results fn tmps).run P w = .ok (.agg cs) w:=by
 have hp':tmps[p]?.getD undef = .pointer (some ⟨g,0,none⟩):=by simpa using hp
 simp [results,h,hp',asAddr,run_loadVar_row w g t ty cs fr d hg hu hd hi]
theorem Drew.S {α:Type} {d:Kd α} {e base:Nat} {ok:Nat→Prop} {v:Value} {xs:List α} {w0 w W:World} {g:Nat} {c:List Int} (h:Drew w0 w W g c) (hr:Kd.S d e w base ok v xs) (hok:∀ k,ok k→k≠g):Kd.S d e W base ok v xs:=Kd.S_step hr (fun k ho hlt=>h.keep.2 k hlt (hok k ho) (by simp))
set_option maxHeartbeats 4000000 in
set_option maxRecDepth 100000 in
theorem spec_l5DrawFrame.e (w0 w:World) (g:Nat) (c:List Int) (hI:Cur w0 w g c) (hB:Below w0.heap.size w0 w) (hc:c.length≤1048576) :
 Calls Tryz.prog 50 #[.pointer (some ⟨g,0,none⟩)] w fun e w'=>∃ (v:Value) (l:List Acc) (d u:Int),e = .returned (.agg #[v,.int .i64 d,.int .i64 u])∧Kd.R k48 48 w' w.heap.size (fun _=>True) v l∧(goodChart l∧3≤l.length)∧((1≤d∧d≤3)∧1≤u∧u≤3)∧Drew w0 w w' g c:=by
 have HL:=hB.size;have D:=Aside0.mk ((Drew.refl hI hB).alloc (.cells #[.slice none 0 0,.int .i64 0,.int .i64 0] 26));have BK:=Aside0.mk (blk_new w (.cells #[.slice none 0 0,.int .i64 0,.int .i64 0] 26));have NB:=Nat.ne_of_gt hI.lt;have hz:w.heap.size < (w.alloc (.cells #[.slice none 0 0,.int .i64 0,.int .i64 0] 26)).heap.size:=by simp
 clear hI hB
 go_enter Tryz.func50,Tryz.ntmps50
 go_wp2_with fail
 generalize w.alloc (Obj.cells #[.slice none 0 0,.int .i64 0,.int .i64 0] 26)=w1 at *;refine (spec_l4DrawChart.e w0 _ g c 7 D.out.cur D.out.bel hc (by omega) (by omega)).mono ?_;rintro x w2 ⟨v,l,rfl,hR,hg,hD⟩;obtain ⟨A,cc,rfl⟩:=Kd.R_slice hR;replace BK:=Aside0.mk (hD.blk BK.out NB);replace D:=Aside0.mk (D.out.call hD);have RO:=Aside0.mk (Kd.R_lower (Kd.R_mono (hD.cur.apart (Kd.R_bound hR) (by decide)) (ok':=fun k=>k≠g∧k≠w.heap.size) (fun k hk=>⟨hk.2,by have:=hk.1.2.1;omega⟩)) (Nat.le_of_lt hz));have HG:=Aside0.mk hg;clear hD hR hg
 go_wp2_with fail
 refine (spec_l1Below.e 3 D.out.cur D.out.bel hc (by omega)).mono ?_;rintro x w3 ⟨d,rfl,⟨d0,d1,_⟩,hD⟩;have d2:=d1 (by omega);replace BK:=Aside0.mk (hD.blk BK.out NB);replace RO:=Aside0.mk (hD.R RO.out (fun _ hk=>hk.1));replace D:=Aside0.mk (D.out.call hD);clear hD d1
 go_wp2_with fail
 refine (spec_l1Below.e 3 D.out.cur D.out.bel hc (by omega)).mono ?_;rintro x w4 ⟨u,rfl,⟨u0,u1,_⟩,hD⟩;have u2:=u1 (by omega);replace BK:=Aside0.mk (hD.blk BK.out NB);replace RO:=Aside0.mk (hD.R RO.out (fun _ hk=>hk.1));replace D:=Aside0.mk (D.out.call hD);clear hD u1;have y0:=(y00 BK.out 0).trans rfl;have yz0:=y02 BK.out 0;have y1:=(y00 BK.out 1).trans rfl;have yz1:=y02 BK.out 1;have y2:=(y00 BK.out 2).trans rfl;have yz2:=y02 BK.out 2;have BK2:=Aside0.mk (blk3 BK.out (.slice A l.length cc) (.int .i64 (1+d)) (.int .i64 (1+u)))
 go_wp2_with fail
 refine bodyPost_ret (results_c1 rfl _ _ w.heap.size 26 #[.slice A l.length cc,.int .i64 (1+d),.int .i64 (1+u)] (0,0) _ rfl BK2.out Tryz.underlying26 rfl (by kernel_rfl)) rfl ?_;exact ⟨_,l,_,_,rfl,Kd.R_mono (Kd.R_far (Kd.R_far (Kd.R_far RO.out (fun _ hk=>hk.2) _) (fun _ hk=>hk.2) _) (fun _ hk=>hk.2) _) (fun _ _=>trivial),HG.out,⟨by omega,by omega⟩,((D.out.set HL (Nat.le_refl _) NB _).set HL (Nat.le_refl _) NB _).set HL (Nat.le_refl _) NB _⟩
set_option maxHeartbeats 4000000 in
set_option maxRecDepth 100000 in
theorem spec_l5DrawLeaf.e (w0 w:World) (g:Nat) (c:List Int) (A:Option Addr) (cc:Nat) (l:List Acc) (hI:Cur w0 w g c) (hB:Below w0.heap.size w0 w) (hc:c.length≤1048576) (hr1:∀ W,KeepBut w W g none→Kd.C k48 W A l.length l) (hs:∀ x∈l,x.f0.size≤maxLen) (hl0:0 < l.length) (hl1:l.length≤1000) :
 Calls Tryz.prog 83 #[.pointer (some ⟨g,0,none⟩),.slice A l.length cc] w fun e w'=>∃ r:Int,e = .returned (.int .i64 r)∧0≤r∧r < (l.length:Int)∧Drew w0 w w' g c:=by
 have H1:=Aside0.mk hr1;have HS:=Aside0.mk hs;have D:=Aside0.mk (Drew.refl hI hB);clear hI hB hr1 hs
 go_enter Tryz.func83,Tryz.ntmps83
 go_wp2_with fail
 refine (spec_l1Below.e (l.length:Int) D.out.cur D.out.bel hc (by omega)).mono ?_;rintro x w1 ⟨k,rfl,⟨k0,k1,_⟩,hD⟩;have k2:=k1 (by omega);replace D:=Aside0.mk (D.out.call hD);clear hD k1
 go_wp2_with fail
 go_loopg [6] l.length (fun kq v6 W=>∃ i:Int,v6 = .int .i64 i∧0≤i∧i≤(l.length:Int)∧kq+i.toNat=l.length∧Aside0 (Drew w0 w W g c))
 case atStart=>exact ⟨0,rfl,by omega,by omega,by simp,D⟩
 case round =>
  clear D;obtain ⟨i,rfl,i0,i1,hi,D⟩:=hrel;by_cases hlt:i < (l.length:Int)
  ·obtain ⟨q,rfl⟩:∃ q,gk=q+1:=⟨gk - 1,by omega⟩
   go_wp2_with fail
   refine (spec_Leaf.to A cc l _ _ (H1.out _ D.out.keep) HS.out).mono ?_;rintro x w2 ⟨rfl,hb⟩;have hm0:=Int.emod_nonneg (k+i) (show (l.length:Int)≠0 by omega);have hm1:=Int.emod_lt_of_pos (k+i) (show 0 < (l.length:Int) by omega);replace D:=Aside0.mk (D.out.below hb);clear hb
   go_wp2_with fail
   ·go_ret
    exact ⟨_,rfl,hm0,hm1,D.out⟩
   ·go_roundg q
    case rel=>exact ⟨i+1,by go_num,by omega,by omega,by omega,D⟩
    case measure=>omega
  ·go_wp2_with fail
   go_ret
   exact ⟨_,rfl,by omega,by omega,D.out⟩
end Go.Proofs.YtnknanppoenigaaGreatDoor.Q
namespace Go.Proofs.YtnknanppoenigaaGreatDoor.Q
open Go.RowKit Go.Proofs.YtnknanppoenigaaGreatDoorW.PrintWords Go.Proofs.YtnknanppoenigaaGreatDoorW.PrintLast Go.Proofs.YtnknanppoenigaaGreatDoorW.PrintMore
attribute [local go_sem] max2_int min2_int max_two min_two max_three min_three max_four min_four
set_option linter.unusedVariables false
set_option linter.unusedSimpArgs false
def ledgerP (chart:List Acc) (dims curs:Int) (l:List Ent) (h:Int):Prop:=frameB chart dims curs=true∧l.length≤1000∧(∀ e∈l,entryP chart dims curs e)∧h=headV l
open Classical in
noncomputable def ledgerB (chart:List Acc) (dims curs:Int) (l:List Ent) (h:Int):Bool:=decide (ledgerP chart dims curs l h)
open Classical in
theorem ledgerB_true {chart:List Acc} {dims curs:Int} {l:List Ent} {h:Int}:ledgerB chart dims curs l h=true ↔ ledgerP chart dims curs l h:=by unfold ledgerB;rw [decide_eq_true_eq]
theorem ledgerB_not {chart:List Acc} {dims curs:Int} {l:List Ent} {h:Int} (k:¬ ledgerP chart dims curs l h):false=ledgerB chart dims curs l h:=by
 cases hb:ledgerB chart dims curs l h with
 | false=>rfl
 | true=>exact absurd (ledgerB_true.1 hb) k
set_option maxHeartbeats 8000000 in
set_option maxRecDepth 100000 in
theorem impl_LedgerOk.to (A0:Option Addr) (c0:Nat) (l0:List Acc) (dims curs:Int) (A1:Option Addr) (c1:Nat) (l1:List Ent) (h:Int) (w:World) (hr0:Kd.C k48 w A0 l0.length l0) (hs:∀ x∈l0,x.f0.size≤maxLen) (hr1:Kd.C k41 w A1 l1.length l1) (hm:∀ e∈l1,e.f2.size≤maxLen) :
 Calls Tryz.prog 25 #[.agg #[.slice A0 l0.length c0,.int .i64 dims,.int .i64 curs],.agg #[.slice A1 l1.length c1,.int .i64 h]] w fun x w'=>x = .returned (.bool (ledgerB l0 dims curs l1 h))∧Below w.heap.size w w':=by
 have hl0:=hr0.2.1;have hl1:=hr1.2.1;have H0:=Aside0.mk hr0;have H1:=Aside0.mk hr1;have HS:=Aside0.mk hs;have HM:=Aside0.mk hm;have H00:=Aside0.mk (Kd.C_below hr0 (below_two w (.cells #[.slice A0 l0.length c0,.int .i64 dims,.int .i64 curs] 26) (.cells #[.slice A1 l1.length c1,.int .i64 h] 29)));clear hr0 hr1 hs hm
 go_enter Tryz.func25,Tryz.ntmps25
 go_wp2_with fail
 refine (impl_FrameOk.to A0 c0 l0 dims curs _ H00.out HS.out).mono ?_;rintro x w1 ⟨rfl,hb⟩;have HB:=Aside0.mk (below_into (w:=w) hb (below_two _ _ _));have f0:w1.cell? ⟨w.heap.size,0,none⟩=some (.slice A0 l0.length c0):=y01 hb (by go_simp);have f1:w1.cell? ⟨w.heap.size,1,none⟩=some (.int .i64 dims):=y01 hb (by go_simp);have f2:w1.cell? ⟨w.heap.size,2,none⟩=some (.int .i64 curs):=y01 hb (by go_simp);have y0:w1.cell? ⟨w.heap.size+1,0,none⟩=some (.slice A1 l1.length c1):=y01 hb (by go_simp);have y1:w1.cell? ⟨w.heap.size+1,1,none⟩=some (.int .i64 h):=y01 hb (by go_simp);clear hb H00;cases hfr:frameB l0 dims curs with
 | false =>
  have HN:=Aside0.mk (ledgerB_not (fun q=>by have:=q.1;rw [hfr] at this;cases this):false=ledgerB l0 dims curs l1 h);clear hfr
  go_wp2_with fail
  go_ret
  exact ⟨ret_bool HN.out,HB.out⟩
 | true =>
  have HF:=Aside0.mk hfr;obtain ⟨_,hd,hc⟩:=frame_parts hfr;have HD:=Aside0.mk hd;have HC:=Aside0.mk hc;clear hfr hd hc;by_cases hlen:1000 < l1.length
  ·have HN:=Aside0.mk (ledgerB_not (fun q=>by have:=q.2.1;omega):false=ledgerB l0 dims curs l1 h)
   go_wp2_with fail
   go_ret
   exact ⟨ret_bool HN.out,HB.out⟩
  ·have HB1:=Aside0.mk (Below.refl w1.heap.size w1);have F0:=Aside0.mk f0;have F1:=Aside0.mk f1;have F2:=Aside0.mk f2;have Y0:=Aside0.mk y0;have Y1:=Aside0.mk y1
   go_wp2_with fail
   clear f0 f1 f2 y0 y1
   go_loopw [19] (fun v wr=>∃ i:Int,0≤i∧i≤(l1.length:Int)∧v = .int .i64 i∧Aside0 (Below w1.heap.size w1 wr)∧Aside0 (∀ e∈l1.take i.toNat,entryP l0 dims curs e)) (fun v _=>(l1.length - (intOf v).toNat))
   case atStart=>exact ⟨0,by omega,by omega,rfl,HB1,⟨fun x hx=>by cases hx⟩⟩
   case round =>
    clear HB1;obtain ⟨i,hi0,hi1,rfl,HB1,HO⟩:=hrel;have f0:=y01 HB1.out F0.out;have f1:=y01 HB1.out F1.out;have f2:=y01 HB1.out F2.out;have y0:=y01 HB1.out Y0.out;have y1:=y01 HB1.out Y1.out;have HBW:=Aside0.mk (below_into HB1.out HB.out);have hz0:=World.block_lt_of_cell? _ _ f0;have hz1:=World.block_lt_of_cell? _ _ y0;by_cases hlt:i < (l1.length:Int)
    ·obtain ⟨ad,A3,c3,e0,x0,x1,x2,x3,x4,x5⟩:=at_T41 (Kd.C_below H1.out HBW.out) i hi0 hlt;cases e0;have X5:=Aside0.mk (Kd.C_below x5 (below_alloc (Below.refl wr.heap.size wr) (entO (rd_T41 l1 i) A3 c3)));have HC0:=Aside0.mk (Kd.C_below H0.out (below_alloc HBW.out (entO (rd_T41 l1 i) A3 c3)));have HMI:=Aside0.mk (all_at (z:=z41) (p:=fun e=>e.f2.size≤maxLen) hi0 hlt HM.out);clear x5
     go_wp2_with fail
     refine (impl_entryIn.to A0 c0 l0 dims curs (rd_T41 l1 i) A3 c3 _ HC0.out X5.out HD.out HC.out HMI.out).mono ?_;rintro x w2 ⟨rfl,hb⟩;have HB2:=Aside0.mk (below_into (w:=w1) hb (below_alloc HB1.out _));clear hb;cases hen:entryB l0 dims curs (rd_T41 l1 i) with
     | false =>
      have HN:=Aside0.mk (ledgerB_not (fun q=>by have:=entryB_true.2 (all_at (z:=z41) (p:=entryP l0 dims curs) hi0 hlt q.2.2.1);rw [show entryB l0 dims curs (l1.getD i.toNat z41)=false from hen] at this;cases this):false=ledgerB l0 dims curs l1 h);have HBF:=Aside0.mk (below_into HB2.out HB.out);clear hen HB2
      go_wp2_with fail
      go_ret
      exact ⟨ret_bool HN.out,HBF.out⟩
     | true =>
      have HO2:=Aside0.mk (all_step (z:=z41) (p:=entryP l0 dims curs) hi0 hlt HO.out (entryB_true.1 hen));clear hen
      go_wp2_with fail
      go_roundw
      case rel=>exact ⟨i+1,by omega,by omega,rfl,HB2,HO2⟩
      case measure=>simp [intOf];omega
    ·have HOK:=Aside0.mk (all_end (by omega) HO.out:∀ e∈l1,entryP l0 dims curs e);have HC1:=Aside0.mk (Kd.C_below H1.out HBW.out);clear HO f0 f1 f2
     go_wp2_with fail
     go_region_held3 (fun w'=>w'.cell? ⟨w.heap.size+1,0,none⟩=some (.slice A1 l1.length c1)∧w'.cell? ⟨w.heap.size+1,1,none⟩=some (.int .i64 h)) ((first | go_keep | exact ⟨y01 hb (by assumption),y01 hb (by assumption)⟩))
      ((go_at_call 58;refine (impl_HeadOf.to A1 c1 l1 _ (by repeat (exact HC1.out))).mono ?_;rintro x w2 ⟨rfl,hb⟩))
     have HBF:=Aside0.mk (below_into (w:=w) hb (below_drew HBW.out));clear hb;by_cases hh:h=headV l1
     ·have hhb:(h == headV l1)=true:=beq_iff_eq.2 hh;have HY:=Aside0.mk (ledgerB_true.2 (show ledgerP l0 dims curs l1 h from ⟨HF.out,by omega,HOK.out,hh⟩));clear hh
      go_wp2_with fail
      go_ret
      exact ⟨ret_bool (by rw [HY.out];exact hhb),HBF.out⟩
     ·have hhb:(h == headV l1)=false:=beq_eq_false_iff_ne.2 hh;have HN:=Aside0.mk (ledgerB_not (fun q=>hh q.2.2.2):false=ledgerB l0 dims curs l1 h);clear hh
      go_wp2_with fail
      go_ret
      exact ⟨ret_bool (by rw [← HN.out];exact hhb),HBF.out⟩
end Go.Proofs.YtnknanppoenigaaGreatDoor.Q
