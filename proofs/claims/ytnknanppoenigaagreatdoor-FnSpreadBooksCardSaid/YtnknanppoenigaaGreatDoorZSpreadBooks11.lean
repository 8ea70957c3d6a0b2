/- Parts of the proof: what functions of the program and of the reference answer.
   No condition. -/
import Derived.Test.YtnknanppoenigaaGreatDoorZSpreadBooks1
import Derived.Test.YtnknanppoenigaaGreatDoorZSpreadBooks4
import Derived.Test.YtnknanppoenigaaGreatDoorZSpreadBooks6
import Derived.Test.YtnknanppoenigaaGreatDoorZSpreadBooks8
import Derived.Test.YtnknanppoenigaaGreatDoorZSpreadBooks7
import Derived.Test.YtnknanppoenigaaGreatDoorZSpreadBooks2
import Derived.Test.YtnknanppoenigaaGreatDoorZSpreadBooks3
import Derived.Test.YtnknanppoenigaaGreatDoorZSpreadBooks9
import Derived.Test.YtnknanppoenigaaGreatDoorZSpreadBooks10
import Derived.Test.YtnknanppoenigaaGreatDoorZSpreadBooks5
namespace Go.Proofs.YtnknanppoenigaaGreatDoor.Q
open Go.RowKit Go.Proofs.YtnknanppoenigaaGreatDoorW.PrintWords Go.Proofs.YtnknanppoenigaaGreatDoorW.PrintLast Go.Proofs.YtnknanppoenigaaGreatDoorW.PrintMore
set_option linter.unusedVariables false
set_option linter.unusedSimpArgs false
theorem row_far {α:Type} {d:Kd α} {e base n c g:Nat} {A:Option Addr} {ok:Nat→Prop} {w:World} {xs:List α} (h:d.R e w base ok (.slice A n c) xs) (hg:g < base):∀ ad,A=some ad→0 < n→ad.block≠g:=by
 intro ad hA hn;obtain ⟨b,cap,e1,hb,_⟩:=Kd.R_form h (by have:=(Kd.R_reads' h).1;omega);injection e1 with ea
 rw [hA] at ea;injection ea with ea
 subst ea;show b≠g;omega
theorem blk4 {W:World} {g t:Nat} {z0 z1 z2 z3:Value} (h:W.heap[g]?=some (.cells #[z0,z1,z2,z3] t (0,0))) (u0 u1 u2 u3:Value):((((W.setCell ⟨g,0,none⟩ u0).setCell ⟨g,1,none⟩ u1).setCell ⟨g,2,none⟩ u2).setCell ⟨g,3,none⟩ u3).heap[g]?=some (.cells #[u0,u1,u2,u3] t (0,0)):=by
 refine blk_put (cs:=#[u0,u1,u2,z3]) ?_ 3 _ rfl;refine blk_put (cs:=#[u0,u1,z2,z3]) ?_ 2 _ rfl;refine blk_put (cs:=#[u0,z1,z2,z3]) ?_ 1 _ rfl;refine blk_put (cs:=#[z0,z1,z2,z3]) ?_ 0 _ rfl;exact h
set_option maxHeartbeats 4000000 in
set_option maxRecDepth 100000 in
theorem spec_l5DrawEntry.e (w0 w:World) (g:Nat) (c:List Int) (A:Option Addr) (cc:Nat) (l:List Acc) (d u:Int) (hI:Cur w0 w g c) (hB:Below w0.heap.size w0 w) (hc:c.length≤1048576) (hr1:∀ W,KeepBut w W g none→Kd.C k48 W A l.length l) (hs:∀ x∈l,x.f0.size≤maxLen) (hl0:0 < l.length) (hl1:l.length≤1000) (hd:d≤100) (hu:u≤100) :
 Calls Tryz.prog 71 #[.pointer (some ⟨g,0,none⟩),.agg #[.slice A l.length cc,.int .i64 d,.int .i64 u]] w fun e w'=>∃ (v:Value) (a b:Int) (t:ByteArray) (r:List Lin),e = .returned (.agg #[.int .i64 a,.int .i64 b,.string t,v])∧Kd.R k67 67 w' w.heap.size (fun _=>True) v r∧(r.length≤9∧t.size≤50)∧Drew w0 w w' g c:=by
 have HL:=hB.size;have H1:=Aside0.mk hr1;have HS:=Aside0.mk hs;have D:=Aside0.mk (Drew.refl hI hB);clear hI hB hr1 hs
 go_enter Tryz.func71,Tryz.ntmps71
 have BF:=Aside0.mk (blk_alloc (blk_new w (Obj.cells #[.slice A l.length cc,.int .i64 d,.int .i64 u] 26)) (Obj.cells #[.int .i64 0,.int .i64 0,.string ⟨#[]⟩,.slice none 0 0] 41));have BR:=Aside0.mk (show ((w.alloc (Obj.cells #[.slice A l.length cc,.int .i64 d,.int .i64 u] 26)).alloc (Obj.cells #[.int .i64 0,.int .i64 0,.string ⟨#[]⟩,.slice none 0 0] 41)).heap[w.heap.size+1]?=some (Obj.cells #[.int .i64 0,.int .i64 0,.string ⟨#[]⟩,.slice none 0 0] 41) from by have:=blk_new (w.alloc (Obj.cells #[.slice A l.length cc,.int .i64 d,.int .i64 u] 26)) (Obj.cells #[.int .i64 0,.int .i64 0,.string ⟨#[]⟩,.slice none 0 0] 41);simpa using this);have NF:w.heap.size≠g:=Nat.ne_of_gt D.out.cur.lt;have NR:w.heap.size+1≠g:=by have:=D.out.cur.lt;omega
 have ne_BF_BR:w.heap.size≠w.heap.size+1:=by omega
 have ge_BF:w.heap.size≤w.heap.size:=Nat.le_refl _;have ge_BR:w.heap.size≤w.heap.size+1:=Nat.le_succ _;replace D:=Aside0.mk ((D.out.alloc (Obj.cells #[.slice A l.length cc,.int .i64 d,.int .i64 u] 26)).alloc (Obj.cells #[.int .i64 0,.int .i64 0,.string ⟨#[]⟩,.slice none 0 0] 41));have zz:w.heap.size+1 < ((w.alloc (Obj.cells #[.slice A l.length cc,.int .i64 d,.int .i64 u] 26)).alloc (Obj.cells #[.int .i64 0,.int .i64 0,.string ⟨#[]⟩,.slice none 0 0] 41)).heap.size:=by simp
 go_wp2_with fail
 generalize (w.alloc (Obj.cells #[.slice A l.length cc,.int .i64 d,.int .i64 u] 26)).alloc (Obj.cells #[.int .i64 0,.int .i64 0,.string ⟨#[]⟩,.slice none 0 0] 41)=w1 at *
 go_wp2_with fail
 refine (spec_l1Below.e 800 D.out.cur D.out.bel hc (by omega)).mono ?_;rintro x w2 ⟨day,rfl,⟨day0,day1,_⟩,hD⟩;have day2:=day1 (by omega);replace BF:=Aside0.mk (hD.blk BF.out NF);replace BR:=Aside0.mk (hD.blk BR.out NR);replace D:=Aside0.mk (D.out.call hD);clear hD day1
 go_wp2_with fail
 refine (spec_l1Below.e 3 D.out.cur D.out.bel hc (by omega)).mono ?_;rintro x w3 ⟨rf,rfl,⟨rf0,rf1,_⟩,hD⟩;have rf2:=rf1 (by omega);replace BF:=Aside0.mk (hD.blk BF.out NF);replace BR:=Aside0.mk (hD.blk BR.out NR);replace D:=Aside0.mk (D.out.call hD);clear hD rf1
 go_wp2_with (((with_reducible refine gate_dst (N:=20) rfl ?_);refine Kd.R_lit Kd.string _ 9 ?hg (N:=20) ?hd (xs:=([(⟨#[]⟩:ByteArray),(⟨#[103,111,111,100,115]⟩:ByteArray),(⟨#[119,97,103,101,115,32,51]⟩:ByteArray),(⟨#[97,32,98,32,99]⟩:ByteArray)]:List ByteArray)) (inner:=[.string (⟨#[]⟩:ByteArray),.string (⟨#[103,111,111,100,115]⟩:ByteArray),.string (⟨#[119,97,103,101,115,32,51]⟩:ByteArray),.string (⟨#[97,32,98,32,99]⟩:ByteArray)]) (ok:=fun _=>True) (okp:=fun _=>True) ?hr ?hp (fun _ hk=>hk) trivial (Below.refl _ _) (Nat.le_refl _) (by simp) ?_;(case hd=>rfl);(case hg=>rfl);(case hr=>(go_simp;done));(case hp=>exact (Reps.one (show Kd.M Kd.string _ _ _ (⟨#[]⟩:ByteArray) [.string (⟨#[]⟩:ByteArray)] from rfl) (Reps.one (show Kd.M Kd.string _ _ _ (⟨#[103,111,111,100,115]⟩:ByteArray) [.string (⟨#[103,111,111,100,115]⟩:ByteArray)] from rfl) (Reps.one (show Kd.M Kd.string _ _ _ (⟨#[119,97,103,101,115,32,51]⟩:ByteArray) [.string (⟨#[119,97,103,101,115,32,51]⟩:ByteArray)] from rfl) (Reps.one (show Kd.M Kd.string _ _ _ (⟨#[97,32,98,32,99]⟩:ByteArray) [.string (⟨#[97,32,98,32,99]⟩:ByteArray)] from rfl) (Reps.none _ _))))));intro v20 w4 ho hb hg_ hnew_;clear hg_ hnew_;have hgL:=D.out.cur.lt;replace BF:=Aside0.mk (y03 BF.out hb);replace BR:=Aside0.mk (y03 BR.out hb);replace D:=Aside0.mk (D.out.below hb);have LIT:=Aside0.mk ho;clear hb ho))
 obtain ⟨AL,cL,eL⟩:=Kd.R_slice LIT.out;subst eL;refine (spec_l1Pick.e AL cL ([(⟨#[]⟩:ByteArray),(⟨#[103,111,111,100,115]⟩:ByteArray),(⟨#[119,97,103,101,115,32,51]⟩:ByteArray),(⟨#[97,32,98,32,99]⟩:ByteArray)]:List ByteArray) D.out.cur D.out.bel hc (Kd.R_reads' LIT.out).2.2 (Kd.R_reads' LIT.out).2.1 (row_far LIT.out hgL) (by simp) (by simp)).mono ?_;rintro x w5 ⟨tx,rfl,hm,hD⟩;have txs:=(show ∀ y∈([(⟨#[]⟩:ByteArray),(⟨#[103,111,111,100,115]⟩:ByteArray),(⟨#[119,97,103,101,115,32,51]⟩:ByteArray),(⟨#[97,32,98,32,99]⟩:ByteArray)]:List ByteArray),y.size≤50 by decide) _ hm;replace BF:=Aside0.mk (hD.blk BF.out NF);replace BR:=Aside0.mk (hD.blk BR.out NR);replace D:=Aside0.mk (D.out.call hD);clear hD hm LIT hgL;have hb:=below_alloc (Below.refl w5.heap.size w5) (Obj.cells #[.int .i64 day,.int .i64 rf,.string tx,.slice none 0 0] 41);have BE:=Aside0.mk (blk_new w5 (Obj.cells #[.int .i64 day,.int .i64 rf,.string tx,.slice none 0 0] 41));have NE:=Nat.ne_of_gt D.out.cur.lt;have ge_BE:=D.out.size;have ne_BF_BE:=Nat.ne_of_lt (blk_lt BF.out);have ne_BR_BE:=Nat.ne_of_lt (blk_lt BR.out);replace BF:=Aside0.mk (y03 BF.out hb);replace BR:=Aside0.mk (y03 BR.out hb);replace D:=Aside0.mk (D.out.below hb);have zz_BE:w5.heap.size < (w5.alloc (Obj.cells #[.int .i64 day,.int .i64 rf,.string tx,.slice none 0 0] 41)).heap.size:=by simp
 clear hb
 go_wp2_with fail
 generalize w5.alloc (Obj.cells #[.int .i64 day,.int .i64 rf,.string tx,.slice none 0 0] 41)=w6 at *
 go_wp2_with fail
 refine (spec_l1Below.e 3 D.out.cur D.out.bel hc (by omega)).mono ?_;rintro x w7 ⟨n,rfl,⟨n0,n1,_⟩,hD⟩;have n2:=n1 (by omega);replace BF:=Aside0.mk (hD.blk BF.out NF);replace BR:=Aside0.mk (hD.blk BR.out NR);replace BE:=Aside0.mk (hD.blk BE.out NE);replace D:=Aside0.mk (D.out.call hD);clear hD n1;have RO:=Aside0.mk (Kd.R_nil k67 67 w7 w.heap.size (fun k=>k≠g))
 go_wp2_with fail
 go_loopg [6] (1+n).toNat (fun kq v6 W=>∃ (m:Int) (v:Value) (r:List Lin),v6 = .int .i64 m∧0≤m∧kq=m.toNat∧(r.length:Int)+3 * m≤9∧Aside0 (W.heap[w.heap.size]?=some (.cells #[.slice A l.length cc,.int .i64 d,.int .i64 u] 26 (0,0)))∧Aside0 (W.heap[w.heap.size+1]?=some (.cells #[.int .i64 0,.int .i64 0,.string ⟨#[]⟩,.slice none 0 0] 41 (0,0)))∧Aside0 (W.heap[w5.heap.size]?=some (.cells #[.int .i64 day,.int .i64 rf,.string tx,v] 41 (0,0)))∧Aside0 (k67.R 67 W w.heap.size (fun k=>k≠g) (v) r)∧Aside0 (Drew w0 w W g c))
 case atStart=>exact ⟨1+n,_,[],by go_num,by omega,rfl,by simp;omega,BF,BR,BE,RO,D⟩
 case round =>
  clear BF BR BE RO D;obtain ⟨m,v,r,rfl,m0,hm,hr,BF,BR,BE,RO,D⟩:=hrel;by_cases hm1:m > 0
  case neg =>
   obtain rfl:m=0:=by omega
   obtain ⟨A5,c5,rfl⟩:=Kd.R_slice RO.out;have y0:=(y00 BE.out 0).trans rfl;have yz0:=y02 BE.out 0;have y1:=(y00 BE.out 1).trans rfl;have yz1:=y02 BE.out 1;have y2:=(y00 BE.out 2).trans rfl;have yz2:=y02 BE.out 2;have y3:=(y00 BE.out 3).trans rfl;have yz3:=y02 BE.out 3;have z0:=(y00 BR.out 0).trans rfl;have zz0:=y02 BR.out 0;have z1:=(y00 BR.out 1).trans rfl;have zz1:=y02 BR.out 1;have z2:=(y00 BR.out 2).trans rfl;have zz2:=y02 BR.out 2;have z3:=(y00 BR.out 3).trans rfl;have zz3:=y02 BR.out 3;have BR2:=Aside0.mk (blk4 BR.out (.int .i64 day) (.int .i64 rf) (.string tx) (.slice A5 r.length c5))
   go_wp2_with fail
   refine bodyPost_ret (results_c1 rfl _ _ (w.heap.size+1) 41 #[.int .i64 day,.int .i64 rf,.string tx,.slice A5 r.length c5] (0,0) _ rfl BR2.out Tryz.underlying41 rfl (by kernel_rfl)) rfl ?_;exact ⟨_,_,_,_,rfl,r,Kd.R_mono (Kd.R_set (Kd.R_set (Kd.R_set (Kd.R_set RO.out BR.out (by decide) 0 _) (blk_set BR.out 0 _) (by decide) 1 _) (blk_set (blk_set BR.out 0 _) 1 _) (by decide) 2 _) (blk_set (blk_set (blk_set BR.out 0 _) 1 _) 2 _) (by decide) 3 _) (fun _ _=>trivial),⟨by omega,txs⟩,(((D.out.set HL (Nat.le_succ _) NR _).set HL (Nat.le_succ _) NR _).set HL (Nat.le_succ _) NR _).set HL (Nat.le_succ _) NR _⟩
  obtain ⟨q,rfl⟩:∃ q,gk=q+1:=⟨gk - 1,by omega⟩;have y2:=(y00 BF.out 2).trans rfl;have yz2:=y02 BF.out 2
  go_wp2_with fail
  refine (spec_l1Below.e u D.out.cur D.out.bel hc (by omega)).mono ?_;rintro x w8 ⟨cu,rfl,⟨cu0,cu1,_⟩,hD⟩;replace BF:=Aside0.mk (hD.blk BF.out NF);replace BR:=Aside0.mk (hD.blk BR.out NR);replace BE:=Aside0.mk (hD.blk BE.out NE);replace RO:=Aside0.mk (hD.R RO.out (fun _ hk=>hk));replace D:=Aside0.mk (D.out.call hD);clear hD y2 yz2 cu1;have y1:=(y00 BF.out 1).trans rfl;have yz1:=y02 BF.out 1
  go_wp2_with fail
  refine (spec_l1Below.e d D.out.cur D.out.bel hc (by omega)).mono ?_;rintro x w9 ⟨dm,rfl,⟨dm0,dm1,_⟩,hD⟩;replace BF:=Aside0.mk (hD.blk BF.out NF);replace BR:=Aside0.mk (hD.blk BR.out NR);replace BE:=Aside0.mk (hD.blk BE.out NE);replace RO:=Aside0.mk (hD.R RO.out (fun _ hk=>hk));replace D:=Aside0.mk (D.out.call hD);clear hD y1 yz1 dm1
  go_wp2_with fail
  refine (spec_l1Below.e 20000 D.out.cur D.out.bel hc (by omega)).mono ?_;rintro x w10 ⟨a,rfl,⟨a0,a1,_⟩,hD⟩;have a2:=a1 (by omega);replace BF:=Aside0.mk (hD.blk BF.out NF);replace BR:=Aside0.mk (hD.blk BR.out NR);replace BE:=Aside0.mk (hD.blk BE.out NE);replace RO:=Aside0.mk (hD.R RO.out (fun _ hk=>hk));replace D:=Aside0.mk (D.out.call hD);clear hD a1
  go_upto_if 43 with fail
  go_cut [10] (fun v10 W=>∃ b:Int,v10 = .int .i64 b∧Aside0 (W.heap[w.heap.size]?=some (.cells #[.slice A l.length cc,.int .i64 d,.int .i64 u] 26 (0,0)))∧Aside0 (W.heap[w.heap.size+1]?=some (.cells #[.int .i64 0,.int .i64 0,.string ⟨#[]⟩,.slice none 0 0] 41 (0,0)))∧Aside0 (W.heap[w5.heap.size]?=some (.cells #[.int .i64 day,.int .i64 rf,.string tx,v] 41 (0,0)))∧Aside0 (k67.R 67 W w.heap.size (fun k=>k≠g) (v) r)∧Aside0 (Drew w0 w W g c))
  case first =>
   by_cases hcu:cu=0
   ·have hcu':(cu != 0)=false:=by simp [hcu]
    go_wp2_with fail
    go_meet
    exact ⟨_,rfl,BF,BR,BE,RO,D⟩
   ·have hcu':(cu != 0)=true:=by simp [hcu]
    go_wp2_with fail
    refine (spec_l1Below.e 100 D.out.cur D.out.bel hc (by omega)).mono ?_;rintro x w11 ⟨y,rfl,_,hD⟩;replace BF:=Aside0.mk (hD.blk BF.out NF);replace BR:=Aside0.mk (hD.blk BR.out NR);replace BE:=Aside0.mk (hD.blk BE.out NE);replace RO:=Aside0.mk (hD.R RO.out (fun _ hk=>hk));replace D:=Aside0.mk (D.out.call hD);clear hD
    go_wp2_with fail
    refine (spec_l1Below.e 3 D.out.cur D.out.bel hc (by omega)).mono ?_;rintro x w12 ⟨z,rfl,_,hD⟩;replace BF:=Aside0.mk (hD.blk BF.out NF);replace BR:=Aside0.mk (hD.blk BR.out NR);replace BE:=Aside0.mk (hD.blk BE.out NE);replace RO:=Aside0.mk (hD.R RO.out (fun _ hk=>hk));replace D:=Aside0.mk (D.out.call hD);clear hD
    go_wp2_with fail
    go_meet
    exact ⟨_,rfl,BF,BR,BE,RO,D⟩
  case rest =>
   clear BF BR BE RO D;obtain ⟨b,rfl,BF,BR,BE,RO,D⟩:=hcut;have y0:=(y00 BF.out 0).trans rfl;have yz0:=y02 BF.out 0
   go_wp2_with fail
   refine (spec_l5DrawLeaf.e w0 _ g c A cc l D.out.cur D.out.bel hc (fun W' hk=>H1.out _ (KeepBut.thenK D.out.keep hk)) HS.out hl0 hl1).mono ?_;rintro x w13 ⟨fr,rfl,_,_,hD⟩;clear y0 yz0;replace BF:=Aside0.mk (hD.blk BF.out NF);replace BR:=Aside0.mk (hD.blk BR.out NR);replace BE:=Aside0.mk (hD.blk BE.out NE);replace RO:=Aside0.mk (hD.R RO.out (fun _ hk=>hk));replace D:=Aside0.mk (D.out.call hD);clear hD;have y0:=(y00 BF.out 0).trans rfl;have yz0:=y02 BF.out 0
   go_wp2_with fail
   refine (spec_l5DrawLeaf.e w0 _ g c A cc l D.out.cur D.out.bel hc (fun W' hk=>H1.out _ (KeepBut.thenK D.out.keep hk)) HS.out hl0 hl1).mono ?_;rintro x w14 ⟨tt,rfl,_,_,hD⟩;clear y0 yz0;replace BF:=Aside0.mk (hD.blk BF.out NF);replace BR:=Aside0.mk (hD.blk BR.out NR);replace BE:=Aside0.mk (hD.blk BE.out NE);replace RO:=Aside0.mk (hD.R RO.out (fun _ hk=>hk));replace D:=Aside0.mk (D.out.call hD);clear hD;have y3:=(y00 BE.out 3).trans rfl;have yz3:=y02 BE.out 3
   go_wp2_with (((with_reducible refine gate_builtin (b:=.append) (xs:=#[.tmp 62,.tmp 69]) rfl ?_);at_builtin;refine Kd.R_append k67 w.heap.size rfl (.tmp 62) (.tmp 69) 39 67 (.agg #[(.int .i64 0),(.int .i64 0),(.int .i64 0),(.int .i64 0),(.int .i64 0)]) 40 rfl Tryz.underlying39 info67 rfl (by decide) (by omega) (v) r (⟨fr,dm,cu,a - 10000,b⟩:S67) [.int .i64 (fr),.int .i64 (dm),.int .i64 (cu),.int .i64 (a - 10000),.int .i64 (b)] (fun k=>k≠g) (fun _=>False) rfl (by (go_simp;done)) ?aP (fun _ hk=>hk.elim) ?aF ?aO (Below.refl _ _) ?aS ?aL ?_;(case aP=>exact k67_mkM _ _ _ (⟨fr,dm,cu,a - 10000,b⟩:S67));(case aF=>exact fun k hk=>by have:=D.out.cur.lt;omega);(case aO=>exact RO.out);(case aS=>exact D.out.size);(case aL=>omega);intro v1 w15 ho hb hg hat;obtain ⟨r1,hr1⟩:∃ z_,z_=r++[(⟨fr,dm,cu,a - 10000,b⟩:S67)]:=⟨_,rfl⟩;rw [← hr1] at ho;have nr1:r1.length≤r.length+1:=(by rw [hr1];simp);clear hr1;obtain ⟨Br1,qr1,hv⟩:=Kd.R_slice ho;subst hv;have BF_:=Aside0.mk (blk_grown BF.out hg (Kd.R_ne RO.out BF.out (by decide)));have BR_:=Aside0.mk (blk_grown BR.out hg (Kd.R_ne RO.out BR.out (by decide)));have BE_:=Aside0.mk (blk_grown BE.out hg (Kd.R_ne RO.out BE.out (by decide)));clear BF;have BF:=BF_;clear BF_;clear BR;have BR:=BR_;clear BR_;clear BE;have BE:=BE_;clear BE_;replace D:=Aside0.mk (D.out.grown HL hg (fun k hk=>⟨Kd.R_base RO.out k hk,RO.out.1 k hk⟩));clear RO;have RO:=Aside0.mk ho;have s3:=(y00 BE.out 3).trans rfl;have sz3:=y02 BE.out 3;clear ho hb hg hat))
   clear s3 sz3;replace RO:=Aside0.mk (Kd.R_set RO.out BE.out (by decide) 3 (.slice Br1 r1.length qr1));replace BF:=Aside0.mk (blk_far BF.out (p:=⟨w5.heap.size,3,none⟩) ne_BF_BE (.slice Br1 r1.length qr1));replace BR:=Aside0.mk (blk_far BR.out (p:=⟨w5.heap.size,3,none⟩) ne_BR_BE (.slice Br1 r1.length qr1));replace BE:=Aside0.mk (blk_set BE.out 3 (.slice Br1 r1.length qr1));replace D:=Aside0.mk (D.out.set HL (p:=⟨w5.heap.size,3,none⟩) ge_BE NE (.slice Br1 r1.length qr1));generalize w15.setCell ⟨w5.heap.size,3,none⟩ (.slice Br1 r1.length qr1)=w16 at *;clear y3 yz3
   go_wp2_with fail
   refine (spec_l1Once.e 3 D.out.cur D.out.bel hc (by omega)).mono ?_;rintro x w17 ⟨bb,rfl,hD⟩;replace BF:=Aside0.mk (hD.blk BF.out NF);replace BR:=Aside0.mk (hD.blk BR.out NR);replace BE:=Aside0.mk (hD.blk BE.out NE);replace RO:=Aside0.mk (hD.R RO.out (fun _ hk=>hk));replace D:=Aside0.mk (D.out.call hD);clear hD
   go_upto_if 73 with fail
   go_cut [9,10] (fun v9 v10 W=>∃ (x y:Int) (v:Value) (s:List Lin),v9 = .int .i64 x∧v10 = .int .i64 y∧s.length≤r.length+2∧Aside0 (W.heap[w.heap.size]?=some (.cells #[.slice A l.length cc,.int .i64 d,.int .i64 u] 26 (0,0)))∧Aside0 (W.heap[w.heap.size+1]?=some (.cells #[.int .i64 0,.int .i64 0,.string ⟨#[]⟩,.slice none 0 0] 41 (0,0)))∧Aside0 (W.heap[w5.heap.size]?=some (.cells #[.int .i64 day,.int .i64 rf,.string tx,v] 41 (0,0)))∧Aside0 (k67.R 67 W w.heap.size (fun k=>k≠g) (v) s)∧Aside0 (Drew w0 w W g c))
   case first =>
    cases bb
    ·go_wp2_with fail
     go_meet
     exact ⟨_,_,_,r1,rfl,rfl,by omega,BF,BR,BE,RO,D⟩
    ·skip
     go_wp2_with fail
     refine (spec_l1Below.e 200 D.out.cur D.out.bel hc (by omega)).mono ?_;rintro x w18 ⟨x,rfl,⟨x0,x1,_⟩,hD⟩;have x2:=x1 (by omega);replace BF:=Aside0.mk (hD.blk BF.out NF);replace BR:=Aside0.mk (hD.blk BR.out NR);replace BE:=Aside0.mk (hD.blk BE.out NE);replace RO:=Aside0.mk (hD.R RO.out (fun _ hk=>hk));replace D:=Aside0.mk (D.out.call hD);clear hD x1
     go_upto_if 78 with fail
     go_cut [14] (fun v14 W=>∃ y:Int,v14 = .int .i64 y∧Aside0 (W.heap[w.heap.size]?=some (.cells #[.slice A l.length cc,.int .i64 d,.int .i64 u] 26 (0,0)))∧Aside0 (W.heap[w.heap.size+1]?=some (.cells #[.int .i64 0,.int .i64 0,.string ⟨#[]⟩,.slice none 0 0] 41 (0,0)))∧Aside0 (W.heap[w5.heap.size]?=some (.cells #[.int .i64 day,.int .i64 rf,.string tx,.slice Br1 r1.length qr1] 41 (0,0)))∧Aside0 (k67.R 67 W w.heap.size (fun k=>k≠g) (.slice Br1 r1.length qr1) r1)∧Aside0 (Drew w0 w W g c))
     case first =>
      by_cases hcu:cu=0
      ·have hcu':(cu != 0)=false:=by simp [hcu]
       go_wp2_with fail
       go_meet
       exact ⟨_,rfl,BF,BR,BE,RO,D⟩
      ·have hcu':(cu != 0)=true:=by simp [hcu]
       go_wp2_with fail
       refine (spec_l1Below.e 100 D.out.cur D.out.bel hc (by omega)).mono ?_;rintro x w19 ⟨y,rfl,_,hD⟩;replace BF:=Aside0.mk (hD.blk BF.out NF);replace BR:=Aside0.mk (hD.blk BR.out NR);replace BE:=Aside0.mk (hD.blk BE.out NE);replace RO:=Aside0.mk (hD.R RO.out (fun _ hk=>hk));replace D:=Aside0.mk (D.out.call hD);clear hD
       go_wp2_with fail
       go_meet
       exact ⟨_,rfl,BF,BR,BE,RO,D⟩
     case rest =>
      clear BF BR BE RO D;obtain ⟨y,rfl,BF,BR,BE,RO,D⟩:=hcut;have y3:=(y00 BE.out 3).trans rfl;have yz3:=y02 BE.out 3
      go_wp2_with (((with_reducible refine gate_builtin (b:=.append) (xs:=#[.tmp 82,.tmp 91]) rfl ?_);at_builtin;refine Kd.R_append k67 w.heap.size rfl (.tmp 82) (.tmp 91) 39 67 (.agg #[(.int .i64 0),(.int .i64 0),(.int .i64 0),(.int .i64 0),(.int .i64 0)]) 40 rfl Tryz.underlying39 info67 rfl (by decide) (by omega) (.slice Br1 r1.length qr1) r1 (⟨tt,dm,cu,-x,wrap64 (-y)⟩:S67) [.int .i64 (tt),.int .i64 (dm),.int .i64 (cu),.int .i64 (-x),.int .i64 (wrap64 (-y))] (fun k=>k≠g) (fun _=>False) rfl (by (go_simp;done)) ?aP (fun _ hk=>hk.elim) ?aF ?aO (Below.refl _ _) ?aS ?aL ?_;(case aP=>exact k67_mkM _ _ _ (⟨tt,dm,cu,-x,wrap64 (-y)⟩:S67));(case aF=>exact fun k hk=>by have:=D.out.cur.lt;omega);(case aO=>exact RO.out);(case aS=>exact D.out.size);(case aL=>omega);intro v1 w20 ho hb hg hat;obtain ⟨r2,hr2⟩:∃ z_,z_=r1++[(⟨tt,dm,cu,-x,wrap64 (-y)⟩:S67)]:=⟨_,rfl⟩;rw [← hr2] at ho;have nr2:r2.length≤r1.length+1:=(by rw [hr2];simp);clear hr2;obtain ⟨Br2,qr2,hv⟩:=Kd.R_slice ho;subst hv;have BF_:=Aside0.mk (blk_grown BF.out hg (Kd.R_ne RO.out BF.out (by decide)));have BR_:=Aside0.mk (blk_grown BR.out hg (Kd.R_ne RO.out BR.out (by decide)));have BE_:=Aside0.mk (blk_grown BE.out hg (Kd.R_ne RO.out BE.out (by decide)));clear BF;have BF:=BF_;clear BF_;clear BR;have BR:=BR_;clear BR_;clear BE;have BE:=BE_;clear BE_;replace D:=Aside0.mk (D.out.grown HL hg (fun k hk=>⟨Kd.R_base RO.out k hk,RO.out.1 k hk⟩));clear RO;have RO:=Aside0.mk ho;have s3:=(y00 BE.out 3).trans rfl;have sz3:=y02 BE.out 3;clear ho hb hg hat))
      clear s3 sz3;replace RO:=Aside0.mk (Kd.R_set RO.out BE.out (by decide) 3 (.slice Br2 r2.length qr2));replace BF:=Aside0.mk (blk_far BF.out (p:=⟨w5.heap.size,3,none⟩) ne_BF_BE (.slice Br2 r2.length qr2));replace BR:=Aside0.mk (blk_far BR.out (p:=⟨w5.heap.size,3,none⟩) ne_BR_BE (.slice Br2 r2.length qr2));replace BE:=Aside0.mk (blk_set BE.out 3 (.slice Br2 r2.length qr2));replace D:=Aside0.mk (D.out.set HL (p:=⟨w5.heap.size,3,none⟩) ge_BE NE (.slice Br2 r2.length qr2));generalize w20.setCell ⟨w5.heap.size,3,none⟩ (.slice Br2 r2.length qr2)=w21 at *;clear y3 yz3
      go_wp2_with fail
      go_meet
      exact ⟨_,_,_,r2,rfl,rfl,by omega,BF,BR,BE,RO,D⟩
   case rest =>
    clear BF BR BE RO D;obtain ⟨x,y,v,s,rfl,rfl,hs,BF,BR,BE,RO,D⟩:=hcut;have y3:=(y00 BE.out 3).trans rfl;have yz3:=y02 BE.out 3
    go_wp2_with (((with_reducible refine gate_builtin (b:=.append) (xs:=#[.tmp 101,.tmp 110]) rfl ?_);at_builtin;refine Kd.R_append k67 w.heap.size rfl (.tmp 101) (.tmp 110) 39 67 (.agg #[(.int .i64 0),(.int .i64 0),(.int .i64 0),(.int .i64 0),(.int .i64 0)]) 40 rfl Tryz.underlying39 info67 rfl (by decide) (by omega) (v) s (⟨tt,dm,cu,wrap64 (-x),wrap64 (-y)⟩:S67) [.int .i64 (tt),.int .i64 (dm),.int .i64 (cu),.int .i64 (wrap64 (-x)),.int .i64 (wrap64 (-y))] (fun k=>k≠g) (fun _=>False) rfl (by (go_simp;done)) ?aP (fun _ hk=>hk.elim) ?aF ?aO (Below.refl _ _) ?aS ?aL ?_;(case aP=>exact k67_mkM _ _ _ (⟨tt,dm,cu,wrap64 (-x),wrap64 (-y)⟩:S67));(case aF=>exact fun k hk=>by have:=D.out.cur.lt;omega);(case aO=>exact RO.out);(case aS=>exact D.out.size);(case aL=>omega);intro v1 w20 ho hb hg hat;obtain ⟨r3,hr3⟩:∃ z_,z_=s++[(⟨tt,dm,cu,wrap64 (-x),wrap64 (-y)⟩:S67)]:=⟨_,rfl⟩;rw [← hr3] at ho;have nr3:r3.length≤s.length+1:=(by rw [hr3];simp);clear hr3;obtain ⟨Br3,qr3,hv⟩:=Kd.R_slice ho;subst hv;have BF_:=Aside0.mk (blk_grown BF.out hg (Kd.R_ne RO.out BF.out (by decide)));have BR_:=Aside0.mk (blk_grown BR.out hg (Kd.R_ne RO.out BR.out (by decide)));have BE_:=Aside0.mk (blk_grown BE.out hg (Kd.R_ne RO.out BE.out (by decide)));clear BF;have BF:=BF_;clear BF_;clear BR;have BR:=BR_;clear BR_;clear BE;have BE:=BE_;clear BE_;replace D:=Aside0.mk (D.out.grown HL hg (fun k hk=>⟨Kd.R_base RO.out k hk,RO.out.1 k hk⟩));clear RO;have RO:=Aside0.mk ho;have s3:=(y00 BE.out 3).trans rfl;have sz3:=y02 BE.out 3;clear ho hb hg hat))
    clear s3 sz3;replace RO:=Aside0.mk (Kd.R_set RO.out BE.out (by decide) 3 (.slice Br3 r3.length qr3));replace BF:=Aside0.mk (blk_far BF.out (p:=⟨w5.heap.size,3,none⟩) ne_BF_BE (.slice Br3 r3.length qr3));replace BR:=Aside0.mk (blk_far BR.out (p:=⟨w5.heap.size,3,none⟩) ne_BR_BE (.slice Br3 r3.length qr3));replace BE:=Aside0.mk (blk_set BE.out 3 (.slice Br3 r3.length qr3));replace D:=Aside0.mk (D.out.set HL (p:=⟨w5.heap.size,3,none⟩) ge_BE NE (.slice Br3 r3.length qr3));generalize w20.setCell ⟨w5.heap.size,3,none⟩ (.slice Br3 r3.length qr3)=w21 at *;clear y3 yz3
    go_wp2_with fail
    go_roundg q
    case rel=>exact ⟨m - 1,_,r3,by go_num,by omega,by omega,by omega,BF,BR,BE,RO,D⟩
    case measure=>omega
end Go.Proofs.YtnknanppoenigaaGreatDoor.Q
namespace Go.Proofs.YtnknanppoenigaaGreatDoor.Q
open Go.RowKit Go.Proofs.YtnknanppoenigaaGreatDoorW.PrintWords Go.Proofs.YtnknanppoenigaaGreatDoorW.PrintLast Go.Proofs.YtnknanppoenigaaGreatDoorW.PrintMore
attribute [local go_sem] max2_int min2_int max_two min_two max_three min_three max_four min_four
set_option linter.unusedVariables false
set_option linter.unusedSimpArgs false
open Classical in
noncomputable def headR (h:Int):List Ent→Int
 | []=>h
 | e :: l=>if tooLong e then 0 else if (linkAll (h,false) (numsOf e)).2=true then 0 else headR (linkAll (h,false) (numsOf e)).1 l
theorem linkStep_bad (h x:Int):(linkStep (h,true) x).2=true:=by unfold linkStep;split <;> rfl
theorem linkAll_bad (xs:List Int):∀ s:Int × Bool,s.2=true→(linkAll s xs).2=true:=by
 induction xs with
 | nil=>intro s h;exact h
 | cons x xs ih =>
  intro s h;obtain ⟨a,b⟩:=s;cases h;exact ih _ (linkStep_bad a x)
theorem headR_eq (l:List Ent):∀ h:Int,headR h l=open Classical in if ∃ e∈l,tooLong e then 0 else if (linkAll (h,false) (l.flatMap numsOf)).2=true then 0 else (linkAll (h,false) (l.flatMap numsOf)).1:=by
 induction l with
 | nil=>intro h;simp [headR,linkAll]
 | cons e l ih =>
  intro h;unfold headR;by_cases ht:tooLong e
  ·rw [if_pos ht,if_pos ⟨e,List.mem_cons_self,ht⟩]
  ·rw [if_neg ht]
   have hq:(∃ x∈e :: l,tooLong x) ↔ ∃ x∈l,tooLong x:=by
    constructor
    ·rintro ⟨x,hx,q⟩;rcases List.mem_cons.1 hx with rfl | hx
     ·exact absurd q ht
     ·exact ⟨x,hx,q⟩
    ·rintro ⟨x,hx,q⟩;exact ⟨x,List.mem_cons_of_mem _ hx,q⟩
   rw [List.flatMap_cons,linkAll_append];by_cases hE:∃ x∈l,tooLong x
   ·rw [if_pos (hq.2 hE),ih,if_pos hE]
    split <;> rfl
   ·rw [if_neg (fun q=>hE (hq.1 q))];cases hb:(linkAll (h,false) (numsOf e)).2 with
    | true=>rw [if_pos rfl,if_pos (linkAll_bad _ _ hb)]
    | false =>
     rw [if_neg (by simp),ih,if_neg hE];rw [show linkAll (h,false) (numsOf e)=((linkAll (h,false) (numsOf e)).1,false) from Prod.ext rfl hb]
theorem headV_eq (l:List Ent):headV l=if 1000 < l.length then 0 else headR 1 l:=by
 unfold headV;rw [headR_eq];by_cases h:1000 < l.length
 ·rw [if_pos h,if_pos (Or.inl h)]
 ·rw [if_neg h];by_cases hE:∃ e∈l,tooLong e
  ·rw [if_pos (Or.inr hE),if_pos hE]
  ·rw [if_neg (fun q=>q.elim h hE),if_neg hE]
theorem nums_l1 (a0 a1:Int) (t:ByteArray) (ls:List Lin) (hl:ls.length≤60):∀ (n k:Nat) (i:Int) (acc:List Int),0≤i→i+n=(ls.length:Int)→acc.length+5 * n≤1000 →
 spec_l5Numbers.l1 (k+n+1) acc i a0 a1 t ls=some (acc++(ls.drop i.toNat).flatMap lineNums):=by
 intro n
 induction n with
 | zero =>
  intro k i acc h0 h1 h2;unfold spec_l5Numbers.l1;rw [if_neg (by omega),List.drop_of_length_le (by omega)];simp
 | succ n ih =>
  intro k i acc h0 h1 h2;rw [show k+(n+1)+1=(k+n+1)+1 by omega];unfold spec_l5Numbers.l1;rw [if_pos (by omega),if_pos h0];show (if acc.length+5 < 17592186044416 then _ else _)=_;rw [if_pos (by omega),show wrap64 (i+1)=i+1 by unfold wrap64;omega];rw [ih k (i+1) _ (by omega) (by omega) (by simp;omega)];rw [List.append_assoc]
  congr 2
  rw [List.drop_eq_getElem_cons (show i.toNat < ls.length by omega),List.flatMap_cons,show (i+1).toNat=i.toNat+1 by omega]
  congr 1
  unfold rd_T67 lineNums;rw [List.getD_eq_getElem?_getD,List.getElem?_eq_getElem (by omega)];rfl
theorem nums_l0 (e:Ent) (hl:e.f3.length≤60) (ht:e.f2.size≤40):∀ (n k:Nat) (i:Int),0≤i→i+n=(e.f2.size:Int) →
 spec_l5Numbers.l0 (k+n+e.f3.length+2) ([e.f0,e.f1,(e.f2.size:Int)]++bytesN e.f2 i.toNat) i e.f0 e.f1 e.f2 e.f3=some (numsOf e):=by
 have hb:∀ m:Nat,(bytesN e.f2 m).length=m:=by
  intro m
  induction m with
  | zero=>rfl
  | succ m ih=>simp [bytesN,ih]
 intro n
 induction n with
 | zero =>
  intro k i h0 h1;obtain rfl:i=(e.f2.size:Int):=by omega
  rw [show k+0+e.f3.length+2=(k+e.f3.length+1)+1 by omega];unfold spec_l5Numbers.l0;rw [if_neg (by omega),if_pos (by simp [hb];omega),nums_l1 _ _ _ _ hl e.f3.length k 0 _ (by omega) (by omega) (by simp [hb];omega)];unfold numsOf;simp
 | succ n ih =>
  intro k i h0 h1;rw [show k+(n+1)+e.f3.length+2=(k+n+e.f3.length+2)+1 by omega];unfold spec_l5Numbers.l0;rw [if_pos (by omega),if_pos h0,if_pos (by simp [hb];omega)];have hr:=bt_range e.f2 i;rw [show wrap64 (i+1)=i+1 by unfold wrap64;omega,show wrap64 (bt e.f2 i)=bt e.f2 i by unfold wrap64;omega];have hs:=ih k (i+1) (by omega) (by omega);rw [show (i+1).toNat=i.toNat+1 by omega] at hs;rw [← hs,List.append_assoc];show _=spec_l5Numbers.l0 _ (_++(bytesN e.f2 i.toNat++[bt e.f2 (i.toNat:Int)])) _ _ _ _ _;rw [show ((i.toNat:Nat):Int)=i by omega]
theorem nums_f (e:Ent) (h:¬ tooLong e) {k:Nat} (hk:200≤k):spec_l5Numbers.f k e.f0 e.f1 e.f2 e.f3=some (numsOf e):=by
 unfold tooLong at h;have:=nums_l0 e (by omega) (by omega) e.f2.size (k - e.f2.size - e.f3.length - 2) 0 (by omega) (by omega);rw [show k - e.f2.size - e.f3.length - 2+e.f2.size+e.f3.length+2=k by omega] at this;exact this
theorem nums_len (e:Ent) (h:¬ tooLong e):(numsOf e).length≤350:=by
 unfold tooLong at h
 have hb:∀ m:Nat,(bytesN e.f2 m).length=m:=by
  intro m
  induction m with
  | zero=>rfl
  | succ m ih=>simp [bytesN,ih]
 have hf:∀ l:List Lin,(l.flatMap lineNums).length=5 * l.length:=by
  intro l
  induction l with
  | nil=>rfl
  | cons x l ih=>rw [List.flatMap_cons,List.length_append,ih];simp [lineNums];omega
 unfold numsOf;simp only [List.length_append,hb,hf,List.length_cons,List.length_nil];omega
theorem link_wrap {h x:Int} (hh:HeadIn (h,false)) (hx:inB x (-549755813888) 549755813887=true):((Int.tmod (wrap64 ((wrap64 ((wrap64 (h * 1000003))+x))+549755813888)) 1099511627791),false)=linkStep (h,false) x:=by
 obtain ⟨h0,h1⟩:=hh;have hx':=inB_true.1 hx;simp only at h0 h1;rw [show wrap64 (h * 1000003)=h * 1000003 by unfold wrap64;omega,show wrap64 (h * 1000003+x)=h * 1000003+x by unfold wrap64;omega,show wrap64 (h * 1000003+x+549755813888)=h * 1000003+x+549755813888 by unfold wrap64;omega];unfold linkStep;rw [if_pos hx',Int.tmod_eq_emod_of_nonneg (by omega)]
theorem link_out {h x:Int} (hx:inB x (-549755813888) 549755813887=false):linkStep (h,false) x=(h,true):=if_neg (inB_false.1 hx)
theorem head_l1 (l:List Ent) (xs:List Int) (i:Int):∀ (n k:Nat) (h j:Int),0≤j→j+n=(xs.length:Int)→xs.length≤350→HeadIn (h,false) →
 spec_HeadOf.l1 (k+n+1) l h i xs j=if (linkAll (h,false) (xs.drop j.toNat)).2=true then some 0 else spec_HeadOf.l0 k l (linkAll (h,false) (xs.drop j.toNat)).1 (wrap64 (i+1)):=by
 intro n
 induction n with
 | zero =>
  intro k h j h0 h1 h2 hh;unfold spec_HeadOf.l1;rw [if_neg (by omega),List.drop_of_length_le (by omega)];rfl
 | succ n ih =>
  intro k h j h0 h1 h2 hh;rw [show k+(n+1)+1=(k+n+1)+1 by omega];unfold spec_HeadOf.l1;rw [if_pos (by omega),if_pos h0]
  have hd:xs.drop j.toNat=rd xs j :: xs.drop (j+1).toNat:=by
   rw [List.drop_eq_getElem_cons (show j.toNat < xs.length by omega),show (j+1).toNat=j.toNat+1 by omega];unfold rd;rw [List.getD_eq_getElem?_getD,List.getElem?_eq_getElem (by omega)];rfl
  rw [hd,linkAll_cons];show (if inB (rd xs j) (-549755813888) 549755813887=true then _ else _)=_;cases hx:inB (rd xs j) (-549755813888) 549755813887 with
  | true =>
   rw [if_pos rfl,show wrap64 (j+1)=j+1 by unfold wrap64;omega,← link_wrap hh hx];exact ih k _ (j+1) (by omega) (by omega) h2 (by rw [link_wrap hh hx];exact linkStep_in hh _)
  | false =>
   rw [if_neg (by simp),link_out hx,if_pos (linkAll_bad _ _ rfl)]
theorem head_l0 (l:List Ent) (hl:l.length≤1000):∀ (n k:Nat) (h i:Int),0≤i→i+n=(l.length:Int)→HeadIn (h,false)→1000≤k →
 spec_HeadOf.l0 (k+400 * n) l h i=some (headR h (l.drop i.toNat)):=by
 intro n
 induction n with
 | zero =>
  intro k h i h0 h1 hh hk;rw [show k+400 * 0=(k - 1)+1 by omega];unfold spec_HeadOf.l0;rw [if_neg (by omega),List.drop_of_length_le (by omega)];rfl
 | succ n ih =>
  intro k h i h0 h1 hh hk
  have hd:l.drop i.toNat=rd_T41 l i :: l.drop (i+1).toNat:=by
   rw [List.drop_eq_getElem_cons (show i.toNat < l.length by omega),show (i+1).toNat=i.toNat+1 by omega];unfold rd_T41;rw [List.getD_eq_getElem?_getD,List.getElem?_eq_getElem (by omega)];rfl
  rw [hd];rw [show k+400 * (n+1)=((k+400 * n+398)+1)+1 by omega];unfold spec_HeadOf.l0;rw [if_pos (by omega),if_pos h0];unfold headR;by_cases ht:tooLong (rd_T41 l i)
  ·rw [if_pos ht]
   have hj:∀ b:Bool,b=true→spec_HeadOf.j1 ((k+400 * n+398)+1) l h i b=some 0:=fun b hb=>by
    unfold spec_HeadOf.j1;rw [if_pos hb]
   unfold tooLong at ht;by_cases hc:((rd_T41 l i).f3.length:Int) > 60
   ·rw [if_pos hc];exact hj _ rfl
   ·rw [if_neg hc];exact hj _ (by simp;omega)
  ·have hj:spec_HeadOf.j1 ((k+400 * n+398)+1) l h i false=some (if (linkAll (h,false) (numsOf (rd_T41 l i))).2=true then 0 else headR (linkAll (h,false) (numsOf (rd_T41 l i))).1 (l.drop (i+1).toNat)):=by
    unfold spec_HeadOf.j1;rw [if_neg (by simp),if_pos h0,if_pos (by omega),nums_f _ ht (by omega)];have hn:=nums_len _ ht;show spec_HeadOf.l1 (k+400 * n+398) l h i (numsOf (rd_T41 l i)) 0=_;rw [show k+400 * n+398=(k+397 - (numsOf (rd_T41 l i)).length+400 * n)+(numsOf (rd_T41 l i)).length+1 by omega];rw [head_l1 l _ i _ _ h 0 (by omega) (by omega) hn hh,show wrap64 (i+1)=i+1 by unfold wrap64;omega];simp only [Int.toNat_zero,List.drop_zero];have hin:HeadIn ((linkAll (h,false) (numsOf (rd_T41 l i))).1,false):=linkAll_in hh (numsOf (rd_T41 l i));rw [ih _ _ (i+1) (by omega) (by omega) hin (by omega)]
    split <;> rfl
   rw [if_neg ht,← hj];unfold tooLong at ht;rw [if_neg (by omega)]
   congr 1
   simp
   omega
theorem spec_HeadOf.to (A0:Option Addr) (c0:Nat) (l0:List Ent) (w:World) (hr0:Kd.C k41 w A0 l0.length l0) (hc:l0.length≤c0) :
 Calls Tryz.prog 55 #[.slice A0 l0.length c0] w fun e w'=>e = .returned (.int .i64 (headV l0))∧Below w.heap.size w w':=by
 refine spec_HeadOf.calls (1000+400 * l0.length) A0 c0 l0 (headV l0) w hr0 hc ?_;unfold spec_HeadOf.f;rw [headV_eq];by_cases h:1000 < l0.length
 ·rw [if_pos (by omega),if_pos h]
 ·rw [if_neg (by omega),if_neg h,head_l0 l0 (by omega) l0.length 1000 1 0 (by omega) (by omega) headIn_one (by omega)];rfl
set_option maxHeartbeats 16000000 in
set_option maxRecDepth 100000 in
theorem spec_LedgerOk.to (A0:Option Addr) (c0:Nat) (l0:List Acc) (dims curs:Int) (A1:Option Addr) (c1:Nat) (l1:List Ent) (h:Int) (w:World) (hr0:Kd.C k48 w A0 l0.length l0) (hs:∀ x∈l0,x.f0.size≤maxLen) (hr1:Kd.C k41 w A1 l1.length l1) (hc1:l1.length≤c1) (hm:∀ e∈l1,e.f2.size≤maxLen) :
 Calls Tryz.prog 21 #[.agg #[.slice A0 l0.length c0,.int .i64 dims,.int .i64 curs],.agg #[.slice A1 l1.length c1,.int .i64 h]] w fun x w'=>x = .returned (.bool (ledgerB l0 dims curs l1 h))∧Below w.heap.size w w':=by
 have hl0:=hr0.2.1;have hl1:=hr1.2.1;have H0:=Aside0.mk hr0;have H1:=Aside0.mk hr1;have HS:=Aside0.mk hs;have HM:=Aside0.mk hm;have HCAP:=Aside0.mk hc1;have HB0:=Aside0.mk (below_two w (.cells #[.slice A0 l0.length c0,.int .i64 dims,.int .i64 curs] 26) (.cells #[.slice A1 l1.length c1,.int .i64 h] 29));have H00:=Aside0.mk (Kd.C_below hr0 HB0.out);have H11:=Aside0.mk (Kd.C_below hr1 HB0.out);clear hr0 hr1 hs hm hc1;by_cases hlen:1000 < l1.length
 case pos =>
  have HN:=Aside0.mk (ledgerB_not (fun q=>by have:=q.2.1;omega):false=ledgerB l0 dims curs l1 h);have hlen':1000 < (l1.length:Int):=by omega
  go_enter Tryz.func21,Tryz.ntmps21
  go_wp2_with fail
  go_quiet (fail)
  go_wp2_with fail
  go_ret
  exact ⟨ret_bool HN.out,pw_below_drewN HB0.out _⟩
 have hlenb:decide (1000 < (l1.length:Int))=false:=by simp;omega
 have f0:((w.alloc (.cells #[.slice A0 l0.length c0,.int .i64 dims,.int .i64 curs] 26)).alloc (.cells #[.slice A1 l1.length c1,.int .i64 h] 29)).cell? ⟨w.heap.size,0,none⟩=some (.slice A0 l0.length c0):=by go_simp
 have f1:((w.alloc (.cells #[.slice A0 l0.length c0,.int .i64 dims,.int .i64 curs] 26)).alloc (.cells #[.slice A1 l1.length c1,.int .i64 h] 29)).cell? ⟨w.heap.size,1,none⟩=some (.int .i64 dims):=by go_simp
 have f2:((w.alloc (.cells #[.slice A0 l0.length c0,.int .i64 dims,.int .i64 curs] 26)).alloc (.cells #[.slice A1 l1.length c1,.int .i64 h] 29)).cell? ⟨w.heap.size,2,none⟩=some (.int .i64 curs):=by go_simp
 have f3:((w.alloc (.cells #[.slice A0 l0.length c0,.int .i64 dims,.int .i64 curs] 26)).alloc (.cells #[.slice A1 l1.length c1,.int .i64 h] 29)).cell? ⟨w.heap.size+1,0,none⟩=some (.slice A1 l1.length c1):=by go_simp
 have f4:((w.alloc (.cells #[.slice A0 l0.length c0,.int .i64 dims,.int .i64 curs] 26)).alloc (.cells #[.slice A1 l1.length c1,.int .i64 h] 29)).cell? ⟨w.heap.size+1,1,none⟩=some (.int .i64 h):=by go_simp
 cases hfr:frameB l0 dims curs with
 | false =>
  have HF:=Aside0.mk hfr;have HN:=Aside0.mk (ledgerB_not (fun q=>by have:=q.1;rw [hfr] at this;cases this):false=ledgerB l0 dims curs l1 h);clear hfr
  go_enter Tryz.func21,Tryz.ntmps21
  go_wp2_with fail
  first | (go_region_with (first | (go_at_call 54;refine (spec_FrameOk.to A0 c0 l0 dims curs _ (by repeat (first | exact H00.out | refine Kd.C_drew ?_)) HS.out).mono ?_;rintro x w2 ⟨rfl,hb⟩;rw [HF.out];have g3:=y01 hb f3))) | fail
  all_goals (
   have HBF:=Aside0.mk (below_into (w:=w) hb (below_drew HB0.out));clear hb
   go_wp2_with fail
   go_ret
   exact ⟨ret_bool HN.out,HBF.out⟩)
 | true =>
  have HF:=Aside0.mk hfr;clear hfr;by_cases hh:h=headV l1
  case neg =>
   have HN:=Aside0.mk (ledgerB_not (fun q=>hh q.2.2.2):false=ledgerB l0 dims curs l1 h);have hhb:(h != headV l1)=true:=bne_iff_ne.2 hh
   go_enter Tryz.func21,Tryz.ntmps21
   go_wp2_with fail
   go_region_held3 (fun w'=>w'.cell? ⟨w.heap.size,0,none⟩=some (.slice A0 l0.length c0)∧w'.cell? ⟨w.heap.size,1,none⟩=some (.int .i64 dims)∧w'.cell? ⟨w.heap.size,2,none⟩=some (.int .i64 curs)∧w'.cell? ⟨w.heap.size+1,0,none⟩=some (.slice A1 l1.length c1)∧w'.cell? ⟨w.heap.size+1,1,none⟩=some (.int .i64 h)) ((first | go_keep | exact ⟨y01 hb (by assumption),y01 hb (by assumption),y01 hb (by assumption),y01 hb (by assumption),y01 hb (by assumption)⟩))
    (first
     | (go_at_call 54;refine (spec_FrameOk.to A0 c0 l0 dims curs _ (by repeat (first | exact H00.out | refine Kd.C_drew ?_)) HS.out).mono ?_;rintro x w2 ⟨rfl,hb⟩;rw [HF.out])
     | (go_at_call 55;refine (spec_HeadOf.to A1 c1 l1 _ (by first | exact Kd.C_below H11.out (below_into hb (below_drew (Below.refl _ _))) | (repeat (first | exact H11.out | refine Kd.C_drew ?_))) HCAP.out).mono ?_;rintro x w3 ⟨rfl,hb3⟩;replace hb:=below_into hb3 hb;clear hb3))
   have HBF:=Aside0.mk (below_into (w:=w) hb (below_drew HB0.out));clear hb
   go_wp2_with fail
   go_ret
   exact ⟨ret_bool HN.out,HBF.out⟩
  have hhb:(h != headV l1)=false:=by rw [hh];exact bne_self_eq_false' _
  have HH:=Aside0.mk hh;clear hh;obtain ⟨hch,hd,hc⟩:=frame_parts HF.out;clear hch hd hc
  go_enter Tryz.func21,Tryz.ntmps21
  go_wp2_with fail
  go_region_held3 (fun w'=>w'.cell? ⟨w.heap.size,0,none⟩=some (.slice A0 l0.length c0)∧w'.cell? ⟨w.heap.size,1,none⟩=some (.int .i64 dims)∧w'.cell? ⟨w.heap.size,2,none⟩=some (.int .i64 curs)∧w'.cell? ⟨w.heap.size+1,0,none⟩=some (.slice A1 l1.length c1)∧w'.cell? ⟨w.heap.size+1,1,none⟩=some (.int .i64 h)) ((first | go_keep | exact ⟨y01 hb (by assumption),y01 hb (by assumption),y01 hb (by assumption),y01 hb (by assumption),y01 hb (by assumption)⟩))
   (first
    | (go_at_call 54;refine (spec_FrameOk.to A0 c0 l0 dims curs _ (by repeat (first | exact H00.out | refine Kd.C_drew ?_)) HS.out).mono ?_;rintro x w2 ⟨rfl,hb⟩;rw [HF.out])
    | (go_at_call 55;refine (spec_HeadOf.to A1 c1 l1 _ (by first | exact Kd.C_below H11.out (below_into hb (below_drew (Below.refl _ _))) | (repeat (first | exact H11.out | refine Kd.C_drew ?_))) HCAP.out).mono ?_;rintro x w3 ⟨rfl,hb3⟩;replace hb:=below_into hb3 hb;clear hb3))
  have HBW1:=Aside0.mk (below_into (w:=w) hb (below_drew HB0.out));have F0:=Aside0.mk (y01 hb f0);have F1:=Aside0.mk (y01 hb f1);have F2:=Aside0.mk (y01 hb f2);have F3:=Aside0.mk (y01 hb f3);have F4:=Aside0.mk (y01 hb f4);have HB1:=Aside0.mk (Below.refl w3.heap.size w3);have g3:=y01 hb f3;clear hb f0 f1 f2 f3 f4
  go_wp2_with fail
  clear g3
  go_loopw [5] (fun v wr=>∃ i:Int,0≤i∧i≤(l1.length:Int)∧v = .int .i64 i∧Aside0 (Below w3.heap.size w3 wr)∧Aside0 (∀ e∈l1.take i.toNat,entryP l0 dims curs e)) (fun v _=>(l1.length - (intOf v).toNat))
  case atStart=>exact ⟨0,by omega,by omega,rfl,HB1,⟨fun x hx=>by cases hx⟩⟩
  case round =>
   clear HB1;obtain ⟨i,hi0,hi1,rfl,HB1,HO⟩:=hrel;have g0:=y01 HB1.out F0.out;have g1:=y01 HB1.out F1.out;have g2:=y01 HB1.out F2.out;have g3:=y01 HB1.out F3.out;have HBW:=Aside0.mk (below_into HB1.out HBW1.out);by_cases hlt:i < (l1.length:Int)
   ·obtain ⟨ad,A3,c3,e0,x0,x1,x2,x3,x4,x5⟩:=at_T41 (Kd.C_below H1.out HBW.out) i hi0 hlt;cases e0;have X5:=Aside0.mk x5;have HC0:=Aside0.mk (Kd.C_below H0.out HBW.out);have HMI:=Aside0.mk (all_at (z:=z41) (p:=fun e=>e.f2.size≤maxLen) hi0 hlt HM.out);clear x5
    go_wp2_with fail
    go_region_held3 (fun w'=>w'.cell? ⟨w.heap.size,0,none⟩=some (.slice A0 l0.length c0)∧w'.cell? ⟨w.heap.size,1,none⟩=some (.int .i64 dims)∧w'.cell? ⟨w.heap.size,2,none⟩=some (.int .i64 curs)∧w'.cell? ⟨w.heap.size+1,0,none⟩=some (.slice (some ad) l1.length c1)∧w'.cell? (ad.add (i.toNat * 4))=some (.int .i64 (rd_T41 l1 i).f0)∧w'.cell? ⟨(ad.add (i.toNat * 4)).block,(ad.add (i.toNat * 4)).off+1,none⟩=some (.int .i64 (rd_T41 l1 i).f1)∧w'.cell? ⟨(ad.add (i.toNat * 4)).block,(ad.add (i.toNat * 4)).off+2,none⟩=some (.string (rd_T41 l1 i).f2)∧w'.cell? ⟨(ad.add (i.toNat * 4)).block,(ad.add (i.toNat * 4)).off+3,none⟩=some (.slice A3 (rd_T41 l1 i).f3.length c3)) ((first | go_keep | exact ⟨y01 hb (by assumption),y01 hb (by assumption),y01 hb (by assumption),y01 hb (by assumption),y01 hb (by assumption),y01 hb (by assumption),y01 hb (by assumption),y01 hb (by assumption)⟩))
     ((go_at_call 33;refine (spec_EntryOk.to A0 c0 l0 dims curs (rd_T41 l1 i) A3 c3 _ (by repeat (first | exact HC0.out | refine Kd.C_drew ?_)) HS.out (by repeat (first | exact X5.out | refine Kd.C_drew ?_)) HMI.out).mono ?_;rintro x w2 ⟨rfl,hb⟩;rw [HF.out,Bool.true_and]))
    have HB2:=Aside0.mk (below_into (w:=w3) hb (below_drew HB1.out));clear hb;cases hen:entryB l0 dims curs (rd_T41 l1 i) with
    | false =>
     have HN:=Aside0.mk (ledgerB_not (fun q=>by have:=entryB_true.2 (all_at (z:=z41) (p:=entryP l0 dims curs) hi0 hlt q.2.2.1);rw [show entryB l0 dims curs (l1.getD i.toNat z41)=false from hen] at this;cases this):false=ledgerB l0 dims curs l1 h);have HBF:=Aside0.mk (below_into HB2.out HBW1.out);clear hen HB2
     go_wp2_with fail
     go_ret
     exact ⟨ret_bool HN.out,HBF.out⟩
    | true =>
     have HO2:=Aside0.mk (all_step (z:=z41) (p:=entryP l0 dims curs) hi0 hlt HO.out (entryB_true.1 hen));clear hen
     go_wp2_with fail
     go_roundw
     case rel=>exact ⟨i+1,by omega,by omega,rfl,HB2,HO2⟩
     case measure=>simp [intOf];omega
   ·have HY:=Aside0.mk (ledgerB_true.2 (show ledgerP l0 dims curs l1 h from ⟨HF.out,by omega,all_end (by omega) HO.out,HH.out⟩))
    go_wp2_with fail
    go_ret
    exact ⟨ret_bool HY.out.symm,HBW.out⟩
end Go.Proofs.YtnknanppoenigaaGreatDoor.Q
namespace Go.Proofs.YtnknanppoenigaaGreatDoor.Q
open Go.RowKit Go.Proofs.YtnknanppoenigaaGreatDoorW.PrintWords Go.Proofs.YtnknanppoenigaaGreatDoorW.PrintLast Go.Proofs.YtnknanppoenigaaGreatDoorW.PrintMore
set_option linter.unusedVariables false
set_option linter.unusedSimpArgs false
theorem ledger_fine {chart:List Acc} {d c:Int} {es:List Ent} {h:Int} (q:ledgerB chart d c es h=true):es.length≤1000∧chart.length≤120∧(∀ e∈es,entFine e)∧(∀ e∈es,∀ x∈e.f3,0≤x.f0∧x.f0 < (chart.length:Int))∧(∀ e∈es,0≤e.f0∧e.f0≤40000):=by
 obtain ⟨h1,h2,h3,_⟩:=ledgerB_true.1 q;obtain ⟨hc,_,_⟩:=frame_parts h1;refine ⟨h2,(chartOk_iff.1 hc).2.1,fun e he=>⟨(h3 e he).2.2.2.1.2,fun x hx=>?_⟩,fun e he x hx=>?_,fun e he=>(h3 e he).1⟩
 ·have:=(h3 e he).2.2.2.2.2.1 x hx;exact ⟨this.2.2.2.1,this.2.2.2.2.1⟩
 ·have:=(h3 e he).2.2.2.2.2.1 x hx;exact ⟨this.1.1,this.1.2.1⟩
noncomputable def okE (m0:List Acc) (d c:Int) (e:Ent):Bool:=frameB m0 d c && entryB m0 d c e
def sprT:ByteArray:=⟨#[115,112,114,101,97,100]⟩
def sprE (fr tt dim:Int) (ps:List Per) (sh:List Int) (i:Nat):Ent:=⟨(rd_T63 ps (i:Int)).f1,0,sprT,[⟨tt,dim,0,rd sh (i:Int),rd sh (i:Int)⟩,⟨fr,dim,0,wrap64 (-(rd sh (i:Int))),wrap64 (-(rd sh (i:Int)))⟩]⟩
open Classical in
noncomputable def sprF (m0:List Acc) (d c fr tt dim:Int) (ps:List Per) (sh:List Int) (i:Nat):List Ent:=if ∀ j:Nat,i≤j→j < sh.length→okE m0 d c (sprE fr tt dim ps sh j)=true then (List.range sh.length).map (sprE fr tt dim ps sh) else []
theorem impl_EntryOk_is (m0:List Acc) (d c:Int) (e:Ent) (h1:∀ x∈m0,x.f0.size≤maxLen) (h2:e.f2.size≤maxLen):impl_EntryOk.f m0 d c e.f0 e.f1 e.f2 e.f3=some (okE m0 d c e):=by
 unfold impl_EntryOk.f impl_FrameOk.f okE;rw [if_pos h1];simp only [Option.bind_some];cases h:frameB m0 d c with
 | false=>simp
 | true =>
  obtain ⟨_,q1,q2⟩:=frame_parts h;unfold impl_entryIn.f;rw [if_pos rfl,if_pos ⟨q1,q2,h2⟩];simp
theorem spec_EntryOk_is (m0:List Acc) (d c:Int) (e:Ent) (h1:∀ x∈m0,x.f0.size≤maxLen) (h2:e.f2.size≤maxLen):spec_EntryOk.f m0 d c e.f0 e.f1 e.f2 e.f3=some (okE m0 d c e):=by
 unfold spec_EntryOk.f okE;rw [if_pos ⟨h1,h2⟩]
theorem sprT_small:sprT.size≤maxLen:=by
 have:sprT.size=6:=by decide
 unfold maxLen;omega
theorem sprF_end {m0:List Acc} {d c fr tt dim:Int} {ps:List Per} {sh:List Int} {i:Nat} (h:sh.length≤i):sprF m0 d c fr tt dim ps sh i=(List.range sh.length).map (sprE fr tt dim ps sh):=if_pos (fun j h1 h2=>by omega)
theorem sprF_go {m0:List Acc} {d c fr tt dim:Int} {ps:List Per} {sh:List Int} {i:Nat} (h:okE m0 d c (sprE fr tt dim ps sh i)=true):sprF m0 d c fr tt dim ps sh i=sprF m0 d c fr tt dim ps sh (i+1):=by
 unfold sprF;by_cases q:∀ j:Nat,i+1≤j→j < sh.length→okE m0 d c (sprE fr tt dim ps sh j)=true
 ·rw [if_pos q,if_pos (fun j h1 h2=>by
   by_cases e:j=i
   ·rw [e];exact h
   ·exact q j (by omega) h2)]
 ·rw [if_neg q,if_neg (fun r=>q (fun j h1 h2=>r j (by omega) h2))]
theorem sprF_no {m0:List Acc} {d c fr tt dim:Int} {ps:List Per} {sh:List Int} {i:Nat} (hi:i < sh.length) (h:okE m0 d c (sprE fr tt dim ps sh i)=false):sprF m0 d c fr tt dim ps sh i=[]:=if_neg (fun q=>by have:=q i (Nat.le_refl _) hi;rw [h] at this;cases this)
theorem range_snoc (i:Nat) (g:Nat→Ent):(List.range i).map g++[g i]=(List.range (i+1)).map g:=by rw [List.range_succ,List.map_append];rfl
section
variable (m0:List Acc) (d c fr tt dim:Int) (ps:List Per) (sh:List Int) (hs:∀ x∈m0,x.f0.size≤maxLen) (hl:sh.length≤200) (hp:sh.length=0∨sh.length=ps.length)
include hs hl hp
theorem Spread_l1I:∀ n k i:Nat,i+n=sh.length→n < k→impl_Spread.l1 k fr tt dim ps ((List.range i).map (sprE fr tt dim ps sh)) sh (sh.length:Int) (i:Int) m0 d c=some (sprF m0 d c fr tt dim ps sh i):=by
 intro n
 induction n with
 | zero =>
  intro k i hi hk;obtain ⟨k,rfl⟩:∃ j,k=j+1:=⟨k - 1,by omega⟩;rw [impl_Spread.l1,if_neg (by omega),sprF_end (by omega),show i=sh.length by omega]
 | succ n ih =>
  intro k i hi hk;obtain ⟨k,rfl⟩:∃ j,k=j+1:=⟨k - 1,by omega⟩;have hw:wrap64 ((i:Int)+1)=((i+1:Nat):Int):=by unfold wrap64;omega
  have he:=impl_EntryOk_is m0 d c (sprE fr tt dim ps sh i) hs sprT_small;rw [impl_Spread.l1,if_pos (by omega),if_pos (by omega),if_pos (by omega),if_pos (by omega)];simp only [Option.bind_some];rw [show impl_EntryOk.f m0 d c (rd_T63 ps (i:Int)).f1 0 (⟨#[115,112,114,101,97,100]⟩:ByteArray) [⟨tt,dim,0,rd sh (i:Int),rd sh (i:Int)⟩,⟨fr,dim,0,wrap64 (-(rd sh (i:Int))),wrap64 (-(rd sh (i:Int)))⟩]=some (okE m0 d c (sprE fr tt dim ps sh i)) from he];simp only [Option.bind_some];cases hb:okE m0 d c (sprE fr tt dim ps sh i) with
  | false=>rw [if_neg (by simp),sprF_no (by omega) hb]
  | true =>
   rw [if_pos rfl,if_pos (by rw [List.length_map,List.length_range];omega),hw,sprF_go hb,← ih k (i+1) (by omega) (by omega),← range_snoc];rfl
theorem Spread_l1S:∀ n k i:Nat,i+n=sh.length→n < k→spec_Spread.l1 k fr tt dim ps ((List.range i).map (sprE fr tt dim ps sh)) sh (i:Int) m0 d c=some (sprF m0 d c fr tt dim ps sh i):=by
 intro n
 induction n with
 | zero =>
  intro k i hi hk;obtain ⟨k,rfl⟩:∃ j,k=j+1:=⟨k - 1,by omega⟩;rw [spec_Spread.l1,if_neg (by omega),sprF_end (by omega),show i=sh.length by omega]
 | succ n ih =>
  intro k i hi hk;obtain ⟨k,rfl⟩:∃ j,k=j+1:=⟨k - 1,by omega⟩;have hw:wrap64 ((i:Int)+1)=((i+1:Nat):Int):=by unfold wrap64;omega
  have he:=spec_EntryOk_is m0 d c (sprE fr tt dim ps sh i) hs sprT_small;rw [spec_Spread.l1,if_pos (by omega),if_pos (by omega),if_pos (by omega)];simp only [Option.bind_some,List.length_nil,List.length_cons,List.nil_append];rw [if_pos (by omega)];rw [show spec_EntryOk.f m0 d c (rd_T63 ps (i:Int)).f1 0 (⟨#[115,112,114,101,97,100]⟩:ByteArray) [⟨tt,dim,0,rd sh (i:Int),rd sh (i:Int)⟩,⟨fr,dim,0,wrap64 (-(rd sh (i:Int))),wrap64 (-(rd sh (i:Int)))⟩]=some (okE m0 d c (sprE fr tt dim ps sh i)) from he];simp only [Option.bind_some];cases hb:okE m0 d c (sprE fr tt dim ps sh i) with
  | false=>rw [if_neg (by simp),sprF_no (by omega) hb]
  | true =>
   rw [if_pos rfl,if_pos (by rw [List.length_map,List.length_range];omega),hw,sprF_go hb,← ih k (i+1) (by omega) (by omega),← range_snoc];rfl
end
def spanR (p:Per):Int:=wrap64 (wrap64 (p.f1 - p.f0)+1)
def finI (p:Per):Prop:=¬ p.f1 < p.f0∧¬ wrap64 (p.f1 - p.f0) < 0∧¬ wrap64 (p.f1 - p.f0) ≥ 10000000
def finS (p:Per):Prop:=(0≤p.f1∧p.f1≤40000)∧(-10000000≤p.f0∧p.f0≤40000)∧¬ p.f1 < p.f0
theorem sharesR_len (t:Int) (ws:List Int):(sharesR t ws).length=0∨(sharesR t ws).length=ws.length:=by
 unfold sharesR
 split
 ·right;rw [giveC_len];unfold quoS;rw [List.length_map]
 ·left;rfl
theorem take_per {l:List Per} {i:Nat} (h:i < l.length):l.take (i+1)=l.take i++[rd_T63 l (i:Int)]:=by
 rw [List.take_add_one,List.getElem?_eq_getElem h];unfold rd_T63;rw [List.getD_eq_getElem?_getD,Int.toNat_natCast,List.getElem?_eq_getElem h];rfl
theorem mem_per {l:List Per} {i:Nat} (h:i < l.length):rd_T63 l (i:Int)∈l:=mem_at (l:=l) (z:=z63) (i:=(i:Int)) (by omega) (by omega)
open Classical in
noncomputable def sprI (m0:List Acc) (d c t fr tt dim:Int) (ps:List Per):List Ent:=if ps.length≤200∧(∀ p∈ps,finI p) then sprF m0 d c fr tt dim ps (sharesR t (ps.map spanR)) 0 else []
open Classical in
noncomputable def sprS (m0:List Acc) (d c t fr tt dim:Int) (ps:List Per):List Ent:=if ps.length≤200∧(∀ p∈ps,finS p) then sprF m0 d c fr tt dim ps (sharesR t (ps.map spanR)) 0 else []
open Classical in
theorem Spread_l0I (m0:List Acc) (d c t fr tt dim:Int) (ps:List Per) (hs:∀ x∈m0,x.f0.size≤maxLen) (hl:ps.length≤200):∀ n k i:Nat,i+n=ps.length→n+300 < k →
 impl_Spread.l0 k t fr tt dim ps ((ps.take i).map spanR) ps (ps.length:Int) (i:Int) m0 d c=some (if ∀ j:Nat,i≤j→j < ps.length→finI (rd_T63 ps (j:Int)) then sprF m0 d c fr tt dim ps (sharesR t (ps.map spanR)) 0 else []):=by
 intro n
 induction n with
 | zero =>
  intro k i hi hk;obtain ⟨k,rfl⟩:∃ j,k=j+1:=⟨k - 1,by omega⟩;have hsl:=sharesR_len t (ps.map spanR);rw [List.length_map] at hsl;rw [impl_Spread.l0,if_neg (by omega),List.take_of_length_le (by omega),if_pos (fun j h1 h2=>by omega)];unfold impl_Shares.f;simp only [Option.bind_some];exact Spread_l1I m0 d c fr tt dim ps _ hs (by omega) hsl (sharesR t (ps.map spanR)).length k 0 (by omega) (by omega)
 | succ n ih =>
  intro k i hi hk;obtain ⟨k,rfl⟩:∃ j,k=j+1:=⟨k - 1,by omega⟩;have hw:wrap64 ((i:Int)+1)=((i+1:Nat):Int):=by unfold wrap64;omega
  rw [impl_Spread.l0,if_pos (by omega),if_pos (by omega),if_pos (by omega)];by_cases q:finI (rd_T63 ps (i:Int))
  ·rw [if_neg q.1,if_neg q.2.1,if_neg q.2.2,if_pos (by rw [List.length_map,List.length_take];omega),hw];rw [show (ps.take i).map spanR++[wrap64 (wrap64 ((rd_T63 ps (i:Int)).f1 - (rd_T63 ps (i:Int)).f0)+1)]=(ps.take (i+1)).map spanR by rw [take_per (by omega),List.map_append];rfl];rw [ih k (i+1) (by omega) (by omega)];by_cases r:∀ j:Nat,i+1≤j→j < ps.length→finI (rd_T63 ps (j:Int))
   ·rw [if_pos r,if_pos (fun j h1 h2=>by
     by_cases e:j=i
     ·rw [e];exact q
     ·exact r j (by omega) h2)]
   ·rw [if_neg r,if_neg (fun r'=>r (fun j h1 h2=>r' j (by omega) h2))]
  ·rw [if_neg (fun r:(∀ j:Nat,i≤j→j < ps.length→finI (rd_T63 ps (j:Int)))=>q (r i (Nat.le_refl _) (by omega)))];unfold finI at q;by_cases q1:(rd_T63 ps (i:Int)).f1 < (rd_T63 ps (i:Int)).f0
   ·rw [if_pos q1]
   rw [if_neg q1];by_cases q2:wrap64 ((rd_T63 ps (i:Int)).f1 - (rd_T63 ps (i:Int)).f0) < 0
   ·rw [if_pos q2]
   rw [if_neg q2,if_pos (Classical.byContradiction fun q3=>q ⟨q1,q2,q3⟩)]
open Classical in
theorem Spread_l0S (m0:List Acc) (d c t fr tt dim:Int) (ps:List Per) (hs:∀ x∈m0,x.f0.size≤maxLen) (hl:ps.length≤200):∀ n k i:Nat,i+n=ps.length→n+100300 < k →
 spec_Spread.l0 k t fr tt dim ps [] ((ps.take i).map spanR) (i:Int) m0 d c=some (if ∀ j:Nat,i≤j→j < ps.length→finS (rd_T63 ps (j:Int)) then sprF m0 d c fr tt dim ps (sharesR t (ps.map spanR)) 0 else []):=by
 intro n
 induction n with
 | zero =>
  intro k i hi hk;obtain ⟨k,rfl⟩:∃ j,k=j+1:=⟨k - 1,by omega⟩;have hsl:=sharesR_len t (ps.map spanR);rw [List.length_map] at hsl;rw [spec_Spread.l0,if_neg (by omega),List.take_of_length_le (by omega),if_pos (fun j h1 h2=>by omega),spec_Shares_is t _ k (by omega)];simp only [Option.bind_some];exact Spread_l1S m0 d c fr tt dim ps _ hs (by omega) hsl (sharesR t (ps.map spanR)).length k 0 (by omega) (by omega)
 | succ n ih =>
  intro k i hi hk;obtain ⟨k,rfl⟩:∃ j,k=j+1:=⟨k - 1,by omega⟩;have hw:wrap64 ((i:Int)+1)=((i+1:Nat):Int):=by unfold wrap64;omega
  rw [spec_Spread.l0,if_pos (by omega),if_pos (by omega)];unfold spec_l2Day.f spec_l1In.f;simp only [Option.bind_some];by_cases q:finS (rd_T63 ps (i:Int))
  ·rw [inB_of q.1,inB_of q.2.1,if_pos rfl,if_pos rfl,if_neg q.2.2,if_pos (by rw [List.length_map,List.length_take];omega),hw];rw [show (ps.take i).map spanR++[wrap64 (wrap64 ((rd_T63 ps (i:Int)).f1 - (rd_T63 ps (i:Int)).f0)+1)]=(ps.take (i+1)).map spanR by rw [take_per (by omega),List.map_append];rfl];rw [ih k (i+1) (by omega) (by omega)];by_cases r:∀ j:Nat,i+1≤j→j < ps.length→finS (rd_T63 ps (j:Int))
   ·rw [if_pos r,if_pos (fun j h1 h2=>by
     by_cases e:j=i
     ·rw [e];exact q
     ·exact r j (by omega) h2)]
   ·rw [if_neg r,if_neg (fun r'=>r (fun j h1 h2=>r' j (by omega) h2))]
  ·rw [if_neg (fun r:(∀ j:Nat,i≤j→j < ps.length→finS (rd_T63 ps (j:Int)))=>q (r i (Nat.le_refl _) (by omega)))];unfold finS at q;by_cases q1:0≤(rd_T63 ps (i:Int)).f1∧(rd_T63 ps (i:Int)).f1≤40000
   ·rw [inB_of q1,if_pos rfl];by_cases q2:-10000000≤(rd_T63 ps (i:Int)).f0∧(rd_T63 ps (i:Int)).f0≤40000
    ·rw [inB_of q2,if_pos rfl,if_pos (Classical.byContradiction fun q3=>q ⟨q1,q2,q3⟩)]
    ·rw [inB_not q2,if_neg (by simp)]
   ·rw [inB_not q1,if_neg (by simp)]
theorem all_per {p:Per→Prop} {ps:List Per}:(∀ j:Nat,0≤j→j < ps.length→p (rd_T63 ps (j:Int))) ↔ ∀ x∈ps,p x:=by
 constructor
 ·intro h x hx;obtain ⟨j,hj,rfl⟩:=List.mem_iff_getElem.1 hx;have:=h j (Nat.zero_le _) hj;unfold rd_T63 at this;rw [List.getD_eq_getElem?_getD,Int.toNat_natCast,List.getElem?_eq_getElem hj] at this;exact this
 ·intro h j _ hj;exact h _ (mem_per hj)
theorem impl_Spread_isI (m0:List Acc) (d c t fr tt dim:Int) (ps:List Per) (hs:∀ x∈m0,x.f0.size≤maxLen) (k:Nat) (hk:1000≤k):impl_Spread.f k m0 d c t fr tt dim ps=some (sprI m0 d c t fr tt dim ps):=by
 unfold impl_Spread.f sprI;by_cases hl:ps.length≤200
 ·have:=Spread_l0I m0 d c t fr tt dim ps hs hl ps.length k 0 (by omega) (by omega);simp only [List.take_zero,List.map_nil] at this;rw [show ((0:Nat):Int)=0 from rfl] at this;rw [if_neg (by omega),this]
  congr 1
  by_cases q:∀ p∈ps,finI p
  ·rw [if_pos (all_per.2 q),if_pos ⟨hl,q⟩]
  ·rw [if_neg (fun r=>q (all_per.1 r)),if_neg (fun r=>q r.2)]
 ·rw [if_pos (by omega),if_neg (fun r=>hl r.1)]
theorem spec_Spread_isS (m0:List Acc) (d c t fr tt dim:Int) (ps:List Per) (hs:∀ x∈m0,x.f0.size≤maxLen) (k:Nat) (hk:200000≤k):spec_Spread.f k m0 d c t fr tt dim ps=some (sprS m0 d c t fr tt dim ps):=by
 unfold spec_Spread.f sprS;simp only [Option.bind_some];by_cases hl:ps.length≤200
 ·have:=Spread_l0S m0 d c t fr tt dim ps hs hl ps.length k 0 (by omega) (by omega);simp only [List.take_zero,List.map_nil] at this;rw [show ((0:Nat):Int)=0 from rfl] at this;rw [if_neg (by omega),this]
  congr 1
  by_cases q:∀ p∈ps,finS p
  ·rw [if_pos (all_per.2 q),if_pos ⟨hl,q⟩]
  ·rw [if_neg (fun r=>q (all_per.1 r)),if_neg (fun r=>q r.2)]
 ·rw [if_pos (by omega),if_neg (fun r=>hl r.1)]
theorem sprF_nil {m0:List Acc} {d c fr tt dim:Int} {ps:List Per}:sprF m0 d c fr tt dim ps [] 0=[]:=by
 rw [sprF_end (by simp)];rfl
theorem spr_same (m0:List Acc) (d c t fr tt dim:Int) (ps:List Per) (hp:∀ p∈ps,(-9223372036854775808≤p.f0∧p.f0≤9223372036854775807)∧(-9223372036854775808≤p.f1∧p.f1≤9223372036854775807)):sprI m0 d c t fr tt dim ps=sprS m0 d c t fr tt dim ps:=by
 unfold sprI sprS;by_cases hl:ps.length≤200
 case neg=>rw [if_neg (fun r=>hl r.1),if_neg (fun r=>hl r.1)]
 by_cases qi:∀ p∈ps,finI p
 ·rw [if_pos ⟨hl,qi⟩];by_cases qs:∀ p∈ps,finS p
  ·rw [if_pos ⟨hl,qs⟩]
  ·rw [if_neg (fun r=>qs r.2)];obtain ⟨p,hpm,hnp⟩:∃ p,p∈ps∧¬ finS p:=Classical.byContradiction fun h=>qs (fun p hm=>Classical.byContradiction fun hn=>h ⟨p,hm,hn⟩)
   have hbad:¬ (0≤p.f1∧p.f1≤40000):=fun hd=>hnp (by
    obtain ⟨i1,i2,i3⟩:=qi p hpm;obtain ⟨⟨b0,b1⟩,b2,b3⟩:=hp p hpm;refine ⟨hd,?_,i1⟩;unfold wrap64 at i2 i3
    omega)
   rcases sharesR_len t (ps.map spanR) with h0 | h1
   ·rw [List.length_eq_zero_iff.1 h0,sprF_nil]
   ·rw [List.length_map] at h1;obtain ⟨j,hj,rfl⟩:=List.mem_iff_getElem.1 hpm;unfold sprF;rw [if_neg (fun r=>?_)];have:=r j (Nat.zero_le _) (by omega);unfold okE at this;rw [Bool.and_eq_true,entryB_true] at this;have h2:0≤(rd_T63 ps (j:Int)).f1∧(rd_T63 ps (j:Int)).f1≤40000:=this.2.1;unfold rd_T63 at h2;rw [List.getD_eq_getElem?_getD,Int.toNat_natCast,List.getElem?_eq_getElem hj] at h2;exact hbad h2
 ·rw [if_neg (fun r=>qi r.2)];by_cases qs:∀ p∈ps,finS p
  ·rw [if_pos ⟨hl,qs⟩];obtain ⟨p,hpm,hnp⟩:∃ p,p∈ps∧¬ finI p:=Classical.byContradiction fun h=>qi (fun p hm=>Classical.byContradiction fun hn=>h ⟨p,hm,hn⟩)
   have:sharesR t (ps.map spanR)=[]:=by
    unfold sharesR;rw [if_neg (fun r=>?_)];have h3:=r.2.2.1 (spanR p) (List.mem_map.2 ⟨p,hpm,rfl⟩);apply hnp;obtain ⟨⟨s0,s1⟩,⟨s2,s3⟩,s4⟩:=qs p hpm;unfold spanR wrap64 at h3;unfold finI wrap64;omega
   rw [this,sprF_nil]
  ·rw [if_neg (fun r=>qs r.2)]
end Go.Proofs.YtnknanppoenigaaGreatDoor.Q
namespace Go.Proofs.YtnknanppoenigaaGreatDoor.Q
open Go.RowKit Go.Proofs.YtnknanppoenigaaGreatDoorW.PrintWords Go.Proofs.YtnknanppoenigaaGreatDoorW.PrintLast Go.Proofs.YtnknanppoenigaaGreatDoorW.PrintMore
attribute [local go_sem] max2_int min2_int max_two min_two max_three min_three max_four min_four
set_option linter.unusedVariables false
set_option linter.unusedSimpArgs false
def booksP (chart:List Acc) (dims curs:Int) (es:List Ent) (h:Int) (ps:List Per) (closed kept:Int):Prop:=ledgerP chart dims curs es h∧yearP ps∧(0≤closed∧closed≤(ps.length:Int))∧leafP chart kept∧knd chart kept=3
open Classical in
noncomputable def booksB (chart:List Acc) (dims curs:Int) (es:List Ent) (h:Int) (ps:List Per) (closed kept:Int):Bool:=decide (booksP chart dims curs es h ps closed kept)
open Classical in
theorem booksB_true {chart:List Acc} {dims curs:Int} {es:List Ent} {h:Int} {ps:List Per} {closed kept:Int}:booksB chart dims curs es h ps closed kept=true ↔ booksP chart dims curs es h ps closed kept:=by unfold booksB;rw [decide_eq_true_eq]
theorem booksB_not {chart:List Acc} {dims curs:Int} {es:List Ent} {h:Int} {ps:List Per} {closed kept:Int} (k:¬ booksP chart dims curs es h ps closed kept):false=booksB chart dims curs es h ps closed kept:=by
 cases hb:booksB chart dims curs es h ps closed kept with
 | false=>rfl
 | true=>exact absurd (booksB_true.1 hb) k
set_option maxHeartbeats 16000000 in
set_option maxRecDepth 100000 in
theorem spec_BooksOk.to (A0:Option Addr) (c0:Nat) (l0:List Acc) (dims curs:Int) (A1:Option Addr) (c1:Nat) (l1:List Ent) (h:Int) (A2:Option Addr) (c2:Nat) (l2:List Per) (closed kept:Int) (w:World) (hr0:Kd.C k48 w A0 l0.length l0) (hs:∀ x∈l0,x.f0.size≤maxLen) (hr1:Kd.C k41 w A1 l1.length l1) (hc1:l1.length≤c1) (hm:∀ e∈l1,e.f2.size≤maxLen) (hr2:Kd.C k63 w A2 l2.length l2) :
 Calls Tryz.prog 7 #[.agg #[.slice A0 l0.length c0,.int .i64 dims,.int .i64 curs,.slice A1 l1.length c1,.int .i64 h,.slice A2 l2.length c2,.int .i64 closed,.int .i64 kept]] w fun x w'=>x = .returned (.bool (booksB l0 dims curs l1 h l2 closed kept))∧Below w.heap.size w w':=by
 have hl0:=hr0.2.1;have hl2:=hr2.2.1;have H0:=Aside0.mk hr0;have H1:=Aside0.mk hr1;have H2:=Aside0.mk hr2;have HS:=Aside0.mk hs;have HM:=Aside0.mk hm;have HCAP:=Aside0.mk hc1;have HB0:=Aside0.mk (below_alloc (Below.refl w.heap.size w) (.cells #[.slice A0 l0.length c0,.int .i64 dims,.int .i64 curs,.slice A1 l1.length c1,.int .i64 h,.slice A2 l2.length c2,.int .i64 closed,.int .i64 kept] 32));clear hr0 hr1 hr2 hs hm hc1
 go_enter Tryz.func7,Tryz.ntmps7
 go_wp2_with fail
 refine (spec_LedgerOk.to A0 c0 l0 dims curs A1 c1 l1 h _ (Kd.C_below H0.out HB0.out) HS.out (Kd.C_below H1.out HB0.out) HCAP.out HM.out).mono ?_;rintro x w1 ⟨rfl,hb⟩;have HB:=Aside0.mk (below_into (w:=w) hb HB0.out);have f0:w1.cell? ⟨w.heap.size,0,none⟩=some (.slice A0 l0.length c0):=y01 hb (by go_simp);have f5:w1.cell? ⟨w.heap.size,5,none⟩=some (.slice A2 l2.length c2):=y01 hb (by go_simp);have f6:w1.cell? ⟨w.heap.size,6,none⟩=some (.int .i64 closed):=y01 hb (by go_simp);have f7:w1.cell? ⟨w.heap.size,7,none⟩=some (.int .i64 kept):=y01 hb (by go_simp);clear hb;cases q1:ledgerB l0 dims curs l1 h with
 | false =>
  have HN:=Aside0.mk (booksB_not (fun q=>by have:=ledgerB_true.2 q.1;rw [q1] at this;cases this):false=booksB l0 dims curs l1 h l2 closed kept);clear q1
  go_wp2_with fail
  go_ret
  exact ⟨ret_bool HN.out,HB.out⟩
 | true =>
  have HL:=Aside0.mk (ledgerB_true.1 q1);have HCH:=Aside0.mk ((frame_parts (ledgerB_true.1 q1).1).1);clear q1
  go_wp2_with fail
  refine (spec_l6Year.to A2 c2 l2 _ (Kd.C_below H2.out HB.out)).mono ?_;rintro x w2 ⟨rfl,hb⟩;have HB2:=Aside0.mk (below_into (w:=w) hb HB.out);have g0:=y01 hb f0;have g5:=y01 hb f5;have g6:=y01 hb f6;have g7:=y01 hb f7;clear hb f0 f5 f6 f7 HB;cases q2:yearB l2 with
  | false =>
   have HN:=Aside0.mk (booksB_not (fun q=>by have:=yearB_true.2 q.2.1;rw [q2] at this;cases this):false=booksB l0 dims curs l1 h l2 closed kept);clear q2
   go_wp2_with fail
   go_ret
   exact ⟨ret_bool HN.out,HB2.out⟩
  | true =>
   have HY:=Aside0.mk (yearB_true.1 q2);clear q2
   go_wp2_with fail
   refine (spec_l1In.to _ _ _ _).mono ?_;rintro x w' ⟨rfl,rfl⟩;cases q3:inB closed 0 (l2.length:Int) with
   | false =>
    have HN:=Aside0.mk (booksB_not (fun q=>inB_false.1 q3 q.2.2.1):false=booksB l0 dims curs l1 h l2 closed kept);clear q3
    go_wp2_with fail
    go_ret
    exact ⟨ret_bool HN.out,HB2.out⟩
   | true =>
    have HCL:=Aside0.mk (inB_true.1 q3);clear q3
    go_wp2_with fail
    refine (spec_Leaf.to A0 c0 l0 kept _ (Kd.C_below H0.out HB2.out) HS.out).mono ?_;rintro x w3 ⟨rfl,hb⟩;have HB3:=Aside0.mk (below_into (w:=w) hb HB2.out);have f0:=y01 hb g0;have f7:=y01 hb g7;clear hb g0 g5 g6 g7 HB2;rw [HCH.out,Bool.true_and];cases q4:leafB l0 kept with
    | false =>
     have HN:=Aside0.mk (booksB_not (fun q=>by have:=leafB_of q.2.2.2.1;rw [q4] at this;cases this):false=booksB l0 dims curs l1 h l2 closed kept);clear q4
     go_wp2_with fail
     go_ret
     exact ⟨ret_bool HN.out,HB3.out⟩
    | true =>
     have hlf:=leafB_true.1 q4;have HLF:=Aside0.mk hlf;obtain ⟨k0,k1,_⟩:=hlf;clear q4;obtain ⟨ad,e0,x0,x1,x2⟩:=at_T48 (Kd.C_below H0.out HB3.out) kept k0 k1;cases e0;by_cases q5:(rd_T48 l0 kept).f2=3
     ·have q5b:((rd_T48 l0 kept).f2 == 3)=true:=beq_iff_eq.2 q5;have HBK:=Aside0.mk (booksB_true.2 (show booksP l0 dims curs l1 h l2 closed kept from ⟨HL.out,HY.out,HCL.out,HLF.out,q5⟩));clear q5
      go_wp2_with fail
      go_ret
      exact ⟨ret_bool HBK.out.symm,HB3.out⟩
     ·have q5b:((rd_T48 l0 kept).f2 == 3)=false:=beq_eq_false_iff_ne.2 q5;have HN:=Aside0.mk (booksB_not (fun q=>q5 q.2.2.2.2):false=booksB l0 dims curs l1 h l2 closed kept);clear q5
      go_wp2_with fail
      go_ret
      exact ⟨ret_bool HN.out,HB3.out⟩
open Classical in
noncomputable def spec_BooksOk.f (l0:List Acc) (dims curs:Int) (l1:List Ent) (h:Int) (l2:List Per) (closed kept:Int):Option Bool:=if (∀ x∈l0,x.f0.size≤maxLen)∧(∀ e∈l1,e.f2.size≤maxLen) then some (booksB l0 dims curs l1 h l2 closed kept) else none
theorem spec_BooksOk.calls (A0:Option Addr) (c0:Nat) (l0:List Acc) (dims curs:Int) (A1:Option Addr) (c1:Nat) (l1:List Ent) (h:Int) (A2:Option Addr) (c2:Nat) (l2:List Per) (closed kept:Int) (r:Bool) (w:World) (hr0:Kd.C k48 w A0 l0.length l0) (hc0:l0.length≤c0) (hr1:Kd.C k41 w A1 l1.length l1) (hc1:l1.length≤c1) (hr2:Kd.C k63 w A2 l2.length l2) (hc2:l2.length≤c2) (hf:spec_BooksOk.f l0 dims curs l1 h l2 closed kept=some r) :
 Calls Tryz.prog 7 #[.agg #[.slice A0 l0.length c0,.int .i64 dims,.int .i64 curs,.slice A1 l1.length c1,.int .i64 h,.slice A2 l2.length c2,.int .i64 closed,.int .i64 kept]] w fun x w'=>x = .returned (.bool r)∧Below w.heap.size w w':=by
 unfold spec_BooksOk.f at hf
 split at hf
 ·rename_i q
  cases hf;exact spec_BooksOk.to A0 c0 l0 dims curs A1 c1 l1 h A2 c2 l2 closed kept w hr0 q.1 hr1 hc1 q.2 hr2
 ·cases hf
end Go.Proofs.YtnknanppoenigaaGreatDoor.Q
namespace Go.Proofs.YtnknanppoenigaaGreatDoor.Q
open Go.RowKit Go.Proofs.YtnknanppoenigaaGreatDoorW.PrintWords Go.Proofs.YtnknanppoenigaaGreatDoorW.PrintLast Go.Proofs.YtnknanppoenigaaGreatDoorW.PrintMore
set_option linter.unusedVariables false
set_option linter.unusedSimpArgs false
def spec_l5DrawLedger.T4:Bool × List (List Nat × List Nat):=(true,[([],[]),([0],[0]),([],[]),([],[]),([2,3],[2,3]),([4],[4]),([1,5,4],[1,5]),([0,1,2,3,4,5,6],[]),([7,6,6,0,1,2,3,4,5,6],[6,7])])
def spec_l5DrawLedger.B4:List Nat:=[0,1,0,0,12,28,63,127,255]
theorem spec_l5DrawLedger.tab4:rtab .any (opsOf Tryz.f51 4)=spec_l5DrawLedger.T4:=by kernel_rfl
theorem spec_l5DrawLedger.bits4:waitsOk spec_l5DrawLedger.T4.2 spec_l5DrawLedger.B4=true:=by kernel_rfl
theorem blk2 {W:World} {g t:Nat} {z0 z1:Value} (h:W.heap[g]?=some (.cells #[z0,z1] t (0,0))) (u0 u1:Value):((W.setCell ⟨g,0,none⟩ u0).setCell ⟨g,1,none⟩ u1).heap[g]?=some (.cells #[u0,u1] t (0,0)):=by
 refine blk_put (cs:=#[u0,z1]) ?_ 1 _ rfl;refine blk_put (cs:=#[z0,z1]) ?_ 0 _ rfl;exact h
theorem Cur.own_neS {w0 W:World} {g:Nat} {c:List Int} {α:Type} {d:Kd α} {e:Nat} {base:Nat} {ok:Nat→Prop} {v:Value} {xs:List α} (h:Cur w0 W g c) (ho:d.S e W base ok v xs) (ht:e≠93):some g≠v.ownBlock:=by obtain ⟨i,j,h,k⟩:=h;exact h.own_neS ho ht
def goodEnts (es:List Ent) (n:Nat):Prop:=es.length≤n∧∀ e∈es,e.f2.size≤50∧e.f3.length≤9
theorem goodEnts_snoc {es:List Ent} {n:Nat} {e:Ent} (h:goodEnts es n) (h2:e.f2.size≤50∧e.f3.length≤9):goodEnts (es++[e]) (n+1):=by
 refine ⟨by have:=h.1;simp;omega,fun x hx=>?_⟩;rcases List.mem_append.1 hx with hx | hx
 ·exact h.2 x hx
 ·obtain rfl:=List.mem_singleton.1 hx;exact h2
set_option maxHeartbeats 4000000 in
set_option maxRecDepth 100000 in
theorem spec_l5DrawLedger.e (w0 w:World) (g:Nat) (c:List Int) (A:Option Addr) (cc:Nat) (l:List Acc) (d u n:Int) (hI:Cur w0 w g c) (hB:Below w0.heap.size w0 w) (hc:c.length≤1048576) (hr1:∀ W,KeepBut w W g none→Kd.C k48 W A l.length l) (hs:∀ x∈l,x.f0.size≤maxLen) (hl0:0 < l.length) (hl1:l.length≤1000) (hd:d≤100) (hu:u≤100) (hn:n≤1000) :
 Calls Tryz.prog 51 #[.pointer (some ⟨g,0,none⟩),.agg #[.slice A l.length cc,.int .i64 d,.int .i64 u],.int .i64 n] w fun e w'=>∃ (v:Value) (es:List Ent) (h:Int),e = .returned (.agg #[v,.int .i64 h])∧Kd.S k41 41 w' w.heap.size (fun _=>True) v es∧goodEnts es n.toNat∧Drew w0 w w' g c:=by
 have HL:=hB.size;have H1:=Aside0.mk hr1;have HS:=Aside0.mk hs;have D:=Aside0.mk (Drew.refl hI hB);clear hI hB hr1 hs
 go_enter Tryz.func51,Tryz.ntmps51
 have BF:=Aside0.mk (blk_alloc (blk_new w (Obj.cells #[.slice A l.length cc,.int .i64 d,.int .i64 u] 26)) (Obj.cells #[.slice none 0 0,.int .i64 0] 29));have BR:=Aside0.mk (show ((w.alloc (Obj.cells #[.slice A l.length cc,.int .i64 d,.int .i64 u] 26)).alloc (Obj.cells #[.slice none 0 0,.int .i64 0] 29)).heap[w.heap.size+1]?=some (Obj.cells #[.slice none 0 0,.int .i64 0] 29) from by have:=blk_new (w.alloc (Obj.cells #[.slice A l.length cc,.int .i64 d,.int .i64 u] 26)) (Obj.cells #[.slice none 0 0,.int .i64 0] 29);simpa using this);have NF:w.heap.size≠g:=Nat.ne_of_gt D.out.cur.lt;have NR:w.heap.size+1≠g:=by have:=D.out.cur.lt;omega
 have ne_BF_BR:w.heap.size≠w.heap.size+1:=by omega
 have ge_BF:w.heap.size≤w.heap.size:=Nat.le_refl _;have ge_BR:w.heap.size≤w.heap.size+1:=Nat.le_succ _;replace D:=Aside0.mk ((D.out.alloc (Obj.cells #[.slice A l.length cc,.int .i64 d,.int .i64 u] 26)).alloc (Obj.cells #[.slice none 0 0,.int .i64 0] 29));have zz:w.heap.size+1 < ((w.alloc (Obj.cells #[.slice A l.length cc,.int .i64 d,.int .i64 u] 26)).alloc (Obj.cells #[.slice none 0 0,.int .i64 0] 29)).heap.size:=by simp
 have SZ:=Aside0.mk (show ((w.alloc (Obj.cells #[.slice A l.length cc,.int .i64 d,.int .i64 u] 26)).alloc (Obj.cells #[.slice none 0 0,.int .i64 0] 29)).heap.size=w.heap.size+1+1 by simp)
 go_wp2_with fail
 generalize (w.alloc (Obj.cells #[.slice A l.length cc,.int .i64 d,.int .i64 u] 26)).alloc (Obj.cells #[.slice none 0 0,.int .i64 0] 29)=w1 at *;have hb:=below_alloc (Below.refl w1.heap.size w1) (Obj.cells #[.slice none 0 0,.int .i64 1] 29);have BL:=Aside0.mk (show (w1.alloc (Obj.cells #[.slice none 0 0,.int .i64 1] 29)).heap[w.heap.size+1+1]?=some (Obj.cells #[.slice none 0 0,.int .i64 1] 29) from by have:=blk_new w1 (Obj.cells #[.slice none 0 0,.int .i64 1] 29);rw [SZ.out] at this;exact this);have NL:w.heap.size+1+1≠g:=by have:=D.out.cur.lt;have:=SZ.out;omega
 have ge_BL:w.heap.size≤w.heap.size+1+1:=by omega
 have ne_BF_BL:w.heap.size≠w.heap.size+1+1:=by omega
 have ne_BR_BL:w.heap.size+1≠w.heap.size+1+1:=by omega
 replace BF:=Aside0.mk (y03 BF.out hb);replace BR:=Aside0.mk (y03 BR.out hb);replace D:=Aside0.mk (D.out.below hb);clear hb;generalize w1.alloc (Obj.cells #[.slice none 0 0,.int .i64 1] 29)=w2 at *;have RO:=Aside0.mk (Kd.S_nil k41 41 w2 w.heap.size (fun _=>True))
 go_loopg [2] n.toNat (fun kq v2 W=>∃ (m:Int) (v:Value) (es:List Ent),v2 = .int .i64 m∧(kq=m.toNat∧m≤n)∧Aside0 (goodEnts es (n.toNat - m.toNat))∧Aside0 (W.heap[w.heap.size]?=some (.cells #[.slice A l.length cc,.int .i64 d,.int .i64 u] 26 (0,0)))∧Aside0 (W.heap[w.heap.size+1]?=some (.cells #[.slice none 0 0,.int .i64 0] 29 (0,0)))∧Aside0 (W.heap[w.heap.size+1+1]?=some (.cells #[v,.int .i64 1] 29 (0,0)))∧Aside0 (Kd.S k41 41 W w.heap.size (fun _=>True) v es)∧Aside0 (Drew w0 w W g c))
 case atStart=>exact ⟨n,_,[],rfl,⟨rfl,by omega⟩,⟨by simp,fun x hx=>by simp at hx⟩,BF,BR,BL,RO,D⟩
 case round =>
  clear BF BR BL RO D;obtain ⟨m,v,es,rfl,⟨hm,hmn⟩,HG,BF,BR,BL,RO,D⟩:=hrel;obtain ⟨A5,c5,rfl⟩:=Kd.S_slice RO.out;by_cases hm1:m > 0
  case neg =>
   have y0:=(y00 BL.out 0).trans rfl;have yz0:=y02 BL.out 0;have y1:=(y00 BL.out 1).trans rfl;have yz1:=y02 BL.out 1;have z0:=(y00 BR.out 0).trans rfl;have zz0:=y02 BR.out 0;have z1:=(y00 BR.out 1).trans rfl;have zz1:=y02 BR.out 1
   go_wp2_with fail
   refine (spec_HeadOf.to A5 c5 es _ (Kd.S_reads' RO.out).2.2 (Kd.S_reads' RO.out).2.1).mono ?_;rintro x w3 ⟨rfl,hb⟩;clear y0 y1 yz0 yz1 z0 z1 zz0 zz1;replace BF:=Aside0.mk (y03 BF.out hb);replace BR:=Aside0.mk (y03 BR.out hb);replace BL:=Aside0.mk (y03 BL.out hb);replace RO:=Aside0.mk (Kd.S_below RO.out hb);replace D:=Aside0.mk (D.out.below hb);clear hb;have y0:=(y00 BL.out 0).trans rfl;have yz0:=y02 BL.out 0;have y1:=(y00 BL.out 1).trans rfl;have yz1:=y02 BL.out 1;have z0:=(y00 BR.out 0).trans rfl;have zz0:=y02 BR.out 0;have z1:=(y00 BR.out 1).trans rfl;have zz1:=y02 BR.out 1
   go_wp2_with fail
   have BR2:=blk2 (blk_far BR.out (p:=⟨w.heap.size+1+1,1,none⟩) ne_BR_BL (.int .i64 (headV es))) (.slice A5 es.length c5) (.int .i64 (headV es));have BL2:=blk_set BL.out 1 (.int .i64 (headV es));refine bodyPost_ret (results_c1 rfl _ _ (w.heap.size+1) 29 #[.slice A5 es.length c5,.int .i64 (headV es)] (0,0) _ rfl BR2 Tryz.underlying29 rfl (by kernel_rfl)) rfl ?_;have hm0:m.toNat=0:=by omega
   have HS1:=Kd.S_set RO.out BL.out (by decide) 1 (.int .i64 (headV es));have HS2:=Kd.S_set HS1 (blk_far BR.out (p:=⟨w.heap.size+1+1,1,none⟩) ne_BR_BL (.int .i64 (headV es))) (by decide) 0 (.slice A5 es.length c5);have HS3:=Kd.S_set HS2 (blk_set (blk_far BR.out (p:=⟨w.heap.size+1+1,1,none⟩) ne_BR_BL (.int .i64 (headV es))) 0 (.slice A5 es.length c5)) (by decide) 1 (.int .i64 (headV es));exact ⟨_,es,_,rfl,HS3,(by have:=HG.out;rw [hm0] at this;exact this),((D.out.set HL (p:=⟨w.heap.size+1+1,1,none⟩) ge_BL NL _).set HL (p:=⟨w.heap.size+1,0,none⟩) ge_BR NR _).set HL (p:=⟨w.heap.size+1,1,none⟩) ge_BR NR _⟩
  obtain ⟨q,rfl⟩:∃ q,gk=q+1:=⟨gk - 1,by omega⟩;have hlen:=HG.out.1
  try go_wp2_with fail
  replace RO:=Aside0.mk (Kd.S_drew RO.out);replace BF:=Aside0.mk (blk_drew BF.out);replace BR:=Aside0.mk (blk_drew BR.out);replace BL:=Aside0.mk (blk_drew BL.out);replace D:=Aside0.mk D.out.drew;refine start_ (n:=9) (S:=fun w'=>w'.cell? ⟨w.heap.size+1+1,0,none⟩=some (.slice A5 es.length c5)∧w'.cell? ⟨w.heap.size+1+1,1,none⟩=some (.int .i64 1)∧w'.cell? ⟨w.heap.size,0,none⟩=some (.slice A l.length cc)∧w'.cell? ⟨w.heap.size,1,none⟩=some (.int .i64 d)∧w'.cell? ⟨w.heap.size,2,none⟩=some (.int .i64 u)) (ds:=[8]) #[false,false,false,false,false,false,false,false,false] (by kernel_rfl) rfl rfl ⟨(y00 (BL.out) 0).trans rfl,(y00 (BL.out) 1).trans rfl,(y00 (BF.out) 0).trans rfl,(y00 (BF.out) 1).trans rfl,(y00 (BF.out) 2).trans rfl⟩ (fun hHeld=>?_);refine with_tabW spec_l5DrawLedger.tab4 spec_l5DrawLedger.bits4 (fun HT_ HW_=>?_);generalize wr.drew=w14 at *;refine pa_ 0 13 HT_ ?_;refine pa_ 2 15 HT_ ?_;refine take_ (i:=1) (N:=some 14) (v:=?_) (a':=?_) #[true,true,true,false,false,false,false,false,false] rfl rfl (take_ofW HT_.out HW_.out (by kernel_rfl)) (fun _ _ _ h=>h) (Or.inl ⟨by rfl,?_⟩) hHeld ?_ ?_;rotate_left
  ·rintro w' ⟨s0,s1,s2,s3,s4⟩
   go_simp;with_reducible rfl
  rotate_left
  ·simp only [Act.put,List.setIfInBounds_toArray,List.set_cons_zero,List.set_cons_succ,i64_w,i32_w];rfl
  refine take_ (i:=3) (N:=some 16) (v:=?_) (a':=?_) #[true,true,true,true,false,false,false,false,false] rfl rfl (take_ofW HT_.out HW_.out (by kernel_rfl)) (fun _ _ _ h=>h) (Or.inl ⟨by rfl,?_⟩) hHeld ?_ ?_;rotate_left
  ·rintro w' ⟨s0,s1,s2,s3,s4⟩
   go_simp;with_reducible rfl
  rotate_left
  ·simp only [Act.put,List.setIfInBounds_toArray,List.set_cons_zero,List.set_cons_succ,i64_w,i32_w];rfl
  refine one_ (i:=4) (N:=some 17) #[true,true,true,true,true,false,false,false,false] rfl rfl (one_of HT_.out (by kernel_rfl)) (by decide) (fun K hK=>?_);refine goes_ Tryz.func71 (by kernel_rfl) rfl #[.pointer (some ⟨g,0,none⟩),.agg #[.slice A l.length cc,.int .i64 d,.int .i64 u]] (by rfl) rfl rfl (by (try simp only [List.map_toArray,List.map_cons,List.map_nil]);rfl) ?_;refine (spec_l5DrawEntry.e w0 _ g c A cc l d u D.out.cur D.out.bel hc (fun W' hk=>H1.out _ (KeepBut.thenK D.out.keep hk)) HS.out hl0 hl1 hd hu).mono ?_;rintro x w15 ⟨v,a,b,t,r,rfl,hR,hg,hD⟩;refine ⟨_,rfl,?_⟩;have RE:=Aside0.mk (Kd.R_lower hR D.out.size);replace RO:=Aside0.mk (Kd.S_mono (Kd.S_told (Kd.S_oldK (D.out.cur.apartS RO.out (by decide)) hD.keep) (Kd.R_base hR)) (ok':=fun k=>True∧some k≠v.ownBlock) (fun _ h_=>h_.1));replace BF:=Aside0.mk (hD.blk BF.out NF);replace BR:=Aside0.mk (hD.blk BR.out NR);replace BL:=Aside0.mk (hD.blk BL.out NL);replace D:=Aside0.mk (D.out.call hD);have hlr:=hg.1;have HGE:=Aside0.mk hg;clear hD hR hg;obtain ⟨Ar,cr,er⟩:=Kd.R_slice RE.out;subst er;refine hK.out _ _ ⟨(y00 (BL.out) 0).trans rfl,(y00 (BL.out) 1).trans rfl,(y00 (BF.out) 0).trans rfl,(y00 (BF.out) 1).trans rfl,(y00 (BF.out) 2).trans rfl⟩ (fun hHeld=>?_);clear hK K;refine norm_ (a':=?_) ?_ ?_;rotate_left
  ·show Act.put _ (some 17) _=_;simp only [Act.put,List.setIfInBounds_toArray,List.set_cons_zero,List.set_cons_succ,i64_w,i32_w];rfl
  refine one_ (i:=5) (N:=some 18) #[true,true,true,true,true,true,false,false,false] rfl rfl (one_of HT_.out (by kernel_rfl)) (by decide) (fun K hK=>?_);refine value_ (w1:=?_) (v:=?_) (by rfl) rfl ?_ ?_;rotate_left 2
  ·go_simp
   constructor
   ·rfl
   ·rfl
  refine hK.out _ _ ⟨(y00 (blk_alloc BL.out _) 0).trans rfl,(y00 (blk_alloc BL.out _) 1).trans rfl,(y00 (blk_alloc BF.out _) 0).trans rfl,(y00 (blk_alloc BF.out _) 1).trans rfl,(y00 (blk_alloc BF.out _) 2).trans rfl⟩ (fun hHeld=>?_);clear hK K;refine norm_ (a':=?_) ?_ ?_;rotate_left
  ·show Act.put _ (some 18) _=_;simp only [Act.put,List.setIfInBounds_toArray,List.set_cons_zero,List.set_cons_succ,i64_w,i32_w];rfl
  refine one_ (i:=6) (N:=some 19) #[true,true,true,true,true,true,true,false,false] rfl rfl (one_of HT_.out (by kernel_rfl)) (by decide) (fun K hK=>?_);refine Kd.S_append_step k41 w.heap.size (by rfl) (.tmp 14) (.tmp 18) 27 41 (.agg #[(.int .i64 0),(.int .i64 0),(.string ⟨#[]⟩),(.slice none 0 0)]) 56 rfl Tryz.underlying27 info41 rfl (by decide) (by omega) (.slice A5 es.length c5) es (⟨a,b,t,r⟩:S41) [.int .i64 a,.int .i64 b,.string t,.slice Ar r.length cr] (fun _=>True) (fun k_=>some k_=(.slice Ar r.length cr:Value).ownBlock) rfl rfl ?aP (fun k_ hk_=>((Kd.R_mono (ok':=fun k_=>True∧some k_≠(.slice A5 es.length c5:Value).ownBlock) (Kd.R_apart' (RE.out) (Kd.S_typed RO.out) (by decide)) (fun k_ hk=>⟨trivial,hk.2⟩))).1 k_ hk_.symm) ?aF ?aO (Below.refl _ _) ?aS ?aL ?_
  (case aP=>exact k41_mkM _ _ _ (⟨a,b,t,r⟩:S41) (Kd.R_mono (Kd.R_tight rfl (Kd.R_mono (ok':=fun k_=>True∧some k_≠(.slice A5 es.length c5:Value).ownBlock) (Kd.R_apart' (RE.out) (Kd.S_typed RO.out) (by decide)) (fun k_ hk=>⟨trivial,hk.2⟩))) (fun _ h_=>h_)))
  (case aF=>exact (fun _ _=>trivial))
  (case aO=>exact Kd.S_mono RO.out (fun k_ hk=>⟨trivial,fun e_=>hk.2 e_⟩))
  (case aS=>exact D.out.size)
  (case aL=>omega)
  intro v1 w16 ho hb hg hat;have HGN:=Aside0.mk (goodEnts_snoc (e:=⟨a,b,t,r⟩) HG.out ⟨HGE.out.2,HGE.out.1⟩);generalize es++[(⟨a,b,t,r⟩:S41)]=es1 at ho HGN;have BF_:=Aside0.mk (blk_grown BF.out hg (Kd.S_ne RO.out BF.out (by decide)));have BR_:=Aside0.mk (blk_grown BR.out hg (Kd.S_ne RO.out BR.out (by decide)));have BL_:=Aside0.mk (blk_grown BL.out hg (Kd.S_ne RO.out BL.out (by decide)));have hng:=D.out.cur.own_neS RO.out (by decide);replace D:=Aside0.mk (D.out.grown HL hg (fun k hk=>⟨Kd.S_base RO.out k hk,fun e=>hng (by rw [← e];exact hk.symm)⟩));clear BF BR BL RO RE;have BF:=BF_;have BR:=BR_;have BL:=BL_;clear BF_ BR_ BL_ hng;have RO:=Aside0.mk ho;clear ho hb hg hat;obtain ⟨A6,c6,e6⟩:=Kd.S_slice RO.out;subst e6;refine hK.out _ _ ⟨(y00 (BL.out) 0).trans rfl,(y00 (BL.out) 1).trans rfl,(y00 (BF.out) 0).trans rfl,(y00 (BF.out) 1).trans rfl,(y00 (BF.out) 2).trans rfl⟩ (fun hHeld=>?_);clear hK K;refine norm_ (a':=?_) ?_ ?_;rotate_left
  ·show Act.put _ (some 19) _=_;simp only [Act.put,List.setIfInBounds_toArray,List.set_cons_zero,List.set_cons_succ,i64_w,i32_w];rfl
  refine pa_ 7 20 HT_ ?_;refine last_ (i:=8) (N:=none) #[true,true,true,true,true,true,true,true,true] rfl rfl (one_of HT_.out (by kernel_rfl)) (by decide) (fun K hK=>?_);have y0:=(y00 BL.out 0).trans rfl;have yz0:=y02 BL.out 0;refine skip_ (w1:=?_) (by rfl) rfl ?_ ?_;rotate_left
  ·go_simp;rfl
  refine hK.out _ _ ?_;clear hK K;refine done_ (done_of HT_.out (by kernel_rfl)) ?_
  try go_wp2
  go_roundg q
  case measure=>omega
  case rel=>exact ⟨m - 1,_,es1,by go_num,⟨by omega,by omega⟩,⟨by have:=HGN.out;rw [show n.toNat - (m - 1).toNat=n.toNat - m.toNat+1 by omega];exact this⟩,⟨blk_far BF.out ne_BF_BL _⟩,⟨blk_far BR.out ne_BR_BL _⟩,⟨blk_set BL.out 0 _⟩,⟨Kd.S_set RO.out BL.out (by decide) 0 _⟩,⟨D.out.set HL ge_BL NL _⟩⟩
def InL (x:Int):Prop:=-549755813888≤x∧x≤549755813887
theorem linkAll_good (xs:List Int) (h:∀ x∈xs,InL x):∀ s:Int × Bool,(linkAll s xs).2=s.2:=by
 induction xs with
 | nil=>intro s;rfl
 | cons x xs ih =>
  intro s;rw [linkAll_cons,ih (fun y hy=>h y (List.mem_cons_of_mem _ hy))];unfold linkStep;have hx:=h x List.mem_cons_self;unfold InL at hx;rw [if_pos hx]
theorem bytesN_in (s:ByteArray):∀ n,∀ x∈bytesN s n,InL x:=by
 intro n
 induction n with
 | zero=>intro x hx;simp [bytesN] at hx
 | succ n ih =>
  intro x hx;simp only [bytesN,List.mem_append,List.mem_singleton] at hx;rcases hx with hx | rfl
  ·exact ih x hx
  ·have:=bt_range s n;unfold InL;omega
theorem nums_in {chart:List Acc} {d c:Int} {e:Ent} (hc:chart.length≤1000) (hd:d≤20) (hcu:c≤20) (h:entryP chart d c e):∀ x∈numsOf e,InL x:=by
 obtain ⟨h0,h1,h2,h3,_,h5,_⟩:=h;intro x hx;unfold numsOf at hx;simp only [List.mem_append,List.mem_cons,List.not_mem_nil,or_false,List.mem_flatMap] at hx;rcases hx with (((rfl | rfl | rfl) | hx) | rfl) | ⟨y,hy,hx⟩
 ·unfold InL;omega
 ·unfold InL;omega
 ·unfold InL;omega
 ·exact bytesN_in _ _ x hx
 ·unfold InL;omega
 ·obtain ⟨g0,g1,g2,g3,g4,_⟩:=h5 y hy;unfold leafP at g0;unfold lineNums at hx;simp only [List.mem_cons,List.not_mem_nil,or_false] at hx;unfold InL;rcases hx with rfl | rfl | rfl | rfl | rfl <;> omega
theorem frame_len {chart:List Acc} {d c:Int} (h:frameB chart d c=true):chart.length≤120∧(1≤d∧d≤20)∧(1≤c∧c≤20):=by
 obtain ⟨h0,h1,h2⟩:=frame_parts h;have:=(chartOk_iff.1 h0).2.1;exact ⟨this,h1,h2⟩
theorem entries_in {chart:List Acc} {d c:Int} {l:List Ent} (hc:chart.length≤1000) (hd:d≤20) (hcu:c≤20) (h:∀ e∈l,entryP chart d c e):∀ x∈l.flatMap numsOf,InL x:=by
 intro x hx;obtain ⟨e,he,hx⟩:=List.mem_flatMap.1 hx;exact nums_in hc hd hcu (h e he) x hx
theorem entry_short {chart:List Acc} {d c:Int} {e:Ent} (h:entryP chart d c e):¬ tooLong e:=by
 obtain ⟨h0,h1,h2,h3,_⟩:=h;unfold tooLong;omega
theorem head_all {chart:List Acc} {d c:Int} {l:List Ent} (hf:frameB chart d c=true) (hl:l.length≤1000) (h:∀ e∈l,entryP chart d c e):linkAll (1,false) (l.flatMap numsOf)=(headV l,false):=by
 obtain ⟨f0,f1,f2⟩:=frame_len hf;have hg:=linkAll_good _ (entries_in (by omega) f1.2 f2.2 h) (1,false);rw [headV_good (fun q=>by rcases q with q | ⟨e,he,q⟩;(· omega);(· exact entry_short (h e he) q)) hg];exact Prod.ext rfl hg
theorem head_post {chart:List Acc} {d c:Int} {l:List Ent} {e:Ent} {h:Int} (hq:ledgerP chart d c l h) (hn:l.length≤999) (he:entryP chart d c e):linkAll (h,false) (numsOf e)=(headV (l++[e]),false):=by
 obtain ⟨hf,hl,ha,rfl⟩:=hq
 have h2:=head_all hf (l:=l++[e]) (by rw [List.length_append];simp;omega) (fun x hx=>by
  rcases List.mem_append.1 hx with hx | hx
  ·exact ha x hx
  ·rw [List.mem_singleton.1 hx];exact he)
 rw [← h2,List.flatMap_append,linkAll_append,head_all hf hl ha];simp
theorem head_in {chart:List Acc} {d c:Int} {l:List Ent} {h:Int} (hq:ledgerP chart d c l h):HeadIn (h,false):=by
 obtain ⟨hf,hl,ha,rfl⟩:=hq;rw [← head_all hf hl ha];exact linkAll_in headIn_one _
open Classical in
noncomputable def postR (m0:List Acc) (d c:Int) (m1:List Ent) (h:Int) (e:Ent):List Ent × Int × Int :=
 if ledgerB m0 d c m1 h=true then (if entryB m0 d c e=true then (if m1.length=1000 then (m1,h,3) else (m1++[e],headV (m1++[e]),0)) else (m1,h,2)) else ([],0,1)
theorem sumS_set:∀ (xs:List Int) (n:Nat) (v:Int),n < xs.length→sumS (xs.set n v)=sumS xs - xs.getD n 0+v
 | [],n,v,h=>by simp at h
 | x :: l,0,v,_=>by simp [sumS];omega
 | x :: l,n+1,v,h=>by
  have:=sumS_set l n v (by simpa using h);simp only [List.set_cons_succ,sumS,this,List.getD_cons_succ];omega
theorem giveC_pos:∀ (cs:List Cut) (out:List Int) (B:Int),(∀ c∈cs,0≤c.f0∧c.f0 < (out.length:Int))→(∀ x∈out,0≤x∧x≤B)→B+cs.length≤4000000000000000000 →
 sumS (giveC 1 out cs)=sumS out+cs.length∧∀ x∈giveC 1 out cs,0≤x∧x≤B+cs.length
 | [],out,B,_,h,_=>⟨by simp [giveC],fun x hx=>by have:=h x hx;simp;exact this⟩
 | c :: cs,out,B,hc,h,hb=>by
  have h0:=hc c List.mem_cons_self;have hm:=h _ (mem_rd h0.1 h0.2);have hl:((c :: cs).length:Int)=cs.length+1:=by simp
  have hw:wrap64 (rd out c.f0+1)=rd out c.f0+1:=by unfold wrap64;omega
  unfold giveC;rw [hw]
  have ih:=giveC_pos cs (out.set c.f0.toNat (rd out c.f0+1)) (B+1) (fun d hd=>by rw [List.length_set];exact hc d (List.mem_cons_of_mem _ hd)) (fun x hx=>by
   rcases List.mem_or_eq_of_mem_set hx with hx | rfl
   ·have:=h x hx;omega
   ·omega) (by omega)
  have hs:=sumS_set out c.f0.toNat (rd out c.f0+1) (by omega);rw [show out.getD c.f0.toNat 0=rd out c.f0 from rfl] at hs;refine ⟨by rw [ih.1,hs];omega,fun x hx=>?_⟩;have:=ih.2 x hx;omega
theorem shares_right {t:Int} {ws:List Int} (ht:0≤t) (h:(sharesR t ws).length≠0):sumS (sharesR t ws)=t∧(∀ x∈sharesR t ws,0≤x∧x≤1000000000000000200)∧(sharesR t ws).length=ws.length:=by
 have hne:=sharesR_len t ws;have hlen:(sharesR t ws).length=ws.length:=by omega
 refine ⟨?_,?_,hlen⟩ <;> revert h <;> unfold sharesR <;> split
 ·rename_i q
  intro _;have ha:0 < sumS ws:=by have:=(sumS_b q.2.2.1).1;have:=q.2.2.2;omega
  have hf:=left_few (t:=t) (fun x hx=>(q.2.2.1 x hx).1) ha;have hl:=hf.1 ht;have hp:=msortC_perm ws.length (cutsOf (rstS t (sumS ws) ws));have hpl:(msortC ws.length (cutsOf (rstS t (sumS ws) ws))).length=ws.length:=by rw [hp.length_eq,cutsOf_len];unfold rstS;rw [List.length_map]
  have h1:oneS (t - sumS (quoS t (sumS ws) ws))=1:=by unfold oneS;rw [if_neg (by omega)]
  have hg:=giveC_pos ((msortC ws.length (cutsOf (rstS t (sumS ws) ws))).take (t - sumS (quoS t (sumS ws) ws)).natAbs) (quoS t (sumS ws) ws) 1000000000000000000 (fun c hc=>by
   have:=cutsOf_in c (hp.mem_iff.1 (List.mem_of_mem_take hc));unfold rstS at this;rw [List.length_map] at this;unfold quoS;rw [List.length_map]
   exact this) (fun x hx=>by
   unfold quoS at hx;obtain ⟨y,hy,rfl⟩:=List.mem_map.1 hx;have hb:=mulB (t:=t) (x:=y) q.1 (q.2.2.1 y hy);have hd:=tdivB (a:=t * y) (b:=sumS ws);have hn:=Int.tdiv_nonneg (a:=t * y) (b:=sumS ws) (Int.mul_nonneg ht (q.2.2.1 y hy).1) (by omega)
   omega) (by have:=List.length_take_le (t - sumS (quoS t (sumS ws) ws)).natAbs (msortC ws.length (cutsOf (rstS t (sumS ws) ws)));have:=q.2.1;omega)
  rw [h1,hg.1,List.length_take,hpl,Nat.min_eq_left (by omega)];omega
 ·intro h;exact absurd rfl h
 ·rename_i q
  intro _;have ha:0 < sumS ws:=by have:=(sumS_b q.2.2.1).1;have:=q.2.2.2;omega
  have hf:=left_few (t:=t) (fun x hx=>(q.2.2.1 x hx).1) ha;have hl:=hf.1 ht;have hp:=msortC_perm ws.length (cutsOf (rstS t (sumS ws) ws));have hpl:(msortC ws.length (cutsOf (rstS t (sumS ws) ws))).length=ws.length:=by rw [hp.length_eq,cutsOf_len];unfold rstS;rw [List.length_map]
  have h1:oneS (t - sumS (quoS t (sumS ws) ws))=1:=by unfold oneS;rw [if_neg (by omega)]
  have hg:=giveC_pos ((msortC ws.length (cutsOf (rstS t (sumS ws) ws))).take (t - sumS (quoS t (sumS ws) ws)).natAbs) (quoS t (sumS ws) ws) 1000000000000000000 (fun c hc=>by
   have:=cutsOf_in c (hp.mem_iff.1 (List.mem_of_mem_take hc));unfold rstS at this;rw [List.length_map] at this;unfold quoS;rw [List.length_map]
   exact this) (fun x hx=>by
   unfold quoS at hx;obtain ⟨y,hy,rfl⟩:=List.mem_map.1 hx;have hb:=mulB (t:=t) (x:=y) q.1 (q.2.2.1 y hy);have hd:=tdivB (a:=t * y) (b:=sumS ws);have hn:=Int.tdiv_nonneg (a:=t * y) (b:=sumS ws) (Int.mul_nonneg ht (q.2.2.1 y hy).1) (by omega)
   omega) (by have:=List.length_take_le (t - sumS (quoS t (sumS ws) ws)).natAbs (msortC ws.length (cutsOf (rstS t (sumS ws) ws)));have:=q.2.1;omega)
  intro x hx;rw [h1] at hx;have:=hg.2 x hx;have h5:=List.length_take_le (t - sumS (quoS t (sumS ws) ws)).natAbs (msortC ws.length (cutsOf (rstS t (sumS ws) ws)));have:=q.2.1;omega
 ·intro h;exact absurd rfl h
end Go.Proofs.YtnknanppoenigaaGreatDoor.Q
