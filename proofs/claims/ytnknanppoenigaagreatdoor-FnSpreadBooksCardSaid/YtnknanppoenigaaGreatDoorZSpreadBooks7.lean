/- Parts of the proof: what functions of the program and of the reference answer.
   No condition. -/
import Derived.Test.YtnknanppoenigaaGreatDoorZSpreadBooks1
import Derived.Test.YtnknanppoenigaaGreatDoorZSpreadBooks2
import Derived.Test.YtnknanppoenigaaGreatDoorZSpreadBooks4
import Derived.Test.YtnknanppoenigaaGreatDoorZSpreadBooks5
import Derived.Test.YtnknanppoenigaaGreatDoorZSpreadBooks6
namespace Go.Proofs.YtnknanppoenigaaGreatDoor.Q
open Go.RowKit Go.Proofs.YtnknanppoenigaaGreatDoorW.PrintWords Go.Proofs.YtnknanppoenigaaGreatDoorW.PrintLast Go.Proofs.YtnknanppoenigaaGreatDoorW.PrintMore
set_option linter.unusedVariables false
set_option linter.unusedSimpArgs false
set_option maxHeartbeats 32000000 in
set_option maxRecDepth 100000 in
theorem impl_Balance.to (A:Option Addr) (cc:Nat) (es:List Ent) (h a d c fr tt:Int) (w:World) (hr:Kd.C k41 w A es.length es) (hn:es.length≤1000) (hf:∀ e∈es,entFine e) :
 Calls Tryz.prog 16 #[.agg #[.slice A es.length cc,.int .i64 h],.int .i64 a,.int .i64 d,.int .i64 c,.int .i64 fr,.int .i64 tt] w fun e w'=>e = .returned (.tuple #[.int .i64 (amtV a d c fr tt es),.int .i64 (basV a d c fr tt es)])∧Below w.heap.size w w':=by
 have HR:=Aside0.mk hr;have HF:=Aside0.mk hf;obtain ⟨PT,hPT⟩:∃ t,t=amtV a d c fr tt es:=⟨_,rfl⟩;obtain ⟨QT,hQT⟩:∃ t,t=basV a d c fr tt es:=⟨_,rfl⟩;rw [← hPT,← hQT];have HB:=Aside0.mk (below_alloc (Below.refl w.heap.size w) (.cells #[.slice A es.length cc,.int .i64 h] 29));have HPQ:=Aside0.mk (And.intro hPT hQT);have BPT:=amtV_b a d c fr tt es hf;have BQT:=basV_b a d c fr tt es hf;rw [← hPT] at BPT;rw [← hQT] at BQT;clear hr hf hPT hQT
 go_enter Tryz.func16,Tryz.ntmps16
 go_wp2_with fail
 go_loopw [27,14,15] (fun v vp vq wr=>∃ i p q:Int,0≤i∧i≤(es.length:Int)∧v = .int .i64 i∧vp = .int .i64 p∧vq = .int .i64 q∧Aside0 (Below w.heap.size w wr)∧Aside0 (p+amtV a d c fr tt (es.drop i.toNat)=PT∧q+basV a d c fr tt (es.drop i.toNat)=QT)∧Aside0 (wr.cell? ⟨w.heap.size,0,none⟩=some (.slice A es.length cc))) (fun v _ _ _=>(es.length - (intOf v).toNat))
 case atStart=>exact ⟨0,0,0,by omega,by omega,rfl,rfl,rfl,HB,⟨by rw [HPQ.out.1,HPQ.out.2];simp⟩,⟨by go_simp⟩⟩
 case round =>
  clear HB;obtain ⟨i,p,q,hi0,hi1,rfl,rfl,rfl,HB,HI,HF0⟩:=hrel;have f0:=HF0.out;have zz:=World.block_lt_of_cell? _ _ f0;by_cases hlt:i < (es.length:Int)
  case neg =>
   go_wp2_with fail
   go_ret2
   exact ⟨ret_ii (by have:=HI.out.1;rw [List.drop_of_length_le (by omega)] at this;simpa [amtV] using this) (by have:=HI.out.2;rw [List.drop_of_length_le (by omega)] at this;simpa [basV] using this),HB.out⟩
  obtain ⟨ad,A3,c3,e0,x0,x1,x2,x3,x4,x5⟩:=at_T41 HR.out i hi0 hlt;cases e0;replace x0:=y01 HB.out x0;replace x1:=y01 HB.out x1;replace x2:=y01 HB.out x2;replace x3:=y01 HB.out x3;have X5:=Aside0.mk x5;have hfe:entFine (rd_T41 es i):=all_at (z:=z41) (p:=entFine) hi0 hlt HF.out;have hl3:(rd_T41 es i).f3.length≤60:=hfe.1;have HLF:=Aside0.mk (show ∀ x∈(rd_T41 es i).f3,lineFine x from hfe.2);have HD:=Aside0.mk (drop_at (l:=es) (z:=z41) hi0 hlt);have HFD:=Aside0.mk (show ∀ e∈es.drop (i+1).toNat,entFine e from fun e he=>HF.out e (List.mem_of_mem_drop he));have hdl:(es.drop (i+1).toNat).length≤1000:=by rw [List.length_drop];omega
  have BP:=Aside0.mk (And.intro (amtV_b a d c fr tt (es.drop (i+1).toNat) HFD.out) (basV_b a d c fr tt (es.drop (i+1).toNat) HFD.out));have HE:=Aside0.mk (show amtV a d c fr tt (es.drop i.toNat)=(if inB (rd_T41 es i).f0 fr tt=true then amtL a d c (rd_T41 es i).f3 else 0)+amtV a d c fr tt (es.drop (i+1).toNat)∧basV a d c fr tt (es.drop i.toNat)=(if inB (rd_T41 es i).f0 fr tt=true then basL a d c (rd_T41 es i).f3 else 0)+basV a d c fr tt (es.drop (i+1).toNat) from by rw [HD.out];exact ⟨rfl,rfl⟩);clear x4 x5 hfe;generalize (rd_T41 es i).f0=day at *;generalize (rd_T41 es i).f3=ls at *;have hb:=below_alloc (Below.refl wr.heap.size wr) (.cells #[.int .i64 day,.int .i64 (rd_T41 es i).f1,.string (rd_T41 es i).f2,.slice A3 ls.length c3] 41);have HBX:=Aside0.mk (below_into (w:=w) hb HB.out);have y0:(wr.alloc (.cells #[.int .i64 day,.int .i64 (rd_T41 es i).f1,.string (rd_T41 es i).f2,.slice A3 ls.length c3] 41)).cell? ⟨wr.heap.size,0,none⟩=some (.int .i64 day):=by go_simp
  have y3:(wr.alloc (.cells #[.int .i64 day,.int .i64 (rd_T41 es i).f1,.string (rd_T41 es i).f2,.slice A3 ls.length c3] 41)).cell? ⟨wr.heap.size,3,none⟩=some (.slice A3 ls.length c3):=by go_simp
  have F0:=Aside0.mk (y01 hb f0);have Y0:=Aside0.mk y0;have Y3:=Aside0.mk y3;clear hb y0 y3
  go_wp2_with fail
  go_loopw [38,14,15] (fun v vp vq wq=>∃ j p q:Int,0≤j∧j≤(ls.length:Int)∧v = .int .i64 j∧vp = .int .i64 p∧vq = .int .i64 q∧Aside0 (Below w.heap.size w wq)∧Aside0 (p+(if inB day fr tt=true then amtL a d c (ls.drop j.toNat) else 0)+amtV a d c fr tt (es.drop (i+1).toNat)=PT∧q+(if inB day fr tt=true then basL a d c (ls.drop j.toNat) else 0)+basV a d c fr tt (es.drop (i+1).toNat)=QT)∧Aside0 (wq.cell? ⟨w.heap.size,0,none⟩=some (.slice (some ad) es.length cc)∧wq.cell? ⟨wr.heap.size,0,none⟩=some (.int .i64 day)∧wq.cell? ⟨wr.heap.size,3,none⟩=some (.slice A3 ls.length c3))) (fun v _ _ _=>(ls.length - (intOf v).toNat))
  case atStart=>exact ⟨0,p,q,by omega,by omega,rfl,rfl,rfl,HBX,⟨by have h1:=HI.out.1;have h2:=HI.out.2;rw [HE.out.1] at h1;rw [HE.out.2] at h2;simp only [show (0:Int).toNat=0 from rfl,List.drop_zero];exact ⟨by omega,by omega⟩⟩,⟨F0.out,Y0.out,Y3.out⟩⟩
  case round =>
   clear HB HBX F0 Y0 Y3 f0 x0 x1 x2 x3 zz HI HF0;obtain ⟨j,p,q,hj0,hj1,rfl,rfl,rfl,HB,HI,HC⟩:=hrel;have f0:=HC.out.1;have y0:=HC.out.2.1;have y3:=HC.out.2.2;have zz:=World.block_lt_of_cell? _ _ f0;have zy:=World.block_lt_of_cell? _ _ y0;by_cases hlj:j < (ls.length:Int)
   case neg =>
    go_wp2_with fail
    go_roundw
    case rel=>exact ⟨i+1,p,q,by omega,by omega,rfl,rfl,rfl,HB,⟨by have h1:=HI.out.1;have h2:=HI.out.2;rw [List.drop_of_length_le (by omega)] at h1 h2;simp [amtL,basL] at h1 h2;exact ⟨by omega,by omega⟩⟩,⟨HC.out.1⟩⟩
    case measure=>simp [intOf];omega
   obtain ⟨ae,e0,u0,u1,u2,u3,u4⟩:=at_T67 (Kd.C_below X5.out HB.out) j hj0 hlj;cases e0;have hfl:lineFine (rd_T67 ls j):=all_at (z:=z67) (p:=lineFine) hj0 hlj HLF.out;have HLD:=Aside0.mk (drop_at (l:=ls) (z:=z67) hj0 hlj);have HLE:=Aside0.mk (show amtL a d c (ls.drop j.toNat)=(if selL a d c (rd_T67 ls j)=true then (rd_T67 ls j).f3 else 0)+amtL a d c (ls.drop (j+1).toNat)∧basL a d c (ls.drop j.toNat)=(if selL a d c (rd_T67 ls j)=true then (rd_T67 ls j).f4 else 0)+basL a d c (ls.drop (j+1).toNat) from by rw [HLD.out];exact ⟨rfl,rfl⟩);have HLL:=Aside0.mk (show ∀ x∈ls.drop j.toNat,lineFine x from fun x hx=>HLF.out x (List.mem_of_mem_drop hx));have hll:(ls.drop j.toNat).length≤60:=by rw [List.length_drop];omega
   have hpb:(-100000000000000000≤p∧p≤100000000000000000)∧(-100000000000000000≤q∧q≤100000000000000000):=by
    have t1:=amtL_b a d c _ HLL.out;have t2:=basL_b a d c _ HLL.out;have t3:=BP.out.1;have t4:=BP.out.2;have t5:=HI.out.1;have t6:=HI.out.2;refine ⟨⟨?_,?_⟩,⟨?_,?_⟩⟩ <;> (split at t5 <;> omega)
   obtain ⟨⟨pb0,pb1⟩,⟨qb0,qb1⟩⟩:=hpb;have ca:inB (rd_T67 ls j).f3 (-100000000000) 100000000000=true:=inB_of hfl.1;have cb:inB (rd_T67 ls j).f4 (-100000000000) 100000000000=true:=inB_of hfl.2;have CA:=Aside0.mk (fun W=>(ca ▸ impl_amount.to (rd_T67 ls j).f3 W:Calls Tryz.prog 47 #[.int .i64 (rd_T67 ls j).f3] W fun e w'=>e = .returned (.bool true)∧w'=W));have CB:=Aside0.mk (fun W=>(cb ▸ impl_amount.to (rd_T67 ls j).f4 W:Calls Tryz.prog 47 #[.int .i64 (rd_T67 ls j).f4] W fun e w'=>e = .returned (.bool true)∧w'=W));obtain ⟨⟨b0,b1⟩,⟨b2,b3⟩⟩:=hfl;have HSEL:=Aside0.mk (show selL a d c (rd_T67 ls j)=((decide (a = -1) || decide (a=(rd_T67 ls j).f0)) && (decide (d = -1) || decide (d=(rd_T67 ls j).f1)) && (decide (c = -1) || decide (c=(rd_T67 ls j).f2))) from rfl);have o:=below_alloc HB.out (.cells #[.int .i64 (rd_T67 ls j).f0,.int .i64 (rd_T67 ls j).f1,.int .i64 (rd_T67 ls j).f2,.int .i64 (rd_T67 ls j).f3,.int .i64 (rd_T67 ls j).f4] 67);have hb:=below_alloc (Below.refl wr.heap.size wr) (.cells #[.int .i64 (rd_T67 ls j).f0,.int .i64 (rd_T67 ls j).f1,.int .i64 (rd_T67 ls j).f2,.int .i64 (rd_T67 ls j).f3,.int .i64 (rd_T67 ls j).f4] 67);have HCX:=Aside0.mk (And.intro (y01 hb f0) (And.intro (y01 hb y0) (y01 hb y3)));have HBX:=Aside0.mk o;generalize (rd_T67 ls j).f0=g0 at *;generalize (rd_T67 ls j).f1=g1 at *;generalize (rd_T67 ls j).f2=g2 at *;generalize (rd_T67 ls j).f3=g3 at *;generalize (rd_T67 ls j).f4=g4 at *;generalize selL a d c (rd_T67 ls j)=sl at *;clear o hb ca cb HC
   have HNO:=Aside0.mk (show inB day fr tt=false∨sl=false→p+(if inB day fr tt=true then amtL a d c (ls.drop (j+1).toNat) else 0)+amtV a d c fr tt (es.drop (i+1).toNat)=PT∧q+(if inB day fr tt=true then basL a d c (ls.drop (j+1).toNat) else 0)+basV a d c fr tt (es.drop (i+1).toNat)=QT from fun hq=>by
    have t5:=HI.out.1;have t6:=HI.out.2;rw [HLE.out.1] at t5;rw [HLE.out.2] at t6;rcases hq with hq | hq
    ·rw [hq] at t5 t6 ⊢;simp at t5 t6 ⊢
     exact ⟨t5,t6⟩
    ·rw [hq] at t5 t6;simp at t5 t6 ⊢
     exact ⟨t5,t6⟩)
   have HYE:=Aside0.mk (show inB day fr tt=true→sl=true→(p+g3)+(if inB day fr tt=true then amtL a d c (ls.drop (j+1).toNat) else 0)+amtV a d c fr tt (es.drop (i+1).toNat)=PT∧(q+g4)+(if inB day fr tt=true then basL a d c (ls.drop (j+1).toNat) else 0)+basV a d c fr tt (es.drop (i+1).toNat)=QT from fun hd hq=>by
    have t5:=HI.out.1;have t6:=HI.out.2;rw [HLE.out.1,hd,hq] at t5;rw [HLE.out.2,hd,hq] at t6;rw [hd];simp at t5 t6 ⊢
    exact ⟨by omega,by omega⟩)
   clear HI HLE HLD HLL;by_cases hfr:fr≤day
   case neg =>
    have QD:=Aside0.mk (show inB day fr tt=false from inB_not (fun q=>hfr q.1));have cfr:decide (fr≤day)=false:=decide_eq_false hfr;clear hfr
    go_wp2_with fail
    refine (CA.out _).mono ?_;rintro x w' ⟨rfl,rfl⟩
    go_wp2_with fail
    refine (CB.out _).mono ?_;rintro x w' ⟨rfl,rfl⟩
    go_wp2_with fail
    go_roundw
    case rel=>exact ⟨j+1,p,q,by omega,by omega,rfl,rfl,rfl,HBX,⟨HNO.out (.inl QD.out)⟩,HCX⟩
    case measure=>simp [intOf];omega
   by_cases htt:day≤tt
   case neg =>
    have QD:=Aside0.mk (show inB day fr tt=false from inB_not (fun q=>htt q.2));have cfr:decide (fr≤day)=true:=decide_eq_true hfr;have ctt:decide (day≤tt)=false:=decide_eq_false htt;clear hfr htt
    go_wp2_with fail
    refine (CA.out _).mono ?_;rintro x w' ⟨rfl,rfl⟩
    go_wp2_with fail
    refine (CB.out _).mono ?_;rintro x w' ⟨rfl,rfl⟩
    go_wp2_with fail
    go_roundw
    case rel=>exact ⟨j+1,p,q,by omega,by omega,rfl,rfl,rfl,HBX,⟨HNO.out (.inl QD.out)⟩,HCX⟩
    case measure=>simp [intOf];omega
   case pos =>
    have QD:=Aside0.mk (show inB day fr tt=true from inB_of ⟨hfr,htt⟩);have cfr:decide (fr≤day)=true:=decide_eq_true hfr;have ctt:decide (day≤tt)=true:=decide_eq_true htt;clear hfr htt;by_cases m0:a = -1
    ·have K0:=Aside0.mk m0;have k0b:(a == -1)=true:=by rw [m0];rfl
     clear m0;by_cases m1:d = -1
     ·have K1:=Aside0.mk m1;have k1b:(d == -1)=true:=by rw [m1];rfl
      clear m1;by_cases m2:c = -1
      ·have K2:=Aside0.mk m2;have k2b:(c == -1)=true:=by rw [m2];rfl
       clear m2
       go_wp2_with fail
       refine (CA.out _).mono ?_;rintro x w' ⟨rfl,rfl⟩
       go_wp2_with fail
       refine (CB.out _).mono ?_;rintro x w' ⟨rfl,rfl⟩
       go_wp2_with fail
       go_roundw
       case rel=>exact ⟨j+1,p+g3,q+g4,by omega,by omega,rfl,rfl,rfl,HBX,⟨HYE.out QD.out (by rw [HSEL.out];simp [K0.out,K1.out,K2.out])⟩,HCX⟩
       case measure=>simp [intOf];omega
      ·have k2b:(c == -1)=false:=beq_eq_false_iff_ne.2 m2;by_cases mm2:c=g2
       ·have K2:=Aside0.mk mm2;have k2c:(c == g2)=true:=by rw [mm2];exact beq_self_eq_true' _
        clear mm2 m2
        go_wp2_with fail
        refine (CA.out _).mono ?_;rintro x w' ⟨rfl,rfl⟩
        go_wp2_with fail
        refine (CB.out _).mono ?_;rintro x w' ⟨rfl,rfl⟩
        go_wp2_with fail
        go_roundw
        case rel=>exact ⟨j+1,p+g3,q+g4,by omega,by omega,rfl,rfl,rfl,HBX,⟨HYE.out QD.out (by rw [HSEL.out];simp [K0.out,K1.out,K2.out])⟩,HCX⟩
        case measure=>simp [intOf];omega
       ·have K2:=Aside0.mk mm2;have KK2:=Aside0.mk m2;have k2c:(c == g2)=false:=beq_eq_false_iff_ne.2 mm2;clear mm2 m2
        go_wp2_with fail
        refine (CA.out _).mono ?_;rintro x w' ⟨rfl,rfl⟩
        go_wp2_with fail
        refine (CB.out _).mono ?_;rintro x w' ⟨rfl,rfl⟩
        go_wp2_with fail
        go_roundw
        case rel=>exact ⟨j+1,p,q,by omega,by omega,rfl,rfl,rfl,HBX,⟨HNO.out (.inr (by rw [HSEL.out];simp [K2.out,KK2.out]))⟩,HCX⟩
        case measure=>simp [intOf];omega
     ·have k1b:(d == -1)=false:=beq_eq_false_iff_ne.2 m1;by_cases mm1:d=g1
      ·have K1:=Aside0.mk mm1;have k1c:(d == g1)=true:=by rw [mm1];exact beq_self_eq_true' _
       clear mm1 m1;by_cases m2:c = -1
       ·have K2:=Aside0.mk m2;have k2b:(c == -1)=true:=by rw [m2];rfl
        clear m2
        go_wp2_with fail
        refine (CA.out _).mono ?_;rintro x w' ⟨rfl,rfl⟩
        go_wp2_with fail
        refine (CB.out _).mono ?_;rintro x w' ⟨rfl,rfl⟩
        go_wp2_with fail
        go_roundw
        case rel=>exact ⟨j+1,p+g3,q+g4,by omega,by omega,rfl,rfl,rfl,HBX,⟨HYE.out QD.out (by rw [HSEL.out];simp [K0.out,K1.out,K2.out])⟩,HCX⟩
        case measure=>simp [intOf];omega
       ·have k2b:(c == -1)=false:=beq_eq_false_iff_ne.2 m2;by_cases mm2:c=g2
        ·have K2:=Aside0.mk mm2;have k2c:(c == g2)=true:=by rw [mm2];exact beq_self_eq_true' _
         clear mm2 m2
         go_wp2_with fail
         refine (CA.out _).mono ?_;rintro x w' ⟨rfl,rfl⟩
         go_wp2_with fail
         refine (CB.out _).mono ?_;rintro x w' ⟨rfl,rfl⟩
         go_wp2_with fail
         go_roundw
         case rel=>exact ⟨j+1,p+g3,q+g4,by omega,by omega,rfl,rfl,rfl,HBX,⟨HYE.out QD.out (by rw [HSEL.out];simp [K0.out,K1.out,K2.out])⟩,HCX⟩
         case measure=>simp [intOf];omega
        ·have K2:=Aside0.mk mm2;have KK2:=Aside0.mk m2;have k2c:(c == g2)=false:=beq_eq_false_iff_ne.2 mm2;clear mm2 m2
         go_wp2_with fail
         refine (CA.out _).mono ?_;rintro x w' ⟨rfl,rfl⟩
         go_wp2_with fail
         refine (CB.out _).mono ?_;rintro x w' ⟨rfl,rfl⟩
         go_wp2_with fail
         go_roundw
         case rel=>exact ⟨j+1,p,q,by omega,by omega,rfl,rfl,rfl,HBX,⟨HNO.out (.inr (by rw [HSEL.out];simp [K2.out,KK2.out]))⟩,HCX⟩
         case measure=>simp [intOf];omega
      ·have K1:=Aside0.mk mm1;have KK1:=Aside0.mk m1;have k1c:(d == g1)=false:=beq_eq_false_iff_ne.2 mm1;clear mm1 m1
       go_wp2_with fail
       refine (CA.out _).mono ?_;rintro x w' ⟨rfl,rfl⟩
       go_wp2_with fail
       refine (CB.out _).mono ?_;rintro x w' ⟨rfl,rfl⟩
       go_wp2_with fail
       go_roundw
       case rel=>exact ⟨j+1,p,q,by omega,by omega,rfl,rfl,rfl,HBX,⟨HNO.out (.inr (by rw [HSEL.out];simp [K1.out,KK1.out]))⟩,HCX⟩
       case measure=>simp [intOf];omega
    ·have k0b:(a == -1)=false:=beq_eq_false_iff_ne.2 m0;by_cases mm0:a=g0
     ·have K0:=Aside0.mk mm0;have k0c:(a == g0)=true:=by rw [mm0];exact beq_self_eq_true' _
      clear mm0 m0;by_cases m1:d = -1
      ·have K1:=Aside0.mk m1;have k1b:(d == -1)=true:=by rw [m1];rfl
       clear m1;by_cases m2:c = -1
       ·have K2:=Aside0.mk m2;have k2b:(c == -1)=true:=by rw [m2];rfl
        clear m2
        go_wp2_with fail
        refine (CA.out _).mono ?_;rintro x w' ⟨rfl,rfl⟩
        go_wp2_with fail
        refine (CB.out _).mono ?_;rintro x w' ⟨rfl,rfl⟩
        go_wp2_with fail
        go_roundw
        case rel=>exact ⟨j+1,p+g3,q+g4,by omega,by omega,rfl,rfl,rfl,HBX,⟨HYE.out QD.out (by rw [HSEL.out];simp [K0.out,K1.out,K2.out])⟩,HCX⟩
        case measure=>simp [intOf];omega
       ·have k2b:(c == -1)=false:=beq_eq_false_iff_ne.2 m2;by_cases mm2:c=g2
        ·have K2:=Aside0.mk mm2;have k2c:(c == g2)=true:=by rw [mm2];exact beq_self_eq_true' _
         clear mm2 m2
         go_wp2_with fail
         refine (CA.out _).mono ?_;rintro x w' ⟨rfl,rfl⟩
         go_wp2_with fail
         refine (CB.out _).mono ?_;rintro x w' ⟨rfl,rfl⟩
         go_wp2_with fail
         go_roundw
         case rel=>exact ⟨j+1,p+g3,q+g4,by omega,by omega,rfl,rfl,rfl,HBX,⟨HYE.out QD.out (by rw [HSEL.out];simp [K0.out,K1.out,K2.out])⟩,HCX⟩
         case measure=>simp [intOf];omega
        ·have K2:=Aside0.mk mm2;have KK2:=Aside0.mk m2;have k2c:(c == g2)=false:=beq_eq_false_iff_ne.2 mm2;clear mm2 m2
         go_wp2_with fail
         refine (CA.out _).mono ?_;rintro x w' ⟨rfl,rfl⟩
         go_wp2_with fail
         refine (CB.out _).mono ?_;rintro x w' ⟨rfl,rfl⟩
         go_wp2_with fail
         go_roundw
         case rel=>exact ⟨j+1,p,q,by omega,by omega,rfl,rfl,rfl,HBX,⟨HNO.out (.inr (by rw [HSEL.out];simp [K2.out,KK2.out]))⟩,HCX⟩
         case measure=>simp [intOf];omega
      ·have k1b:(d == -1)=false:=beq_eq_false_iff_ne.2 m1;by_cases mm1:d=g1
       ·have K1:=Aside0.mk mm1;have k1c:(d == g1)=true:=by rw [mm1];exact beq_self_eq_true' _
        clear mm1 m1;by_cases m2:c = -1
        ·have K2:=Aside0.mk m2;have k2b:(c == -1)=true:=by rw [m2];rfl
         clear m2
         go_wp2_with fail
         refine (CA.out _).mono ?_;rintro x w' ⟨rfl,rfl⟩
         go_wp2_with fail
         refine (CB.out _).mono ?_;rintro x w' ⟨rfl,rfl⟩
         go_wp2_with fail
         go_roundw
         case rel=>exact ⟨j+1,p+g3,q+g4,by omega,by omega,rfl,rfl,rfl,HBX,⟨HYE.out QD.out (by rw [HSEL.out];simp [K0.out,K1.out,K2.out])⟩,HCX⟩
         case measure=>simp [intOf];omega
        ·have k2b:(c == -1)=false:=beq_eq_false_iff_ne.2 m2;by_cases mm2:c=g2
         ·have K2:=Aside0.mk mm2;have k2c:(c == g2)=true:=by rw [mm2];exact beq_self_eq_true' _
          clear mm2 m2
          go_wp2_with fail
          refine (CA.out _).mono ?_;rintro x w' ⟨rfl,rfl⟩
          go_wp2_with fail
          refine (CB.out _).mono ?_;rintro x w' ⟨rfl,rfl⟩
          go_wp2_with fail
          go_roundw
          case rel=>exact ⟨j+1,p+g3,q+g4,by omega,by omega,rfl,rfl,rfl,HBX,⟨HYE.out QD.out (by rw [HSEL.out];simp [K0.out,K1.out,K2.out])⟩,HCX⟩
          case measure=>simp [intOf];omega
         ·have K2:=Aside0.mk mm2;have KK2:=Aside0.mk m2;have k2c:(c == g2)=false:=beq_eq_false_iff_ne.2 mm2;clear mm2 m2
          go_wp2_with fail
          refine (CA.out _).mono ?_;rintro x w' ⟨rfl,rfl⟩
          go_wp2_with fail
          refine (CB.out _).mono ?_;rintro x w' ⟨rfl,rfl⟩
          go_wp2_with fail
          go_roundw
          case rel=>exact ⟨j+1,p,q,by omega,by omega,rfl,rfl,rfl,HBX,⟨HNO.out (.inr (by rw [HSEL.out];simp [K2.out,KK2.out]))⟩,HCX⟩
          case measure=>simp [intOf];omega
       ·have K1:=Aside0.mk mm1;have KK1:=Aside0.mk m1;have k1c:(d == g1)=false:=beq_eq_false_iff_ne.2 mm1;clear mm1 m1
        go_wp2_with fail
        refine (CA.out _).mono ?_;rintro x w' ⟨rfl,rfl⟩
        go_wp2_with fail
        refine (CB.out _).mono ?_;rintro x w' ⟨rfl,rfl⟩
        go_wp2_with fail
        go_roundw
        case rel=>exact ⟨j+1,p,q,by omega,by omega,rfl,rfl,rfl,HBX,⟨HNO.out (.inr (by rw [HSEL.out];simp [K1.out,KK1.out]))⟩,HCX⟩
        case measure=>simp [intOf];omega
     ·have K0:=Aside0.mk mm0;have KK0:=Aside0.mk m0;have k0c:(a == g0)=false:=beq_eq_false_iff_ne.2 mm0;clear mm0 m0
      go_wp2_with fail
      refine (CA.out _).mono ?_;rintro x w' ⟨rfl,rfl⟩
      go_wp2_with fail
      refine (CB.out _).mono ?_;rintro x w' ⟨rfl,rfl⟩
      go_wp2_with fail
      go_roundw
      case rel=>exact ⟨j+1,p,q,by omega,by omega,rfl,rfl,rfl,HBX,⟨HNO.out (.inr (by rw [HSEL.out];simp [K0.out,KK0.out]))⟩,HCX⟩
      case measure=>simp [intOf];omega
mutual
noncomputable def spec_Periods.j0:Nat→Int→Int→Int→List (S63)→Bool→Option ((List (S63)))
 | 0,_,_,_,_,_=>none
 | k+1,x0,x1,x2,x7,x33=>if x33=true then (some x7) else (spec_Periods.l0 k x0 x1 x2 x7 0)
noncomputable def spec_Periods.l0:Nat→Int→Int→Int→List (S63)→Int→Option ((List (S63)))
 | 0,_,_,_,_,_=>none
 | k+1,x0,x1,x2,x7,x8=>if x8 < x2 then (if x0=2 then (spec_Periods.j2 k x0 x1 x2 x7 x8 (wrap64 (x1+27)) ((Int.tmod x8 3) == 2)) else (spec_Periods.j2 k x0 x1 x2 x7 x8 (wrap64 (x1+27)) false)) else (some x7)
noncomputable def spec_Periods.j2:Nat→Int→Int→Int→List (S63)→Int→Int→Bool→Option ((List (S63)))
 | 0,_,_,_,_,_,_,_=>none
 | k+1,x0,x1,x2,x7,x8,x9,x48=>if x48=true then (spec_Periods.j3 k x0 x1 x2 x7 x8 (wrap64 (x1+34))) else (spec_Periods.j3 k x0 x1 x2 x7 x8 x9)
noncomputable def spec_Periods.j3:Nat→Int→Int→Int→List (S63)→Int→Int→Option ((List (S63)))
 | 0,_,_,_,_,_,_=>none
 | k+1,x0,x1,x2,x7,x8,x9=>if x0=1 then ((spec_l2Day.f x1).bind fun t53010=>(if t53010=true then ((spec_MonthEnd.f k x1).bind fun t53014=>((spec_l2Day.f t53014).bind fun t53015=>(if t53015=true then (if x7.length < 8796093022208 then (spec_Periods.l0 k x0 (wrap64 (t53014+1)) x2 (x7++[(⟨x1,t53014⟩:S63)]) (wrap64 (x8+1))) else (none)) else (some (([]:List (S63))))))) else (some (([]:List (S63)))))) else ((spec_l2Day.f x9).bind fun t53022=>(if t53022=true then (if x7.length < 8796093022208 then (spec_Periods.l0 k x0 (wrap64 (x9+1)) x2 (x7++[(⟨x1,x9⟩:S63)]) (wrap64 (x8+1))) else (none)) else (some (([]:List (S63))))))
end
noncomputable def spec_Periods.f (k:Nat) (a0:Int) (a1:Int) (a2:Int):Option ((List (S63))):=(some (([]:List (S63)):List (S63))).bind fun y53001=>((spec_l1In.f a0 1 3).bind fun t53004=>(if t53004=true then ((spec_l1In.f a2 1 60).bind fun t53005=>(if t53005=true then ((spec_l2Day.f a1).bind fun t53006=>(if t53006=true then (if a0=1 then ((spec_DateOf.f k a1).bind fun bt53007=>(spec_Periods.j0 k a0 a1 a2 y53001 (bt53007.2.2 != 1))) else (spec_Periods.j0 k a0 a1 a2 y53001 false)) else (spec_Periods.j0 k a0 a1 a2 y53001 true))) else (spec_Periods.j0 k a0 a1 a2 y53001 true))) else (spec_Periods.j0 k a0 a1 a2 y53001 true)))
set_option maxHeartbeats 8000000 in
set_option maxRecDepth 100000 in
theorem spec_Periods.calls (k:Nat) (a0:Int) (a1:Int) (a2:Int) (r:List (S63)) (w:World) (h:spec_Periods.f k a0 a1 a2=some r) :
 Calls Tryz.prog 52 #[.int .i64 a0,.int .i64 a1,.int .i64 a2] w fun e w'=>∃ v0_:Value,e = .returned (v0_)∧Kd.R k63 63 w' w.heap.size (fun _=>True) v0_ r∧Below w.heap.size w w':=by
 have hu63:=Tryz.underlying63;have HB:=Aside0.mk (Below.refl w.heap.size w);have H:((some (([]:List (S63)):List (S63))).bind fun y53001=>((spec_l1In.f a0 1 3).bind fun t53004=>(if t53004=true then ((spec_l1In.f a2 1 60).bind fun t53005=>(if t53005=true then ((spec_l2Day.f a1).bind fun t53006=>(if t53006=true then (if a0=1 then ((spec_DateOf.f k a1).bind fun bt53007=>(spec_Periods.j0 k a0 a1 a2 y53001 (bt53007.2.2 != 1))) else (spec_Periods.j0 k a0 a1 a2 y53001 false)) else (spec_Periods.j0 k a0 a1 a2 y53001 true))) else (spec_Periods.j0 k a0 a1 a2 y53001 true))) else (spec_Periods.j0 k a0 a1 a2 y53001 true))))=some r:=h;clear h;obtain ⟨y53001,hy53001⟩:∃ y_:List (S63),y_=(([]:List (S63))):=⟨_,rfl⟩;replace H:((spec_l1In.f a0 1 3).bind fun t53004=>(if t53004=true then ((spec_l1In.f a2 1 60).bind fun t53005=>(if t53005=true then ((spec_l2Day.f a1).bind fun t53006=>(if t53006=true then (if a0=1 then ((spec_DateOf.f k a1).bind fun bt53007=>(spec_Periods.j0 k a0 a1 a2 y53001 (bt53007.2.2 != 1))) else (spec_Periods.j0 k a0 a1 a2 y53001 false)) else (spec_Periods.j0 k a0 a1 a2 y53001 true))) else (spec_Periods.j0 k a0 a1 a2 y53001 true))) else (spec_Periods.j0 k a0 a1 a2 y53001 true)))=some r:=by (have H2_:=(Option.bind_some _ _).symm.trans H;rw [hy53001];with_reducible exact H2_)
 have Ny53001:=Aside0.mk hy53001;clear hy53001;have HC4:=Aside0.mk H;clear H;have kf:∀ (x y z:Int) (w:World),(Instr.field 122 (.agg #[.int .i64 x,.int .i64 y,.int .i64 z]) 2).run Tryz.prog w = .ok (.int .i64 z) w:=fun _ _ _ _=>by kernel_rfl
 go_enter Tryz.func52,Tryz.ntmps52
 go_upto_region 2 with (((with_reducible refine gate_dst (N:=10) rfl ?_);refine Kd.R_lit k63 _ 63 ?hg (N:=10) ?hd (xs:=([]:List (S63))) (inner:=[]) (ok:=fun _=>True) (okp:=fun _=>True) ?hr ?hp (fun _ hk=>hk) trivial (Below.refl _ _) (Nat.le_refl _) (by simp) ?_;(case hd=>rfl);(case hg=>rfl);(case hr=>(go_simp;done));(case hp=>exact (Reps.none _ _));intro v53002 w5 ho6 hb hg_ hnew_;clear hg_ hnew_;(rw [← Ny53001.out] at ho6);have n0_:=Aside0.mk (Kd.R_lower ho6 (below_size HB.out));have n1_:=Aside0.mk (below_step HB.out hb);clear HB;have HO53003:=n0_;have HB:=n1_;clear n0_ n1_;clear hb ho6))
 (try simp only [Act.put,List.setIfInBounds_toArray,List.set_cons_zero,List.set_cons_succ])
 go_cut [33] (fun v33 wc=>∃ (kq:Nat) (x33_3:Bool),v33 = .bool x33_3∧Aside0 (spec_Periods.j0 kq a0 a1 a2 y53001 x33_3=some r)∧Aside0 (kq≤k)∧Aside0 (Kd.R k63 63 wc w.heap.size (fun _=>True) v53002 y53001)∧Aside0 (Below w.heap.size w wc))
 case first =>
  have H:=HC4.out;clear HC4;replace H:=Option.bind_eq_some_iff.mp H;obtain ⟨t53004,A70,H⟩:=H;replace H:(if t53004=true then ((spec_l1In.f a2 1 60).bind fun t53005=>(if t53005=true then ((spec_l2Day.f a1).bind fun t53006=>(if t53006=true then (if a0=1 then ((spec_DateOf.f k a1).bind fun bt53007=>(spec_Periods.j0 k a0 a1 a2 y53001 (bt53007.2.2 != 1))) else (spec_Periods.j0 k a0 a1 a2 y53001 false)) else (spec_Periods.j0 k a0 a1 a2 y53001 true))) else (spec_Periods.j0 k a0 a1 a2 y53001 true))) else (spec_Periods.j0 k a0 a1 a2 y53001 true))=some r:=H;have A7:=Aside0.mk A70;clear A70;by_cases c8:t53004=true
  ·subst c8;have H1:((spec_l1In.f a2 1 60).bind fun t53005=>(if t53005=true then ((spec_l2Day.f a1).bind fun t53006=>(if t53006=true then (if a0=1 then ((spec_DateOf.f k a1).bind fun bt53007=>(spec_Periods.j0 k a0 a1 a2 y53001 (bt53007.2.2 != 1))) else (spec_Periods.j0 k a0 a1 a2 y53001 false)) else (spec_Periods.j0 k a0 a1 a2 y53001 true))) else (spec_Periods.j0 k a0 a1 a2 y53001 true)))=some r:=by rw [if_pos rfl] at H;exact H
   clear H;have H:=H1;clear H1;replace H:=Option.bind_eq_some_iff.mp H;obtain ⟨t53005,A90,H⟩:=H;replace H:(if t53005=true then ((spec_l2Day.f a1).bind fun t53006=>(if t53006=true then (if a0=1 then ((spec_DateOf.f k a1).bind fun bt53007=>(spec_Periods.j0 k a0 a1 a2 y53001 (bt53007.2.2 != 1))) else (spec_Periods.j0 k a0 a1 a2 y53001 false)) else (spec_Periods.j0 k a0 a1 a2 y53001 true))) else (spec_Periods.j0 k a0 a1 a2 y53001 true))=some r:=H;have A9:=Aside0.mk A90;clear A90;by_cases c10:t53005=true
   ·subst c10;have H1:((spec_l2Day.f a1).bind fun t53006=>(if t53006=true then (if a0=1 then ((spec_DateOf.f k a1).bind fun bt53007=>(spec_Periods.j0 k a0 a1 a2 y53001 (bt53007.2.2 != 1))) else (spec_Periods.j0 k a0 a1 a2 y53001 false)) else (spec_Periods.j0 k a0 a1 a2 y53001 true)))=some r:=by rw [if_pos rfl] at H;exact H
    clear H;have H:=H1;clear H1;replace H:=Option.bind_eq_some_iff.mp H;obtain ⟨t53006,A110,H⟩:=H;replace H:(if t53006=true then (if a0=1 then ((spec_DateOf.f k a1).bind fun bt53007=>(spec_Periods.j0 k a0 a1 a2 y53001 (bt53007.2.2 != 1))) else (spec_Periods.j0 k a0 a1 a2 y53001 false)) else (spec_Periods.j0 k a0 a1 a2 y53001 true))=some r:=H;have A11:=Aside0.mk A110;clear A110;by_cases c12:t53006=true
    ·subst c12;have H1:(if a0=1 then ((spec_DateOf.f k a1).bind fun bt53007=>(spec_Periods.j0 k a0 a1 a2 y53001 (bt53007.2.2 != 1))) else (spec_Periods.j0 k a0 a1 a2 y53001 false))=some r:=by rw [if_pos rfl] at H;exact H
     clear H;have H:=H1;clear H1;by_cases c13:a0=1
     ·rw [if_pos c13] at H;have c13b0:(a0 == 1)=true:=beq_iff_eq.mpr c13;have c13b1:(a0 != 1)=false:=bne_eq_false_iff_eq.mpr c13;clear c13
      (skip)
      replace H:=Option.bind_eq_some_iff.mp H;obtain ⟨⟨t53007,t53008,t53009⟩,A140,H⟩:=H;replace H:(spec_Periods.j0 k a0 a1 a2 y53001 (t53009 != 1))=some r:=H;have A14:=Aside0.mk A140;clear A140;have H':=Aside0.mk H;clear H
      go_wp2_with (first | ((with_reducible refine gate_callee (f:=23) rfl ?_);refine goesL_ (some 12) rfl rfl Tryz.func23 (by kernel_rfl) rfl #[.int .i64 a0,.int .i64 1,.int .i64 3] rfl (by (try simp only [List.map_toArray,List.map_cons,List.map_nil]);rfl) ?_;(with_reducible refine (spec_l1In.calls a0 1 3 true _ A7.out).mono ?_);rintro e w' ⟨rfl,⟨nd,rfl⟩⟩;refine ⟨_,rfl,?_⟩) | (go_at_call 23;(with_reducible refine (spec_l1In.calls a2 1 60 true _ A9.out).mono ?_);rintro e w' ⟨rfl,⟨nd,rfl⟩⟩) | (go_at_call 31;(with_reducible refine (spec_l2Day.calls a1 true _ A11.out).mono ?_);rintro e w' ⟨rfl,⟨nd,rfl⟩⟩) | (go_at_call 72;(with_reducible refine (spec_DateOf.calls k a1 t53007 t53008 t53009 _ A14.out).mono ?_);rintro e w15 ⟨rfl,hb⟩;have n0_:=Aside0.mk (Kd.R_below (by (with_reducible repeat (apply Kd.R_drewN));exact HO53003.out) hb);have n1_:=Aside0.mk (below_step (by repeat ((with_reducible first | exact HB.out | apply pw_below_drewN))) hb);clear HO53003;clear HB;have HO53003:=n0_;have HB:=n1_;clear n0_ n1_;(try clear hb);(try clear hb2);(try clear hk);(try clear hi)))
      go_meet
      case rel=>exact ⟨_,((t53009 != 1)),(by rfl),H',⟨by omega⟩,⟨HO53003.out⟩,⟨HB.out⟩⟩
     ·rw [if_neg c13] at H;have c13b0:(a0 == 1)=false:=beq_eq_false_iff_ne.mpr c13;have c13b1:(a0 != 1)=true:=bne_iff_ne.mpr c13
      (skip)
      have H':=Aside0.mk H;clear H
      go_wp2_with (first | ((with_reducible refine gate_callee (f:=23) rfl ?_);refine goesL_ (some 12) rfl rfl Tryz.func23 (by kernel_rfl) rfl #[.int .i64 a0,.int .i64 1,.int .i64 3] rfl (by (try simp only [List.map_toArray,List.map_cons,List.map_nil]);rfl) ?_;(with_reducible refine (spec_l1In.calls a0 1 3 true _ A7.out).mono ?_);rintro e w' ⟨rfl,⟨nd,rfl⟩⟩;refine ⟨_,rfl,?_⟩) | (go_at_call 23;(with_reducible refine (spec_l1In.calls a2 1 60 true _ A9.out).mono ?_);rintro e w' ⟨rfl,⟨nd,rfl⟩⟩) | (go_at_call 31;(with_reducible refine (spec_l2Day.calls a1 true _ A11.out).mono ?_);rintro e w' ⟨rfl,⟨nd,rfl⟩⟩))
      go_meet
      case rel=>exact ⟨_,(false),(by rfl),H',⟨by omega⟩,⟨by (with_reducible repeat (apply Kd.R_drewN));exact HO53003.out⟩,⟨by repeat ((with_reducible first | exact HB.out | apply pw_below_drewN))⟩⟩
    ·replace c12:=Bool.eq_false_iff.mpr c12;subst c12;have H1:(spec_Periods.j0 k a0 a1 a2 y53001 true)=some r:=by rw [if_neg (show ¬ (false=true) by decide)] at H;exact H
     clear H;have H:=H1;clear H1;have H':=Aside0.mk H;clear H
     go_wp2_with (first | ((with_reducible refine gate_callee (f:=23) rfl ?_);refine goesL_ (some 12) rfl rfl Tryz.func23 (by kernel_rfl) rfl #[.int .i64 a0,.int .i64 1,.int .i64 3] rfl (by (try simp only [List.map_toArray,List.map_cons,List.map_nil]);rfl) ?_;(with_reducible refine (spec_l1In.calls a0 1 3 true _ A7.out).mono ?_);rintro e w' ⟨rfl,⟨nd,rfl⟩⟩;refine ⟨_,rfl,?_⟩) | (go_at_call 23;(with_reducible refine (spec_l1In.calls a2 1 60 true _ A9.out).mono ?_);rintro e w' ⟨rfl,⟨nd,rfl⟩⟩) | (go_at_call 31;(with_reducible refine (spec_l2Day.calls a1 false _ A11.out).mono ?_);rintro e w' ⟨rfl,⟨nd,rfl⟩⟩))
     go_meet
     case rel=>exact ⟨_,(true),(by rfl),H',⟨by omega⟩,⟨by (with_reducible repeat (apply Kd.R_drewN));exact HO53003.out⟩,⟨by repeat ((with_reducible first | exact HB.out | apply pw_below_drewN))⟩⟩
   ·replace c10:=Bool.eq_false_iff.mpr c10;subst c10;have H1:(spec_Periods.j0 k a0 a1 a2 y53001 true)=some r:=by rw [if_neg (show ¬ (false=true) by decide)] at H;exact H
    clear H;have H:=H1;clear H1;have H':=Aside0.mk H;clear H
    go_wp2_with (first | ((with_reducible refine gate_callee (f:=23) rfl ?_);refine goesL_ (some 12) rfl rfl Tryz.func23 (by kernel_rfl) rfl #[.int .i64 a0,.int .i64 1,.int .i64 3] rfl (by (try simp only [List.map_toArray,List.map_cons,List.map_nil]);rfl) ?_;(with_reducible refine (spec_l1In.calls a0 1 3 true _ A7.out).mono ?_);rintro e w' ⟨rfl,⟨nd,rfl⟩⟩;refine ⟨_,rfl,?_⟩) | (go_at_call 23;(with_reducible refine (spec_l1In.calls a2 1 60 false _ A9.out).mono ?_);rintro e w' ⟨rfl,⟨nd,rfl⟩⟩))
    go_meet
    case rel=>exact ⟨_,(true),(by rfl),H',⟨by omega⟩,⟨by (with_reducible repeat (apply Kd.R_drewN));exact HO53003.out⟩,⟨by repeat ((with_reducible first | exact HB.out | apply pw_below_drewN))⟩⟩
  ·replace c8:=Bool.eq_false_iff.mpr c8;subst c8;have H1:(spec_Periods.j0 k a0 a1 a2 y53001 true)=some r:=by rw [if_neg (show ¬ (false=true) by decide)] at H;exact H
   clear H;have H:=H1;clear H1;have H':=Aside0.mk H;clear H
   go_wp2_with (((with_reducible refine gate_callee (f:=23) rfl ?_);refine goesL_ (some 12) rfl rfl Tryz.func23 (by kernel_rfl) rfl #[.int .i64 a0,.int .i64 1,.int .i64 3] rfl (by (try simp only [List.map_toArray,List.map_cons,List.map_nil]);rfl) ?_;(with_reducible refine (spec_l1In.calls a0 1 3 false _ A7.out).mono ?_);rintro e w' ⟨rfl,⟨nd,rfl⟩⟩;refine ⟨_,rfl,?_⟩))
   go_meet
   case rel=>exact ⟨_,(true),(by rfl),H',⟨by omega⟩,⟨by (with_reducible repeat (apply Kd.R_drewN));exact HO53003.out⟩,⟨by repeat ((with_reducible first | exact HB.out | apply pw_below_drewN))⟩⟩
 case rest =>
  clear HC4;(try clear c1);(try clear c2);(try clear p2);(try clear c5);(try clear c8);(try clear c10);(try clear c12);(try clear c13);(try clear c13b0);(try clear c13b1);obtain ⟨kq,x33_3,rfl,HA,HJ3,HO_7,HB⟩:=hcut;cases kq with
  | zero=>exact absurd HA.out (by simp [spec_Periods.j0])
  | succ kj3 =>
   have H:=HA.out;clear HA;simp only [spec_Periods.j0] at H;by_cases c16:x33_3=true
   ·subst c16;have H1:(some y53001)=some r:=by rw [if_pos rfl] at H;exact H
    clear H;have H:=H1;clear H1;obtain rfl:=Option.some.inj H
    go_wp2
    go_ret
    exact ⟨_,by first | rfl | (simp [errW_none,errW_some] <;> rfl) | (simp [*,errW_none,errW_some] <;> rfl),by exact HO_7.out,by exact HB.out⟩
   ·replace c16:=Bool.eq_false_iff.mpr c16;subst c16;have H1:(spec_Periods.l0 kj3 a0 a1 a2 y53001 0)=some r:=by rw [if_neg (show ¬ (false=true) by decide)] at H;exact H
    clear H;have H:=H1;clear H1;have H':=Aside0.mk H;clear H
    go_wp2
    go_loopg [1,7,8] kj3 (fun kq v1 v7 v8 w'=>∃ (x1_2:Int) (x7_2:List (S63)) (x8_2:Int),v1 = .int .i64 x1_2∧v8 = .int .i64 x8_2∧Aside0 (spec_Periods.l0 kq a0 x1_2 a2 x7_2 x8_2=some r)∧Aside0 (kq≤kj3)∧Aside0 (Kd.R k63 63 w' w.heap.size (fun _=>True) v7 x7_2)∧Aside0 (Below w.heap.size w w'))
    case atStart=>exact ⟨(a1),(y53001),(0),(by rfl),(by rfl),H',⟨Nat.le_refl _⟩,⟨HO_7.out⟩,⟨HB.out⟩⟩
    case round =>
     clear H';(try clear c1);(try clear c2);(try clear p2);(try clear c5);(try clear c8);(try clear c10);(try clear c12);(try clear c13);(try clear c13b0);(try clear c13b1);(try clear c16);(try clear p2);obtain ⟨x1_2,x7_2,x8_2,rfl,rfl,HA,HK2,HO_7,HB⟩:=hrel;cases gk with
     | zero=>exact absurd HA.out (by simp [spec_Periods.l0])
     | succ k2 =>
      have H:=HA.out;clear HA;simp only [spec_Periods.l0] at H;by_cases c17:x8_2 < a2
      ·rw [if_pos c17] at H;have c17b0:decide (x8_2 < a2)=true:=decide_eq_true c17;clear c17;have HC18:=Aside0.mk H;clear H
       go_upto_region 8 with (fail)
       go_cut [48] (fun v48 wc=>∃ (kq:Nat) (x48_17:Bool),v48 = .bool x48_17∧Aside0 (spec_Periods.j2 kq a0 x1_2 a2 x7_2 x8_2 (wrap64 (x1_2+27)) x48_17=some r)∧Aside0 (kq≤k2)∧Aside0 (Kd.R k63 63 wc w.heap.size (fun _=>True) u7 x7_2)∧Aside0 (Below w.heap.size w wc))
       case first =>
        have H:=HC18.out;clear HC18;by_cases c19:a0=2
        ·rw [if_pos c19] at H;have c19b0:(a0 == 2)=true:=beq_iff_eq.mpr c19;have c19b1:(a0 != 2)=false:=bne_eq_false_iff_eq.mpr c19;clear c19
         (skip)
         have H':=Aside0.mk H;clear H
         go_wp2
         go_meet
         case rel=>exact ⟨_,(((Int.tmod x8_2 3) == 2)),(by rfl),H',⟨by have:=HJ3.out;have:=HK2.out;omega⟩,⟨HO_7.out⟩,⟨HB.out⟩⟩
        ·rw [if_neg c19] at H;have c19b0:(a0 == 2)=false:=beq_eq_false_iff_ne.mpr c19;have c19b1:(a0 != 2)=true:=bne_iff_ne.mpr c19
         (skip)
         have H':=Aside0.mk H;clear H
         go_wp2
         go_meet
         case rel=>exact ⟨_,(false),(by rfl),H',⟨by have:=HJ3.out;have:=HK2.out;omega⟩,⟨HO_7.out⟩,⟨HB.out⟩⟩
       case rest =>
        clear HC18;(try clear c1);(try clear c2);(try clear p2);(try clear c5);(try clear p6);(try clear c8);(try clear c10);(try clear c12);(try clear c13);(try clear c13b0);(try clear c13b1);(try clear c16);(try clear c17);(try clear c17b0);(try clear c19);(try clear c19b0);(try clear c19b1);(try clear p2);obtain ⟨kq,x48_17,rfl,HA,HJ17,HO_7,HB⟩:=hcut;cases kq with
        | zero=>exact absurd HA.out (by simp [spec_Periods.j2])
        | succ kj17 =>
         have H:=HA.out;clear HA;simp only [spec_Periods.j2] at H;have HC20:=Aside0.mk H;clear H
         go_upto_if 48 with (fail)
         go_cut [9] (fun v9 wc=>∃ (kq:Nat) (x9_19:Int),v9 = .int .i64 x9_19∧Aside0 (spec_Periods.j3 kq a0 x1_2 a2 x7_2 x8_2 x9_19=some r)∧Aside0 (kq≤kj17)∧Aside0 (Kd.R k63 63 wc w.heap.size (fun _=>True) u7 x7_2)∧Aside0 (Below w.heap.size w wc))
         case first =>
          have H:=HC20.out;clear HC20;by_cases c21:x48_17=true
          ·subst c21;have H1:(spec_Periods.j3 kj17 a0 x1_2 a2 x7_2 x8_2 (wrap64 (x1_2+34)))=some r:=by rw [if_pos rfl] at H;exact H
           clear H;have H:=H1;clear H1;have H':=Aside0.mk H;clear H
           go_wp2
           go_meet
           case rel=>exact ⟨_,(wrap64 (x1_2+34)),(by rfl),H',⟨by have:=HJ3.out;have:=HK2.out;have:=HJ17.out;omega⟩,⟨HO_7.out⟩,⟨HB.out⟩⟩
          ·replace c21:=Bool.eq_false_iff.mpr c21;subst c21;have H1:(spec_Periods.j3 kj17 a0 x1_2 a2 x7_2 x8_2 (wrap64 (x1_2+27)))=some r:=by rw [if_neg (show ¬ (false=true) by decide)] at H;exact H
           clear H;have H:=H1;clear H1;have H':=Aside0.mk H;clear H
           go_wp2
           go_meet
           case rel=>exact ⟨_,((wrap64 (x1_2+27))),(by rfl),H',⟨by have:=HJ3.out;have:=HK2.out;have:=HJ17.out;omega⟩,⟨HO_7.out⟩,⟨HB.out⟩⟩
         case rest =>
          clear HC20;(try clear c1);(try clear c2);(try clear p2);(try clear c5);(try clear p6);(try clear c8);(try clear c10);(try clear c12);(try clear c13);(try clear c13b0);(try clear c13b1);(try clear c16);(try clear c17);(try clear c17b0);(try clear c19);(try clear c19b0);(try clear c19b1);(try clear c21);(try clear p2);(try clear p6);obtain ⟨kq,x9_19,rfl,HA,HJ19,HO_7,HB⟩:=hcut;cases kq with
          | zero=>exact absurd HA.out (by simp [spec_Periods.j3])
          | succ kj19 =>
           have H:=HA.out;clear HA;simp only [spec_Periods.j3] at H;by_cases c22:a0=1
           ·rw [if_pos c22] at H;have c22b0:(a0 == 1)=true:=beq_iff_eq.mpr c22;have c22b1:(a0 != 1)=false:=bne_eq_false_iff_eq.mpr c22;clear c22;replace H:=Option.bind_eq_some_iff.mp H;obtain ⟨t53010,A230,H⟩:=H;replace H:(if t53010=true then ((spec_MonthEnd.f kj19 x1_2).bind fun t53014=>((spec_l2Day.f t53014).bind fun t53015=>(if t53015=true then (if x7_2.length < 8796093022208 then (spec_Periods.l0 kj19 a0 (wrap64 (t53014+1)) a2 (x7_2++[(⟨x1_2,t53014⟩:S63)]) (wrap64 (x8_2+1))) else (none)) else (some (([]:List (S63))))))) else (some (([]:List (S63)))))=some r:=H;have A23:=Aside0.mk A230;clear A230;by_cases c24:t53010=true
            ·subst c24;have H1:((spec_MonthEnd.f kj19 x1_2).bind fun t53014=>((spec_l2Day.f t53014).bind fun t53015=>(if t53015=true then (if x7_2.length < 8796093022208 then (spec_Periods.l0 kj19 a0 (wrap64 (t53014+1)) a2 (x7_2++[(⟨x1_2,t53014⟩:S63)]) (wrap64 (x8_2+1))) else (none)) else (some (([]:List (S63)))))))=some r:=by rw [if_pos rfl] at H;exact H
             clear H;have H:=H1;clear H1;replace H:=Option.bind_eq_some_iff.mp H;obtain ⟨t53014,A250,H⟩:=H;replace H:((spec_l2Day.f t53014).bind fun t53015=>(if t53015=true then (if x7_2.length < 8796093022208 then (spec_Periods.l0 kj19 a0 (wrap64 (t53014+1)) a2 (x7_2++[(⟨x1_2,t53014⟩:S63)]) (wrap64 (x8_2+1))) else (none)) else (some (([]:List (S63))))))=some r:=H;have A25:=Aside0.mk A250;clear A250;replace H:=Option.bind_eq_some_iff.mp H;obtain ⟨t53015,A260,H⟩:=H;replace H:(if t53015=true then (if x7_2.length < 8796093022208 then (spec_Periods.l0 kj19 a0 (wrap64 (t53014+1)) a2 (x7_2++[(⟨x1_2,t53014⟩:S63)]) (wrap64 (x8_2+1))) else (none)) else (some (([]:List (S63)))))=some r:=H;have A26:=Aside0.mk A260;clear A260;by_cases c27:t53015=true
             ·subst c27;have H1:(if x7_2.length < 8796093022208 then (spec_Periods.l0 kj19 a0 (wrap64 (t53014+1)) a2 (x7_2++[(⟨x1_2,t53014⟩:S63)]) (wrap64 (x8_2+1))) else (none))=some r:=by rw [if_pos rfl] at H;exact H
              clear H;have H:=H1;clear H1;by_cases c28:x7_2.length < 8796093022208
              ·rw [if_pos c28] at H;have LMc28:=Aside0.mk c28;clear c28;obtain ⟨y53016,hy53016⟩:∃ y_:List (S63),y_=(x7_2++[(⟨x1_2,t53014⟩:S63)]):=⟨_,rfl⟩;replace H:(spec_Periods.l0 kj19 a0 (wrap64 (t53014+1)) a2 y53016 (wrap64 (x8_2+1)))=some r:=by (rw [hy53016];with_reducible exact H)
               have Ny53016:=Aside0.mk hy53016;clear hy53016;have H':=Aside0.mk H;clear H
               go_wp2_with (first | ((with_reducible refine gate_callee (f:=31) rfl ?_);refine goesL_ (some 54) rfl rfl Tryz.func31 (by kernel_rfl) rfl #[.int .i64 x1_2] rfl (by (try simp only [List.map_toArray,List.map_cons,List.map_nil]);rfl) ?_;(with_reducible refine (spec_l2Day.calls x1_2 true _ A23.out).mono ?_);rintro e w' ⟨rfl,⟨nd,rfl⟩⟩;refine ⟨_,rfl,?_⟩) | ((with_reducible refine gate_callee (f:=73) rfl ?_);refine goesL_ (some 58) rfl rfl Tryz.func73 (by kernel_rfl) rfl #[.int .i64 x1_2] rfl (by (try simp only [List.map_toArray,List.map_cons,List.map_nil]);rfl) ?_;(with_reducible refine (spec_MonthEnd.calls kj19 x1_2 t53014 _ A25.out).mono ?_);rintro e w29 ⟨rfl,hb⟩;refine ⟨_,rfl,?_⟩;have n0_:=Aside0.mk (Kd.R_below (by (with_reducible repeat (apply Kd.R_drewN));exact HO_7.out) hb);have n1_:=Aside0.mk (below_step (by repeat ((with_reducible first | exact HB.out | apply pw_below_drewN))) hb);clear HO_7;clear HB;have HO_7:=n0_;have HB:=n1_;clear n0_ n1_;(try clear hb);(try clear hb2);(try clear hk);(try clear hi)) | ((with_reducible refine gate_callee (f:=31) rfl ?_);refine goesL_ (some 60) rfl rfl Tryz.func31 (by kernel_rfl) rfl #[.int .i64 t53014] rfl (by (try simp only [List.map_toArray,List.map_cons,List.map_nil]);rfl) ?_;(with_reducible refine (spec_l2Day.calls t53014 true _ A26.out).mono ?_);rintro e w' ⟨rfl,⟨nd,rfl⟩⟩;refine ⟨_,rfl,?_⟩) | ((with_reducible refine gate_builtin (b:=.append) (xs:=#[.tmp 63,.tmp 67]) rfl ?_);at_builtin;refine Kd.R_append k63 (w0:=w) w.heap.size rfl (.tmp 63) (.tmp 67) 30 63 (.agg #[(.int .i64 0),(.int .i64 0)]) 16 rfl Tryz.underlying30 info63 rfl (by decide) (by omega) u7 x7_2 (⟨x1_2,t53014⟩:S63) [.int .i64 x1_2,.int .i64 t53014] (fun _=>True) (fun _=>False) rfl rfl ?aP (fun _ hk=>hk.elim) ?aF ?aO ?aB ?aS ?aL ?_;(case aP=>exact k63_mkM _ _ _ (⟨x1_2,t53014⟩:S63));(case aB=>exact (by repeat ((with_reducible first | exact HB.out | apply pw_below_drewN))));(case aF=>exact (fun _ _=>trivial));(case aO=>exact (by (with_reducible repeat (apply Kd.R_drewN));exact HO_7.out));(case aS=>exact (below_size (by repeat ((with_reducible first | exact HB.out | apply pw_below_drewN)))));(case aL=>have:=LMc28.out;omega);intro v53017 w30 ho hb hg hat;rw [← Ny53016.out] at ho;have n0_:=Aside0.mk (hb);have n1_:=Aside0.mk (ho);clear HB;clear HO_7;have HB:=n0_;have HO53018:=n1_;clear n0_ n1_;clear ho hb hg hat))
               go_roundg kj19
               case measure=>have:=HJ3.out;have:=HK2.out;have:=HJ17.out;have:=HJ19.out;omega
               case rel=>exact ⟨(wrap64 (t53014+1)),(y53016),(wrap64 (x8_2+1)),(by rfl),(by rfl),H',⟨by have:=HJ3.out;have:=HK2.out;have:=HJ17.out;have:=HJ19.out;omega⟩,⟨HO53018.out⟩,⟨HB.out⟩⟩
              ·rw [if_neg c28] at H;exact absurd H (by simp)
             ·replace c27:=Bool.eq_false_iff.mpr c27;subst c27;have H1:(some (([]:List (S63))))=some r:=by rw [if_neg (show ¬ (false=true) by decide)] at H;exact H
              clear H;have H:=H1;clear H1;obtain ⟨y53019,hy53019⟩:∃ y_:List (S63),y_=(([]:List (S63))):=⟨_,rfl⟩;replace H:(some y53019)=some r:=by (rw [hy53019];with_reducible exact H)
              have Ny53019:=Aside0.mk hy53019;clear hy53019;obtain rfl:=Option.some.inj H
              go_wp2_with (first | ((with_reducible refine gate_callee (f:=31) rfl ?_);refine goesL_ (some 54) rfl rfl Tryz.func31 (by kernel_rfl) rfl #[.int .i64 x1_2] rfl (by (try simp only [List.map_toArray,List.map_cons,List.map_nil]);rfl) ?_;(with_reducible refine (spec_l2Day.calls x1_2 true _ A23.out).mono ?_);rintro e w' ⟨rfl,⟨nd,rfl⟩⟩;refine ⟨_,rfl,?_⟩) | ((with_reducible refine gate_callee (f:=73) rfl ?_);refine goesL_ (some 58) rfl rfl Tryz.func73 (by kernel_rfl) rfl #[.int .i64 x1_2] rfl (by (try simp only [List.map_toArray,List.map_cons,List.map_nil]);rfl) ?_;(with_reducible refine (spec_MonthEnd.calls kj19 x1_2 t53014 _ A25.out).mono ?_);rintro e w31 ⟨rfl,hb⟩;refine ⟨_,rfl,?_⟩;have n0_:=Aside0.mk (Kd.R_below (by (with_reducible repeat (apply Kd.R_drewN));exact HO_7.out) hb);have n1_:=Aside0.mk (below_step (by repeat ((with_reducible first | exact HB.out | apply pw_below_drewN))) hb);clear HO_7;clear HB;have HO_7:=n0_;have HB:=n1_;clear n0_ n1_;(try clear hb);(try clear hb2);(try clear hk);(try clear hi)) | ((with_reducible refine gate_callee (f:=31) rfl ?_);refine goesL_ (some 60) rfl rfl Tryz.func31 (by kernel_rfl) rfl #[.int .i64 t53014] rfl (by (try simp only [List.map_toArray,List.map_cons,List.map_nil]);rfl) ?_;(with_reducible refine (spec_l2Day.calls t53014 false _ A26.out).mono ?_);rintro e w' ⟨rfl,⟨nd,rfl⟩⟩;refine ⟨_,rfl,?_⟩) | ((with_reducible refine gate_dst (N:=62) rfl ?_);refine Kd.R_lit k63 _ 63 ?hg (N:=62) ?hd (xs:=([]:List (S63))) (inner:=[]) (ok:=fun _=>True) (okp:=fun _=>True) ?hr ?hp (fun _ hk=>hk) trivial (Below.refl _ _) (Nat.le_refl _) (by simp) ?_;(case hd=>rfl);(case hg=>rfl);(case hr=>(go_simp;done));(case hp=>exact (Reps.none _ _));intro v53020 w32 ho33 hb hg_ hnew_;clear hg_ hnew_;(rw [← Ny53019.out] at ho33);have n0_:=Aside0.mk (Kd.R_elder' (by (with_reducible repeat (apply Kd.R_drewN));exact HO_7.out) (Kd.R_base ho33) hb);have n1_:=Aside0.mk (Kd.R_lower (Kd.R_new' ho33 (Kd.R_lt (by (with_reducible repeat (apply Kd.R_drewN));exact HO_7.out))) (below_size (by repeat ((with_reducible first | exact HB.out | apply pw_below_drewN)))));have n2_:=Aside0.mk (below_step (by repeat ((with_reducible first | exact HB.out | apply pw_below_drewN))) hb);clear HO_7;clear HB;have HO_7:=n0_;have HO53021:=n1_;have HB:=n2_;clear n0_ n1_ n2_;clear hb ho33))
              go_ret
              exact ⟨_,by first | rfl | (simp [errW_none,errW_some] <;> rfl) | (simp [*,errW_none,errW_some] <;> rfl),by exact Kd.R_mono HO53021.out (fun _ hk=>trivial),by exact HB.out⟩
            ·replace c24:=Bool.eq_false_iff.mpr c24;subst c24;have H1:(some (([]:List (S63))))=some r:=by rw [if_neg (show ¬ (false=true) by decide)] at H;exact H
             clear H;have H:=H1;clear H1;obtain ⟨y53011,hy53011⟩:∃ y_:List (S63),y_=(([]:List (S63))):=⟨_,rfl⟩;replace H:(some y53011)=some r:=by (rw [hy53011];with_reducible exact H)
             have Ny53011:=Aside0.mk hy53011;clear hy53011;obtain rfl:=Option.some.inj H
             go_wp2_with (first | ((with_reducible refine gate_callee (f:=31) rfl ?_);refine goesL_ (some 54) rfl rfl Tryz.func31 (by kernel_rfl) rfl #[.int .i64 x1_2] rfl (by (try simp only [List.map_toArray,List.map_cons,List.map_nil]);rfl) ?_;(with_reducible refine (spec_l2Day.calls x1_2 false _ A23.out).mono ?_);rintro e w' ⟨rfl,⟨nd,rfl⟩⟩;refine ⟨_,rfl,?_⟩) | ((with_reducible refine gate_dst (N:=56) rfl ?_);refine Kd.R_lit k63 _ 63 ?hg (N:=56) ?hd (xs:=([]:List (S63))) (inner:=[]) (ok:=fun _=>True) (okp:=fun _=>True) ?hr ?hp (fun _ hk=>hk) trivial (Below.refl _ _) (Nat.le_refl _) (by simp) ?_;(case hd=>rfl);(case hg=>rfl);(case hr=>(go_simp;done));(case hp=>exact (Reps.none _ _));intro v53012 w34 ho35 hb hg_ hnew_;clear hg_ hnew_;(rw [← Ny53011.out] at ho35);have n0_:=Aside0.mk (Kd.R_elder' (by (with_reducible repeat (apply Kd.R_drewN));exact HO_7.out) (Kd.R_base ho35) hb);have n1_:=Aside0.mk (Kd.R_lower (Kd.R_new' ho35 (Kd.R_lt (by (with_reducible repeat (apply Kd.R_drewN));exact HO_7.out))) (below_size (by repeat ((with_reducible first | exact HB.out | apply pw_below_drewN)))));have n2_:=Aside0.mk (below_step (by repeat ((with_reducible first | exact HB.out | apply pw_below_drewN))) hb);clear HO_7;clear HB;have HO_7:=n0_;have HO53013:=n1_;have HB:=n2_;clear n0_ n1_ n2_;clear hb ho35))
             go_ret
             exact ⟨_,by first | rfl | (simp [errW_none,errW_some] <;> rfl) | (simp [*,errW_none,errW_some] <;> rfl),by exact Kd.R_mono HO53013.out (fun _ hk=>trivial),by exact HB.out⟩
           ·rw [if_neg c22] at H;have c22b0:(a0 == 1)=false:=beq_eq_false_iff_ne.mpr c22;have c22b1:(a0 != 1)=true:=bne_iff_ne.mpr c22;replace H:=Option.bind_eq_some_iff.mp H;obtain ⟨t53022,A360,H⟩:=H;replace H:(if t53022=true then (if x7_2.length < 8796093022208 then (spec_Periods.l0 kj19 a0 (wrap64 (x9_19+1)) a2 (x7_2++[(⟨x1_2,x9_19⟩:S63)]) (wrap64 (x8_2+1))) else (none)) else (some (([]:List (S63)))))=some r:=H;have A36:=Aside0.mk A360;clear A360;by_cases c37:t53022=true
            ·subst c37;have H1:(if x7_2.length < 8796093022208 then (spec_Periods.l0 kj19 a0 (wrap64 (x9_19+1)) a2 (x7_2++[(⟨x1_2,x9_19⟩:S63)]) (wrap64 (x8_2+1))) else (none))=some r:=by rw [if_pos rfl] at H;exact H
             clear H;have H:=H1;clear H1;by_cases c38:x7_2.length < 8796093022208
             ·rw [if_pos c38] at H;have LMc38:=Aside0.mk c38;clear c38;obtain ⟨y53023,hy53023⟩:∃ y_:List (S63),y_=(x7_2++[(⟨x1_2,x9_19⟩:S63)]):=⟨_,rfl⟩;replace H:(spec_Periods.l0 kj19 a0 (wrap64 (x9_19+1)) a2 y53023 (wrap64 (x8_2+1)))=some r:=by (rw [hy53023];with_reducible exact H)
              have Ny53023:=Aside0.mk hy53023;clear hy53023;have H':=Aside0.mk H;clear H
              go_wp2_with (first | ((with_reducible refine gate_callee (f:=31) rfl ?_);refine goesL_ (some 60) rfl rfl Tryz.func31 (by kernel_rfl) rfl #[.int .i64 x9_19] rfl (by (try simp only [List.map_toArray,List.map_cons,List.map_nil]);rfl) ?_;(with_reducible refine (spec_l2Day.calls x9_19 true _ A36.out).mono ?_);rintro e w' ⟨rfl,⟨nd,rfl⟩⟩;refine ⟨_,rfl,?_⟩) | ((with_reducible refine gate_builtin (b:=.append) (xs:=#[.tmp 63,.tmp 67]) rfl ?_);at_builtin;refine Kd.R_append k63 (w0:=w) w.heap.size rfl (.tmp 63) (.tmp 67) 30 63 (.agg #[(.int .i64 0),(.int .i64 0)]) 16 rfl Tryz.underlying30 info63 rfl (by decide) (by omega) u7 x7_2 (⟨x1_2,x9_19⟩:S63) [.int .i64 x1_2,.int .i64 x9_19] (fun _=>True) (fun _=>False) rfl rfl ?aP (fun _ hk=>hk.elim) ?aF ?aO ?aB ?aS ?aL ?_;(case aP=>exact k63_mkM _ _ _ (⟨x1_2,x9_19⟩:S63));(case aB=>exact (by repeat ((with_reducible first | exact HB.out | apply pw_below_drewN))));(case aF=>exact (fun _ _=>trivial));(case aO=>exact (by (with_reducible repeat (apply Kd.R_drewN));exact HO_7.out));(case aS=>exact (below_size (by repeat ((with_reducible first | exact HB.out | apply pw_below_drewN)))));(case aL=>have:=LMc38.out;omega);intro v53024 w39 ho hb hg hat;rw [← Ny53023.out] at ho;have n0_:=Aside0.mk (hb);have n1_:=Aside0.mk (ho);clear HB;clear HO_7;have HB:=n0_;have HO53025:=n1_;clear n0_ n1_;clear ho hb hg hat))
              go_roundg kj19
              case measure=>have:=HJ3.out;have:=HK2.out;have:=HJ17.out;have:=HJ19.out;omega
              case rel=>exact ⟨(wrap64 (x9_19+1)),(y53023),(wrap64 (x8_2+1)),(by rfl),(by rfl),H',⟨by have:=HJ3.out;have:=HK2.out;have:=HJ17.out;have:=HJ19.out;omega⟩,⟨HO53025.out⟩,⟨HB.out⟩⟩
             ·rw [if_neg c38] at H;exact absurd H (by simp)
            ·replace c37:=Bool.eq_false_iff.mpr c37;subst c37;have H1:(some (([]:List (S63))))=some r:=by rw [if_neg (show ¬ (false=true) by decide)] at H;exact H
             clear H;have H:=H1;clear H1;obtain ⟨y53026,hy53026⟩:∃ y_:List (S63),y_=(([]:List (S63))):=⟨_,rfl⟩;replace H:(some y53026)=some r:=by (rw [hy53026];with_reducible exact H)
             have Ny53026:=Aside0.mk hy53026;clear hy53026;obtain rfl:=Option.some.inj H
             go_wp2_with (first | ((with_reducible refine gate_callee (f:=31) rfl ?_);refine goesL_ (some 60) rfl rfl Tryz.func31 (by kernel_rfl) rfl #[.int .i64 x9_19] rfl (by (try simp only [List.map_toArray,List.map_cons,List.map_nil]);rfl) ?_;(with_reducible refine (spec_l2Day.calls x9_19 false _ A36.out).mono ?_);rintro e w' ⟨rfl,⟨nd,rfl⟩⟩;refine ⟨_,rfl,?_⟩) | ((with_reducible refine gate_dst (N:=62) rfl ?_);refine Kd.R_lit k63 _ 63 ?hg (N:=62) ?hd (xs:=([]:List (S63))) (inner:=[]) (ok:=fun _=>True) (okp:=fun _=>True) ?hr ?hp (fun _ hk=>hk) trivial (Below.refl _ _) (Nat.le_refl _) (by simp) ?_;(case hd=>rfl);(case hg=>rfl);(case hr=>(go_simp;done));(case hp=>exact (Reps.none _ _));intro v53027 w40 ho41 hb hg_ hnew_;clear hg_ hnew_;(rw [← Ny53026.out] at ho41);have n0_:=Aside0.mk (Kd.R_elder' (by (with_reducible repeat (apply Kd.R_drewN));exact HO_7.out) (Kd.R_base ho41) hb);have n1_:=Aside0.mk (Kd.R_lower (Kd.R_new' ho41 (Kd.R_lt (by (with_reducible repeat (apply Kd.R_drewN));exact HO_7.out))) (below_size (by repeat ((with_reducible first | exact HB.out | apply pw_below_drewN)))));have n2_:=Aside0.mk (below_step (by repeat ((with_reducible first | exact HB.out | apply pw_below_drewN))) hb);clear HO_7;clear HB;have HO_7:=n0_;have HO53028:=n1_;have HB:=n2_;clear n0_ n1_ n2_;clear hb ho41))
             go_ret
             exact ⟨_,by first | rfl | (simp [errW_none,errW_some] <;> rfl) | (simp [*,errW_none,errW_some] <;> rfl),by exact Kd.R_mono HO53028.out (fun _ hk=>trivial),by exact HB.out⟩
      ·rw [if_neg c17] at H;have c17b0:decide (x8_2 < a2)=false:=decide_eq_false c17;clear c17;obtain rfl:=Option.some.inj H
       go_wp2
       go_ret
       exact ⟨_,by first | rfl | (simp [errW_none,errW_some] <;> rfl) | (simp [*,errW_none,errW_some] <;> rfl),by exact HO_7.out,by exact HB.out⟩
end Go.Proofs.YtnknanppoenigaaGreatDoor.Q
namespace Go.Proofs.YtnknanppoenigaaGreatDoor.Q
open Go.RowKit Go.Proofs.YtnknanppoenigaaGreatDoorW.PrintWords Go.Proofs.YtnknanppoenigaaGreatDoorW.PrintLast Go.Proofs.YtnknanppoenigaaGreatDoorW.PrintMore
attribute [local go_sem] max2_int min2_int max_two min_two max_three min_three max_four min_four
set_option linter.unusedVariables false
set_option linter.unusedSimpArgs false
open Classical in
noncomputable def textB (s:ByteArray):Bool:=decide (textUpto s s.size∧s.size≤40)
open Classical in
theorem textB_iff {s:ByteArray}:textB s=true ↔ textUpto s s.size∧s.size≤40:=by unfold textB;rw [decide_eq_true_eq]
theorem textB_not {s:ByteArray} (h:¬ (textUpto s s.size∧s.size≤40)):false=textB s:=by
 cases hb:textB s with
 | false=>rfl
 | true=>exact absurd (textB_iff.1 hb) h
set_option maxHeartbeats 4000000 in
set_option maxRecDepth 100000 in
theorem spec_l5TextOk.to (s:ByteArray) (w:World) (hm:s.size≤maxLen):Calls Tryz.prog 66 #[.string s] w fun x w'=>x = .returned (.bool (textB s))∧w'=w:=by
 have hm':(s.size:Int)≤9223372036854775807:=by unfold maxLen at hm;omega
 go_enter Tryz.func66,Tryz.ntmps66
 go_wp2_with fail
 go_loop [3] (fun v=>∃ i:Int,0≤i∧i≤(s.size:Int)∧v = .int .i64 i∧Aside0 (textUpto s i)) (fun v=>(s.size - (intOf v).toNat))
 case atStart=>exact ⟨0,by omega,by omega,rfl,⟨fun j h0 h1=>by omega⟩⟩
 case round =>
  obtain ⟨i,hi0,hi1,rfl,HT⟩:=hrel;by_cases hlt:i < (s.size:Int)
  ·have hx:=bt_at s i;by_cases hb:32≤bt s i
   ·have HB:=Aside0.mk (textUpto_step hi0 HT.out hb)
    go_wp2_with fail
    go_round
    case rel=>exact ⟨i+1,by omega,by omega,rfl,HB⟩
    case measure=>simp [intOf];omega
   ·have HB:=Aside0.mk (textB_not (fun q=>hb (q.1 i hi0 hlt)))
    go_wp2_with fail
    go_ret
    exact ⟨ret_bool HB.out,rfl⟩
  ·have HTX:=Aside0.mk (show textUpto s s.size from fun j h0 h1=>HT.out j h0 (by omega));clear HT;by_cases h4:s.size≤40
   ·have h4':(s.size:Int)≤40:=by omega
    go_wp2_with fail
    go_ret
    exact ⟨ret_bool (by rw [textB_iff.2 ⟨HTX.out,h4⟩]),rfl⟩
   ·go_wp2_with fail
    go_ret
    exact ⟨ret_bool (by rw [← textB_not (fun q=>h4 q.2)];simp;omega),rfl⟩
open Classical in
noncomputable def lineB (chart:List Acc) (dims curs:Int) (x:Lin):Bool:=decide (lineP chart dims curs x)
open Classical in
theorem lineB_true {chart:List Acc} {dims curs:Int} {x:Lin}:lineB chart dims curs x=true ↔ lineP chart dims curs x:=by unfold lineB;rw [decide_eq_true_eq]
theorem lineB_not {chart:List Acc} {dims curs:Int} {x:Lin} (h:¬ lineP chart dims curs x):false=lineB chart dims curs x:=by
 cases hb:lineB chart dims curs x with
 | false=>rfl
 | true=>exact absurd (lineB_true.1 hb) h
set_option maxHeartbeats 4000000 in
set_option maxRecDepth 100000 in
theorem spec_l5LineOk.to (A0:Option Addr) (c0:Nat) (l0:List Acc) (dims curs:Int) (x:Lin) (w:World) (hr0:Kd.C k48 w A0 l0.length l0) (hs:∀ x∈l0,x.f0.size≤maxLen) (hch:chartOk l0=true) (hd:1≤dims∧dims≤20) (hc:1≤curs∧curs≤20) :
 Calls Tryz.prog 67 #[.agg #[.slice A0 l0.length c0,.int .i64 dims,.int .i64 curs],.agg #[.int .i64 x.f0,.int .i64 x.f1,.int .i64 x.f2,.int .i64 x.f3,.int .i64 x.f4]] w fun e w'=>e = .returned (.bool (lineB l0 dims curs x))∧Below w.heap.size w w':=by
 have hl:=hr0.2.1;have hlen:=(chartOk_iff.1 hch).2.1;have H0:=Aside0.mk (Kd.C_below hr0 (below_two w (.cells #[.slice A0 l0.length c0,.int .i64 dims,.int .i64 curs] 26) (.cells #[.int .i64 x.f0,.int .i64 x.f1,.int .i64 x.f2,.int .i64 x.f3,.int .i64 x.f4] 67)));have HS:=Aside0.mk hs;have HCH:=Aside0.mk hch;obtain ⟨hd0,hd1⟩:=hd;obtain ⟨hc0,hc1⟩:=hc;clear hr0 hs hch
 go_enter Tryz.func67,Tryz.ntmps67
 go_wp2_with fail
 refine (spec_l1In.to _ _ _ _).mono ?_;rintro e w' ⟨rfl,rfl⟩;cases h1:inB x.f0 0 ((l0.length:Int) - 1) with
 | false =>
  have HN:=Aside0.mk (lineB_not (fun q=>inB_false.1 h1 ⟨q.1.1,by have:=q.1.2.1;omega⟩):false=lineB l0 dims curs x);clear h1
  go_wp2_with fail
  go_ret
  exact ⟨ret_bool HN.out,below_two _ _ _⟩
 | true =>
  clear h1
  go_wp2_with fail
  refine (spec_Leaf.to A0 c0 l0 x.f0 _ H0.out HS.out).mono ?_;rintro e w1 ⟨rfl,hb⟩;have HB:=Aside0.mk (below_into (w:=w) hb (below_two _ _ _));have f1:w1.cell? ⟨w.heap.size,1,none⟩=some (.int .i64 dims):=y01 hb (by go_simp);have f2:w1.cell? ⟨w.heap.size,2,none⟩=some (.int .i64 curs):=y01 hb (by go_simp);have x1:w1.cell? ⟨w.heap.size+1,1,none⟩=some (.int .i64 x.f1):=y01 hb (by go_simp);have x2:w1.cell? ⟨w.heap.size+1,2,none⟩=some (.int .i64 x.f2):=y01 hb (by go_simp);have x3:w1.cell? ⟨w.heap.size+1,3,none⟩=some (.int .i64 x.f3):=y01 hb (by go_simp);have x4:w1.cell? ⟨w.heap.size+1,4,none⟩=some (.int .i64 x.f4):=y01 hb (by go_simp);clear hb;rw [HCH.out,Bool.true_and];cases h2:leafB l0 x.f0 with
  | false =>
   have HN:=Aside0.mk (lineB_not (fun q=>by have:=leafB_of q.1;rw [h2] at this;cases this):false=lineB l0 dims curs x);clear h2
   go_wp2_with fail
   go_ret
   exact ⟨ret_bool HN.out,HB.out⟩
  | true =>
   have HLF:=Aside0.mk (leafB_true.1 h2);clear h2
   go_wp2_with fail
   refine (spec_l1In.to _ _ _ _).mono ?_;rintro e w' ⟨rfl,rfl⟩;cases h3:inB x.f1 0 (dims - 1) with
   | false =>
    have HN:=Aside0.mk (lineB_not (fun q=>inB_false.1 h3 q.2.1):false=lineB l0 dims curs x);clear h3
    go_wp2_with fail
    go_ret
    exact ⟨ret_bool HN.out,HB.out⟩
   | true =>
    have HDM:=Aside0.mk (inB_true.1 h3);clear h3
    go_wp2_with fail
    refine (spec_l1In.to _ _ _ _).mono ?_;rintro e w' ⟨rfl,rfl⟩;cases h4:inB x.f2 0 (curs - 1) with
    | false =>
     have HN:=Aside0.mk (lineB_not (fun q=>inB_false.1 h4 q.2.2.1):false=lineB l0 dims curs x);clear h4
     go_wp2_with fail
     go_ret
     exact ⟨ret_bool HN.out,HB.out⟩
    | true =>
     have HCR:=Aside0.mk (inB_true.1 h4);clear h4
     go_wp2_with fail
     refine (spec_l1Amount.to _ _).mono ?_;rintro e w' ⟨rfl,rfl⟩;cases h5:inB x.f3 (-100000000000) 100000000000 with
     | false =>
      have HN:=Aside0.mk (lineB_not (fun q=>inB_false.1 h5 q.2.2.2.1):false=lineB l0 dims curs x);clear h5
      go_wp2_with fail
      go_ret
      exact ⟨ret_bool HN.out,HB.out⟩
     | true =>
      have HAM:=Aside0.mk (inB_true.1 h5);clear h5
      go_wp2_with fail
      refine (spec_l1Amount.to _ _).mono ?_;rintro e w' ⟨rfl,rfl⟩;cases h6:inB x.f4 (-100000000000) 100000000000 with
      | false =>
       have HN:=Aside0.mk (lineB_not (fun q=>inB_false.1 h6 q.2.2.2.2.1):false=lineB l0 dims curs x);clear h6
       go_wp2_with fail
       go_ret
       exact ⟨ret_bool HN.out,HB.out⟩
      | true =>
       have HBS:=Aside0.mk (inB_true.1 h6);clear h6;by_cases h7:x.f2=0
       ·have h7b:(x.f2 != 0)=false:=by rw [h7];rfl
        by_cases h8:x.f3=x.f4
        ·have HY:=Aside0.mk (lineB_true.2 (show lineP l0 dims curs x from ⟨HLF.out,HDM.out,HCR.out,HAM.out,HBS.out,fun _=>h8⟩));have h8b:(x.f3 == x.f4)=true:=beq_iff_eq.2 h8;clear h7 h8
         go_wp2_with fail
         go_ret
         exact ⟨ret_bool HY.out.symm,HB.out⟩
        ·have HN:=Aside0.mk (lineB_not (fun q=>h8 (q.2.2.2.2.2 h7)):false=lineB l0 dims curs x);have h8b:(x.f3 == x.f4)=false:=beq_eq_false_iff_ne.2 h8;clear h7 h8
         go_wp2_with fail
         go_ret
         exact ⟨ret_bool HN.out,HB.out⟩
       ·have HY:=Aside0.mk (lineB_true.2 (show lineP l0 dims curs x from ⟨HLF.out,HDM.out,HCR.out,HAM.out,HBS.out,fun q=>absurd q h7⟩));have h7b:(x.f2 != 0)=true:=bne_iff_ne.2 h7;clear h7
        go_wp2_with fail
        go_ret
        exact ⟨ret_bool HY.out.symm,HB.out⟩
set_option maxHeartbeats 4000000 in
set_option maxRecDepth 100000 in
theorem impl_FrameOk.to (A0:Option Addr) (c0:Nat) (l0:List Acc) (dims curs:Int) (w:World) (hr0:Kd.C k48 w A0 l0.length l0) (hs:∀ x∈l0,x.f0.size≤maxLen) :
 Calls Tryz.prog 57 #[.agg #[.slice A0 l0.length c0,.int .i64 dims,.int .i64 curs]] w fun e w'=>e = .returned (.bool (frameB l0 dims curs))∧Below w.heap.size w w':=by
 have H0:=Aside0.mk hr0;clear hr0;unfold frameB
 go_enter Tryz.func57,Tryz.ntmps57
 go_wp2_with fail
 refine (impl_between.to dims _ _ _).mono ?_;rintro e w5 ⟨rfl,rfl⟩;cases hinB:inB dims 1 20 with
 | false =>
  go_wp2_with fail
  go_ret
  exact ⟨ret_bool (by simp [hinB]),below_alloc (Below.refl _ _) _⟩
 | true =>
  go_wp2_with fail
  refine (impl_between.to curs _ _ _).mono ?_;rintro e w6 ⟨rfl,rfl⟩;cases hinC:inB curs 1 20 with
  | false =>
   go_wp2_with fail
   go_ret
   exact ⟨ret_bool (by simp [hinB,hinC]),below_alloc (Below.refl _ _) _⟩
  | true =>
   go_wp2_with fail
   refine (impl_ChartOk.to A0 c0 l0 _ (Kd.C_below H0.out (below_alloc (Below.refl _ _) _)) hs).mono ?_;rintro e w1 ⟨rfl,hb⟩;have HB:=Aside0.mk (below_into (w:=w) hb (below_alloc (Below.refl _ _) _));have s0:w1.cell? ⟨w.heap.size,0,none⟩=some (.slice A0 l0.length c0):=y01 hb (by go_simp);have s1:w1.cell? ⟨w.heap.size,1,none⟩=some (.int .i64 dims):=y01 hb (by go_simp);have s2:w1.cell? ⟨w.heap.size,2,none⟩=some (.int .i64 curs):=y01 hb (by go_simp);clear hb;cases hch:chartOk l0 with
   | false =>
    go_wp2_with fail
    go_ret
    exact ⟨ret_bool (by simp [hinB,hinC,hch]),HB.out⟩
   | true =>
    go_wp2_with fail
    go_ret
    exact ⟨ret_bool (by simp [hinB,hinC,hch]),HB.out⟩
open Classical in
noncomputable def impl_FrameOk.f (l0:List Acc) (dims curs:Int):Option Bool:=if (∀ x∈l0,x.f0.size≤maxLen) then some (frameB l0 dims curs) else none
theorem impl_FrameOk.calls (A0:Option Addr) (c0:Nat) (l0:List Acc) (dims curs:Int) (r:Bool) (w:World) (hr0:Kd.C k48 w A0 l0.length l0) (hc0:l0.length≤c0) (hf:impl_FrameOk.f l0 dims curs=some r) :
 Calls Tryz.prog 57 #[.agg #[.slice A0 l0.length c0,.int .i64 dims,.int .i64 curs]] w fun e w'=>e = .returned (.bool r)∧Below w.heap.size w w':=by
 unfold impl_FrameOk.f at hf
 split at hf
 ·rename_i q
  cases hf;exact impl_FrameOk.to A0 c0 l0 dims curs w hr0 q
 ·cases hf
def linkStep (s:Int × Bool) (x:Int):Int × Bool:=if -549755813888≤x∧x≤549755813887 then ((s.1 * 1000003+x+549755813888) % 1099511627791,s.2) else (s.1,true)
def linkAll (s:Int × Bool) (xs:List Int):Int × Bool:=xs.foldl linkStep s
def HeadIn (s:Int × Bool):Prop:=0≤s.1∧s.1 < 1099511627791
theorem linkStep_in {s:Int × Bool} (h:HeadIn s) (x:Int):HeadIn (linkStep s x):=by
 unfold linkStep HeadIn at *
 split
 ·exact ⟨Int.emod_nonneg _ (by omega),Int.emod_lt_of_pos _ (by omega)⟩
 ·exact h
theorem linkAll_in {s:Int × Bool} (h:HeadIn s) (xs:List Int):HeadIn (linkAll s xs):=by
 induction xs generalizing s with
 | nil=>exact h
 | cons x xs ih=>exact ih (linkStep_in h x)
theorem linkAll_append (s:Int × Bool) (xs ys:List Int):linkAll s (xs++ys)=linkAll (linkAll s xs) ys:=List.foldl_append
theorem linkAll_cons (s:Int × Bool) (x:Int) (xs:List Int):linkAll s (x :: xs)=linkAll (linkStep s x) xs:=rfl
def ChainAt (w:World) (g:Nat) (s:Int × Bool):Prop:=w.heap[g]?=some (.cells #[.int .i64 s.1,.bool s.2] 89 (0,0))
structure LinkPost (w0 w:World) (g:Nat) (s:Int × Bool) (w':World):Prop where
 at_:ChainAt w' g s
 bel:Below w0.heap.size w0 w'
 keep:KeepBut w w' g none
theorem LinkPost.refl {w0 w:World} {g:Nat} {s:Int × Bool} (h:ChainAt w g s) (hB:Below w0.heap.size w0 w):LinkPost w0 w g s w:=⟨h,hB,KeepBut.refl w g none⟩
theorem LinkPost.trans {w0 w w1 w2:World} {g:Nat} {s t:Int × Bool} (h:LinkPost w0 w g s w1) (h2:LinkPost w0 w1 g t w2):LinkPost w0 w g t w2:=⟨h2.at_,h2.bel,KeepBut.trans h.keep h2.keep (.inl rfl)⟩
set_option maxHeartbeats 8000000 in
set_option maxRecDepth 100000 in
theorem chain_link_calls (g:Nat) (s:Int × Bool) (x:Int) (w0 w:World) (hc:ChainAt w g s) (hs:HeadIn s) (hge:w0.heap.size≤g) (hB:Below w0.heap.size w0 w) :
 Calls Tryz.prog 46 #[.pointer (some ⟨g,0,none⟩),.int .i64 x] w fun e w'=>e = .returned (.tuple #[])∧LinkPost w0 w g (linkStep s x) w':=by
 obtain ⟨h0,h1⟩:=hs;have HC:=Aside0.mk hc;have HB:=Aside0.mk hB;unfold ChainAt at hc;have c0:w.cell? ⟨g,0,none⟩=some (.int .i64 s.1):=y00 hc 0;have c1:w.cell? ⟨g,1,none⟩=some (.bool s.2):=y00 hc 1;have f0:=y02 hc 0;have f1:=y02 hc 1;clear hc hB;by_cases hx:-549755813888≤x∧x≤549755813887
 ·have hb:=inB_of hx;have hst:linkStep s x=((s.1 * 1000003+x+549755813888) % 1099511627791,s.2):=if_pos hx;have htm:(s.1 * 1000003+x+549755813888).tmod 1099511627791=(s.1 * 1000003+x+549755813888) % 1099511627791:=Int.tmod_eq_emod_of_nonneg (by omega);have HST:=Aside0.mk hst;have HTM:=Aside0.mk htm;clear hst htm;obtain ⟨hx0,hx1⟩:=hx
  go_enter Tryz.func46,Tryz.ntmps46
  go_wp2_with fail
  refine (impl_between.to _ _ _ _).mono ?_;rintro e w' ⟨rfl,rfl⟩;rw [hb]
  go_wp2_with fail
  go_end0
  refine ⟨rfl,?_⟩;rw [HST.out];exact ⟨blk_set HC.out 0 _,below_set HB.out hge,KeepBut.set_ (KeepBut.refl _ _ _) _ _⟩
 ·have hb:=inB_not hx;have hst:linkStep s x=(s.1,true):=if_neg hx;have HST:=Aside0.mk hst;clear hst
  go_enter Tryz.func46,Tryz.ntmps46
  go_wp2_with fail
  refine (impl_between.to _ _ _ _).mono ?_;rintro e w' ⟨rfl,rfl⟩;rw [hb]
  go_wp2_with fail
  (try simp only [Exit.inBlock,Exit.then]);refine bodyPost_ret (results_none rfl _ _ _) rfl ?_;refine ⟨rfl,?_⟩;rw [HST.out];exact ⟨blk_set HC.out 1 _,below_set HB.out hge,KeepBut.set_ (KeepBut.refl _ _ _) _ _⟩
def lineNums (x:Lin):List Int:=[x.f0,x.f1,x.f2,x.f3,x.f4]
def bytesN (s:ByteArray):Nat→List Int
 | 0=>[]
 | n+1=>bytesN s n++[bt s n]
def numsOf (e:Ent):List Int:=[e.f0,e.f1,(e.f2.size:Int)]++bytesN e.f2 e.f2.size++[(e.f3.length:Int)]++e.f3.flatMap lineNums
theorem link_bytes (s:Int × Bool) (xs:List Int) (t:ByteArray) {i:Int} (h0:0≤i):linkStep (linkAll s (xs++bytesN t i.toNat)) (bt t i)=linkAll s (xs++bytesN t (i+1).toNat):=by
 rw [show (i+1).toNat=i.toNat+1 by omega];show _=linkAll s (xs++(bytesN t i.toNat++[bt t (i.toNat:Int)]));rw [← List.append_assoc,linkAll_append s (xs++_),show ((i.toNat:Nat):Int)=i by omega];rfl
theorem link_lines (s:Int × Bool) (xs:List Int) {l:List Lin} {i:Int} (h0:0≤i) (h1:i < (l.length:Int)):linkStep (linkStep (linkStep (linkStep (linkStep (linkAll s (xs++(l.take i.toNat).flatMap lineNums)) (rd_T67 l i).f0) (rd_T67 l i).f1) (rd_T67 l i).f2) (rd_T67 l i).f3) (rd_T67 l i).f4=linkAll s (xs++(l.take (i+1).toNat).flatMap lineNums):=by
 rw [take_snoc h0 h1,List.flatMap_append,← List.append_assoc,linkAll_append s (xs++_)];rfl
def entO (e:Ent) (A3:Option Addr) (c3:Nat):Obj:=.cells #[.int .i64 e.f0,.int .i64 e.f1,.string e.f2,.slice A3 e.f3.length c3] 41 (0,0)
theorem LinkPost.box {w0 w w':World} {g:Nat} {s:Int × Bool} {e:Ent} {A3:Option Addr} {c3:Nat} (h:LinkPost w0 (w.alloc (entO e A3 c3)) g s w') (hg:g < w.heap.size):w'.heap[w.heap.size]?=some (.cells #[.int .i64 e.f0,.int .i64 e.f1,.string e.f2,.slice A3 e.f3.length c3] 41 (0,0)):=h.keep.blk (blk_new _ _) (by omega) (by simp)
theorem LinkPost.alloc {w0 w w1:World} {g:Nat} {s:Int × Bool} (h:LinkPost w0 w g s w1) (o:Obj):LinkPost w0 w g s (w1.alloc o):=⟨blk_alloc h.at_ _,below_alloc h.bel _,keep_alloc h.keep _⟩
set_option maxHeartbeats 8000000 in
set_option maxRecDepth 100000 in
theorem impl_numbersOf.to (g:Nat) (s:Int × Bool) (e:Ent) (A3:Option Addr) (c3:Nat) (w0 w:World) (hc:ChainAt w g s) (hs:HeadIn s) (hge:w0.heap.size≤g) (hB:Below w0.heap.size w0 w) (hr3:Kd.C k67 w0 A3 e.f3.length e.f3) (hm:e.f2.size≤40) :
 Calls Tryz.prog 45 #[.agg #[.int .i64 e.f0,.int .i64 e.f1,.string e.f2,.slice A3 e.f3.length c3],.func (.func 46) #[.pointer (some ⟨g,0,none⟩)] #[]] w fun x w'=>x = .returned (.tuple #[])∧LinkPost w0 w g (linkAll s (numsOf e)) w':=by
 have hgw:g < w.heap.size:=blk_lt hc;have HP:=Aside0.mk (show LinkPost w0 (w.alloc (entO e A3 c3)) g s (w.alloc (entO e A3 c3)) from LinkPost.refl (blk_alloc hc _) (by exact hB.alloc (by have:=hB.size;omega) _));have H3:=Aside0.mk hr3;have HS:=Aside0.mk hs;have HS0:=Aside0.mk hs;have hlen:=hr3.2.1;clear hc hB hr3 hs
 go_enter Tryz.func45,Tryz.ntmps45
 go_wp2_with fail
 refine (chain_link_calls g _ _ w0 _ HP.out.at_ HS.out hge HP.out.bel).mono ?_;rintro x w1 ⟨rfl,P1⟩;have P1:=Aside0.mk (HP.out.trans P1);have HS1:=Aside0.mk (linkStep_in HS.out e.f0);have y1:=y00 (P1.out.box hgw) 1;have HS1:=Aside0.mk (linkStep_in HS.out e.f0);clear HP HS
 go_wp2_with fail
 refine (chain_link_calls g _ _ w0 _ P1.out.at_ HS1.out hge P1.out.bel).mono ?_;rintro x w2 ⟨rfl,P2⟩;have P2:=Aside0.mk (P1.out.trans P2);have HS2:=Aside0.mk (linkStep_in HS1.out e.f1);have y2:=y00 (P2.out.box hgw) 2;clear P1 HS1 y1
 go_wp2_with fail
 refine (chain_link_calls g _ _ w0 _ P2.out.at_ HS2.out hge P2.out.bel).mono ?_;rintro x w3 ⟨rfl,P3⟩;have P3:=Aside0.mk (show LinkPost w0 (w.alloc (entO e A3 c3)) g (linkAll s ([e.f0,e.f1,(e.f2.size:Int)]++bytesN e.f2 (0:Int).toNat)) w3 from P2.out.trans P3);clear P2 HS2 y2
 go_wp2_with fail
 go_loopw [4] (fun v wr=>∃ i:Int,0≤i∧i≤(e.f2.size:Int)∧v = .int .i64 i∧Aside0 (LinkPost w0 (w.alloc (entO e A3 c3)) g (linkAll s ([e.f0,e.f1,(e.f2.size:Int)]++bytesN e.f2 i.toNat)) wr)) (fun v _=>(e.f2.size - (intOf v).toNat))
 case atStart=>exact ⟨0,by omega,by omega,rfl,P3⟩
 case round =>
  clear P3;obtain ⟨i,hi0,hi1,rfl,HP⟩:=hrel;have z2:=y00 (HP.out.box hgw) 2;have z3:=y00 (HP.out.box hgw) 3;by_cases hlt:i < (e.f2.size:Int)
  ·have hx:=bt_at e.f2 i;obtain ⟨hb0,hb1⟩:=bt_range e.f2 i
   go_wp2_with fail
   refine (chain_link_calls g _ _ w0 _ HP.out.at_ (linkAll_in HS0.out _) hge HP.out.bel).mono ?_;rintro x w4 ⟨rfl,P4⟩;have P4:=Aside0.mk (HP.out.trans P4)
   go_wp2_with fail
   go_roundw
   case rel=>exact ⟨i+1,by omega,by omega,rfl,⟨by have:=P4.out;rw [link_bytes _ _ _ hi0] at this;exact this⟩⟩
   case measure=>simp [intOf];omega
  ·obtain rfl:i=(e.f2.size:Int):=by omega
   go_wp2_with fail
   refine (chain_link_calls g _ _ w0 _ HP.out.at_ (linkAll_in HS0.out _) hge HP.out.bel).mono ?_;rintro x w5 ⟨rfl,P5⟩
   have P5:=Aside0.mk (show LinkPost w0 (w.alloc (entO e A3 c3)) g (linkAll s ([e.f0,e.f1,(e.f2.size:Int)]++bytesN e.f2 e.f2.size++[(e.f3.length:Int)]++(e.f3.take (0:Int).toNat).flatMap lineNums)) w5 from by
    have:=HP.out.trans P5;rw [show e.f3.take (0:Int).toNat=[] from rfl,List.flatMap_nil,List.append_nil,linkAll_append s (_++_)]
    exact this)
   have y3:=y00 (P5.out.box hgw) 3;clear HP z2 z3
   go_wp2_with fail
   go_loopw [42] (fun v wr=>∃ i:Int,0≤i∧i≤(e.f3.length:Int)∧v = .int .i64 i∧Aside0 (LinkPost w0 (w.alloc (entO e A3 c3)) g (linkAll s ([e.f0,e.f1,(e.f2.size:Int)]++bytesN e.f2 e.f2.size++[(e.f3.length:Int)]++(e.f3.take i.toNat).flatMap lineNums)) wr)) (fun v _=>(e.f3.length - (intOf v).toNat))
   case atStart=>exact ⟨0,by omega,by omega,rfl,P5⟩
   case round =>
    clear P5 y3;obtain ⟨j,hj0,hj1,rfl,HP⟩:=hrel;by_cases hlt:j < (e.f3.length:Int)
    ·obtain ⟨ad,e0,x0,x1,x2,x3,x4⟩:=at_T67 (Kd.C_below H3.out HP.out.bel) j hj0 hlt;cases e0;have hgr:g < wr.heap.size:=blk_lt HP.out.at_;have Q:=Aside0.mk (HP.out.alloc (lineO (rd_T67 e.f3 j)));have T0:=Aside0.mk (linkAll_in HS0.out ([e.f0,e.f1,(e.f2.size:Int)]++bytesN e.f2 e.f2.size++[(e.f3.length:Int)]++(e.f3.take j.toNat).flatMap lineNums));clear HP
     go_wp2_with fail
     refine (chain_link_calls g _ _ w0 _ Q.out.at_ T0.out hge Q.out.bel).mono ?_;rintro x w6 ⟨rfl,R0⟩;have N0:=Aside0.mk (R0.keep.blk (blk_new wr (lineO (rd_T67 e.f3 j))) (by omega) (by simp));have Q0:=Aside0.mk (Q.out.trans R0);have T1:=Aside0.mk (linkStep_in T0.out (rd_T67 e.f3 j).f0);have u1:=y00 N0.out 1;clear Q T0 R0
     go_wp2_with fail
     refine (chain_link_calls g _ _ w0 _ Q0.out.at_ T1.out hge Q0.out.bel).mono ?_;rintro x w7 ⟨rfl,R1⟩;have N1:=Aside0.mk (R1.keep.blk (N0.out) (by omega) (by simp));have Q1:=Aside0.mk (Q0.out.trans R1);have T2:=Aside0.mk (linkStep_in T1.out (rd_T67 e.f3 j).f1);have u2:=y00 N1.out 2;clear Q0 T1 R1 u1
     go_wp2_with fail
     refine (chain_link_calls g _ _ w0 _ Q1.out.at_ T2.out hge Q1.out.bel).mono ?_;rintro x w8 ⟨rfl,R2⟩;have N2:=Aside0.mk (R2.keep.blk (N1.out) (by omega) (by simp));have Q2:=Aside0.mk (Q1.out.trans R2);have T3:=Aside0.mk (linkStep_in T2.out (rd_T67 e.f3 j).f2);have u3:=y00 N2.out 3;clear Q1 T2 R2 u2
     go_wp2_with fail
     refine (chain_link_calls g _ _ w0 _ Q2.out.at_ T3.out hge Q2.out.bel).mono ?_;rintro x w9 ⟨rfl,R3⟩;have N3:=Aside0.mk (R3.keep.blk (N2.out) (by omega) (by simp));have Q3:=Aside0.mk (Q2.out.trans R3);have T4:=Aside0.mk (linkStep_in T3.out (rd_T67 e.f3 j).f3);have u4:=y00 N3.out 4;clear Q2 T3 R3 u3
     go_wp2_with fail
     refine (chain_link_calls g _ _ w0 _ Q3.out.at_ T4.out hge Q3.out.bel).mono ?_;rintro x w10 ⟨rfl,R4⟩;have N4:=Aside0.mk (R4.keep.blk (N3.out) (by omega) (by simp));have Q4:=Aside0.mk (Q3.out.trans R4)
     go_wp2_with fail
     go_roundw
     case rel=>exact ⟨j+1,by omega,by omega,rfl,⟨by have:=Q4.out;rw [link_lines _ _ hj0 hlt] at this;exact this⟩⟩
     case measure=>simp [intOf];omega
    ·obtain rfl:j=(e.f3.length:Int):=by omega
     have HE:=Aside0.mk (show LinkPost w0 w g (linkAll s (numsOf e)) wr from by
      have h:=HP.out;rw [List.take_of_length_le (by omega)] at h
      exact ⟨h.at_,h.bel,KeepBut.trans (keep_alloc (KeepBut.refl _ _ _) _) h.keep (.inl rfl)⟩)
     go_wp2_with fail
     go_end0
     exact ⟨rfl,HE.out⟩
def tooLong (e:Ent):Prop:=60 < e.f3.length∨40 < e.f2.size
open Classical in
noncomputable def headV (l:List Ent):Int :=
 if 1000 < l.length∨∃ e∈l,tooLong e then 0 else if (linkAll (1,false) (l.flatMap numsOf)).2=true then 0 else (linkAll (1,false) (l.flatMap numsOf)).1
theorem headV_long {l:List Ent} (h:1000 < l.length∨∃ e∈l,tooLong e):headV l=0:=if_pos h
theorem headV_bad {l:List Ent} (h:¬ (1000 < l.length∨∃ e∈l,tooLong e)) (hb:(linkAll (1,false) (l.flatMap numsOf)).2=true):headV l=0:=by unfold headV;rw [if_neg h,if_pos hb]
theorem headV_good {l:List Ent} (h:¬ (1000 < l.length∨∃ e∈l,tooLong e)) (hb:(linkAll (1,false) (l.flatMap numsOf)).2=false):headV l=(linkAll (1,false) (l.flatMap numsOf)).1:=by unfold headV;rw [if_neg h,if_neg (by rw [hb];simp)]
theorem head_step (s:Int × Bool) {l:List Ent} {i:Int} (h0:0≤i) (h1:i < (l.length:Int)):linkAll (linkAll s ((l.take i.toNat).flatMap numsOf)) (numsOf (rd_T41 l i))=linkAll s ((l.take (i+1).toNat).flatMap numsOf):=by
 have ht:l.take (i+1).toNat=l.take i.toNat++[rd_T41 l i]:=by
  rw [show (i+1).toNat=i.toNat+1 by omega,List.take_add_one];unfold rd_T41;rw [List.getD_eq_getElem?_getD,List.getElem?_eq_getElem (by omega)];rfl
 rw [ht,List.flatMap_append,linkAll_append s];rw [show [rd_T41 l i].flatMap numsOf=numsOf (rd_T41 l i) by simp]
theorem headIn_one:HeadIn (1,false):=by unfold HeadIn;decide
set_option maxHeartbeats 8000000 in
set_option maxRecDepth 100000 in
theorem impl_HeadOf.to (A0:Option Addr) (c0:Nat) (l0:List Ent) (w:World) (hr0:Kd.C k41 w A0 l0.length l0) :
 Calls Tryz.prog 58 #[.slice A0 l0.length c0] w fun x w'=>x = .returned (.int .i64 (headV l0))∧Below w.heap.size w w':=by
 have hl:=hr0.2.1;have H0:=Aside0.mk hr0;clear hr0;by_cases h1:1000 < l0.length
 case pos =>
  have HV:=Aside0.mk (headV_long (l:=l0) (Or.inl h1))
  go_enter Tryz.func58,Tryz.ntmps58
  go_wp2_with fail
  go_ret
  exact ⟨ret_i HV.out.symm,Below.refl _ _⟩
 have HP:=Aside0.mk (show LinkPost w (w.alloc (.cells #[.int .i64 1,.bool false] 89)) w.heap.size (linkAll (1,false) ((l0.take (0:Int).toNat).flatMap numsOf)) (w.alloc (.cells #[.int .i64 1,.bool false] 89)) from LinkPost.refl (blk_new _ _) (below_alloc (Below.refl _ _) _))
 go_enter Tryz.func58,Tryz.ntmps58
 go_wp2_with fail
 go_loopw [16] (fun v wr=>∃ i:Int,0≤i∧i≤(l0.length:Int)∧v = .int .i64 i∧Aside0 (LinkPost w (w.alloc (.cells #[.int .i64 1,.bool false] 89)) w.heap.size (linkAll (1,false) ((l0.take i.toNat).flatMap numsOf)) wr)∧Aside0 (∀ x∈l0.take i.toNat,¬ tooLong x)) (fun v _=>(l0.length - (intOf v).toNat))
 case atStart=>exact ⟨0,by omega,by omega,rfl,HP,⟨fun x hx=>by cases hx⟩⟩
 case round =>
  clear HP;obtain ⟨i,hi0,hi1,rfl,HP,HT⟩:=hrel;have hgw:w.heap.size < wr.heap.size:=blk_lt HP.out.at_;by_cases hlt:i < (l0.length:Int)
  ·obtain ⟨ad,A3,c3,e0,x0,x1,x2,x3,x4,x5⟩:=at_T41 H0.out i hi0 hlt;cases e0;have y0:=y01 HP.out.bel x0;have y1:=y01 HP.out.bel x1;have y2:=y01 HP.out.bel x2;have y3:=y01 HP.out.bel x3;have X5:=Aside0.mk x5;have Q:=Aside0.mk (HP.out.alloc (entO (rd_T41 l0 i) A3 c3));have HLN:=Aside0.mk (fun (q:tooLong (rd_T41 l0 i))=>headV_long (l:=l0) (Or.inr ⟨rd_T41 l0 i,by unfold rd_T41;rw [List.getD_eq_getElem?_getD,List.getElem?_eq_getElem (by omega)];exact List.getElem_mem _,q⟩));clear x0 x1 x2 x3 x5 HP;by_cases h2:60 < (rd_T41 l0 i).f3.length
   ·have HV:=Aside0.mk (HLN.out (Or.inl h2))
    go_wp2_with fail
    go_ret
    exact ⟨ret_i HV.out.symm,Q.out.bel⟩
   ·by_cases h3:40 < (rd_T41 l0 i).f2.size
    ·have HV:=Aside0.mk (HLN.out (Or.inr h3))
     go_wp2_with fail
     go_ret
     exact ⟨ret_i HV.out.symm,Q.out.bel⟩
    ·have HT1:=Aside0.mk (all_step (z:=z41) (p:=fun x=>¬ tooLong x) hi0 hlt HT.out (fun q=>q.elim h2 h3));clear HT HLN
     go_wp2_with fail
     refine (impl_numbersOf.to _ _ (rd_T41 l0 i) A3 c3 w _ Q.out.at_ (linkAll_in headIn_one _) (Nat.le_refl _) Q.out.bel X5.out (by omega)).mono ?_;rintro x w1 ⟨rfl,P1⟩;have P1:=Aside0.mk (Q.out.trans P1);clear Q X5
     go_wp2_with fail
     go_roundw
     case rel=>exact ⟨i+1,by omega,by omega,rfl,⟨by have:=P1.out;rw [head_step _ hi0 hlt] at this;exact this⟩,HT1⟩
     case measure=>simp [intOf];omega
  ·have hno:¬ (1000 < l0.length∨∃ e∈l0,tooLong e):=fun q=>q.elim h1 (fun ⟨e,he,q⟩=>all_end (by omega) HT.out e he q)
   have hat:=HP.out.at_;have HB:=Aside0.mk HP.out.bel;rw [List.take_of_length_le (by omega)] at hat;cases hb:(linkAll (1,false) (l0.flatMap numsOf)).2 with
   | true =>
    have HV:=Aside0.mk (headV_bad hno hb);have c1:=y00 hat 1;rw [hb] at c1;clear hat HT HP hno hb
    go_wp2_with fail
    go_ret
    exact ⟨ret_i HV.out.symm,HB.out⟩
   | false =>
    have HV:=Aside0.mk (headV_good hno hb);have c0:=y00 hat 0;have c1:=y00 hat 1;rw [hb] at c1;clear hat HT HP hno hb
    go_wp2_with fail
    go_ret
    exact ⟨ret_i HV.out.symm,HB.out⟩
end Go.Proofs.YtnknanppoenigaaGreatDoor.Q
