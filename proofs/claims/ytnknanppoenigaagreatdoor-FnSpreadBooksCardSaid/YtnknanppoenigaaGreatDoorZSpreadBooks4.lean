/- Parts of the proof: what functions of the program and of the reference answer.
   No condition. -/
import Derived.Test.YtnknanppoenigaaGreatDoorZSpreadBooks1
import Derived.Test.YtnknanppoenigaaGreatDoorZSpreadBooks2
import Derived.Test.YtnknanppoenigaaGreatDoorZSpreadBooks3
namespace Go.Proofs.YtnknanppoenigaaGreatDoor.Q
open Go.RowKit Go.Proofs.YtnknanppoenigaaGreatDoorW.PrintWords Go.Proofs.YtnknanppoenigaaGreatDoorW.PrintLast Go.Proofs.YtnknanppoenigaaGreatDoorW.PrintMore
attribute [local go_sem] max2_int min2_int max_two min_two max_three min_three max_four min_four
set_option linter.unusedVariables false
set_option linter.unusedSimpArgs false
theorem ret_ii {a b a' b':Int} (h:a=a') (h':b=b'):Ending.returned (Value.tuple #[Value.int .i64 a,Value.int .i64 b])=Ending.returned (Value.tuple #[Value.int .i64 a',Value.int .i64 b']):=by rw [h,h']
theorem amtV_b (a d c fr tt:Int) (l:List Ent) (h:∀ e∈l,entFine e):-6000000000000 * (l.length:Int)≤amtV a d c fr tt l∧amtV a d c fr tt l≤6000000000000 * (l.length:Int):=by
 induction l with
 | nil=>simp [amtV]
 | cons x l ih =>
  have h1:=ih (fun y hy=>h y (List.mem_cons_of_mem _ hy));have h2:=h x List.mem_cons_self;have h3:=amtL_b a d c x.f3 h2.2;have h4:=h2.1;simp only [amtV,List.length_cons]
  split <;> (push_cast;omega)
set_option maxHeartbeats 32000000 in
set_option maxRecDepth 100000 in
theorem spec_Balance.to (A:Option Addr) (cc:Nat) (es:List Ent) (h a d c fr tt:Int) (w:World) (hr:Kd.C k41 w A es.length es) (hn:es.length≤1000) (hf:∀ e∈es,entFine e) :
 Calls Tryz.prog 42 #[.agg #[.slice A es.length cc,.int .i64 h],.int .i64 a,.int .i64 d,.int .i64 c,.int .i64 fr,.int .i64 tt] w fun e w'=>e = .returned (.tuple #[.int .i64 (amtV a d c fr tt es),.int .i64 (basV a d c fr tt es)])∧Below w.heap.size w w':=by
 have HR:=Aside0.mk hr;have HF:=Aside0.mk hf;obtain ⟨PT,hPT⟩:∃ t,t=amtV a d c fr tt es:=⟨_,rfl⟩;obtain ⟨QT,hQT⟩:∃ t,t=basV a d c fr tt es:=⟨_,rfl⟩;rw [← hPT,← hQT];have HB:=Aside0.mk (below_alloc (Below.refl w.heap.size w) (.cells #[.slice A es.length cc,.int .i64 h] 29));have HPQ:=Aside0.mk (And.intro hPT hQT);have BPT:=amtV_b a d c fr tt es hf;have BQT:=basV_b a d c fr tt es hf;rw [← hPT] at BPT;rw [← hQT] at BQT;clear hr hf hPT hQT
 go_enter Tryz.func42,Tryz.ntmps42
 go_wp2_with fail
 go_loopw [16,14,15] (fun v vp vq wr=>∃ i p q:Int,0≤i∧i≤(es.length:Int)∧v = .int .i64 i∧vp = .int .i64 p∧vq = .int .i64 q∧Aside0 (Below w.heap.size w wr)∧Aside0 (p+amtV a d c fr tt (es.drop i.toNat)=PT∧q+basV a d c fr tt (es.drop i.toNat)=QT)∧Aside0 (wr.cell? ⟨w.heap.size,0,none⟩=some (.slice A es.length cc))) (fun v _ _ _=>(es.length - (intOf v).toNat))
 case atStart=>exact ⟨0,0,0,by omega,by omega,rfl,rfl,rfl,HB,⟨by rw [HPQ.out.1,HPQ.out.2];simp⟩,⟨by go_simp⟩⟩
 case round =>
  clear HB;obtain ⟨i,p,q,hi0,hi1,rfl,rfl,rfl,HB,HI,HF0⟩:=hrel;have f0:=HF0.out;have zz:=World.block_lt_of_cell? _ _ f0;by_cases hlt:i < (es.length:Int)
  case neg =>
   go_wp2_with fail
   go_ret2
   exact ⟨ret_ii (by have:=HI.out.1;rw [List.drop_of_length_le (by omega)] at this;simpa [amtV] using this) (by have:=HI.out.2;rw [List.drop_of_length_le (by omega)] at this;simpa [basV] using this),HB.out⟩
  obtain ⟨ad,A3,c3,e0,x0,x1,x2,x3,x4,x5⟩:=at_T41 HR.out i hi0 hlt;cases e0;replace x0:=y01 HB.out x0;replace x1:=y01 HB.out x1;replace x2:=y01 HB.out x2;replace x3:=y01 HB.out x3;have X5:=Aside0.mk x5;have hfe:entFine (rd_T41 es i):=all_at (z:=z41) (p:=entFine) hi0 hlt HF.out;have hl3:(rd_T41 es i).f3.length≤60:=hfe.1;have HLF:=Aside0.mk (show ∀ x∈(rd_T41 es i).f3,lineFine x from hfe.2);have HD:=Aside0.mk (drop_at (l:=es) (z:=z41) hi0 hlt);have HFD:=Aside0.mk (show ∀ e∈es.drop (i+1).toNat,entFine e from fun e he=>HF.out e (List.mem_of_mem_drop he));have hdl:(es.drop (i+1).toNat).length≤1000:=by rw [List.length_drop];omega
  have BP:=Aside0.mk (And.intro (amtV_b a d c fr tt (es.drop (i+1).toNat) HFD.out) (basV_b a d c fr tt (es.drop (i+1).toNat) HFD.out));have HE:=Aside0.mk (show amtV a d c fr tt (es.drop i.toNat)=(if inB (rd_T41 es i).f0 fr tt=true then amtL a d c (rd_T41 es i).f3 else 0)+amtV a d c fr tt (es.drop (i+1).toNat)∧basV a d c fr tt (es.drop i.toNat)=(if inB (rd_T41 es i).f0 fr tt=true then basL a d c (rd_T41 es i).f3 else 0)+basV a d c fr tt (es.drop (i+1).toNat) from by rw [HD.out];exact ⟨rfl,rfl⟩);clear x4 x5 hfe;generalize (rd_T41 es i).f0=day at *;generalize (rd_T41 es i).f3=ls at *;have hb:=below_alloc (Below.refl wr.heap.size wr) (.cells #[.int .i64 day,.int .i64 (rd_T41 es i).f1,.string (rd_T41 es i).f2,.slice A3 ls.length c3] 41);have HBX:=Aside0.mk (below_into (w:=w) hb HB.out);have y0:(wr.alloc (.cells #[.int .i64 day,.int .i64 (rd_T41 es i).f1,.string (rd_T41 es i).f2,.slice A3 ls.length c3] 41)).cell? ⟨wr.heap.size,0,none⟩=some (.int .i64 day):=by go_simp
  have y3:(wr.alloc (.cells #[.int .i64 day,.int .i64 (rd_T41 es i).f1,.string (rd_T41 es i).f2,.slice A3 ls.length c3] 41)).cell? ⟨wr.heap.size,3,none⟩=some (.slice A3 ls.length c3):=by go_simp
  have F0:=Aside0.mk (y01 hb f0);have Y0:=Aside0.mk y0;have Y3:=Aside0.mk y3;clear hb y0 y3
  go_wp2_with fail
  go_loopw [18,14,15] (fun v vp vq wq=>∃ j p q:Int,0≤j∧j≤(ls.length:Int)∧v = .int .i64 j∧vp = .int .i64 p∧vq = .int .i64 q∧Aside0 (Below w.heap.size w wq)∧Aside0 (p+(if inB day fr tt=true then amtL a d c (ls.drop j.toNat) else 0)+amtV a d c fr tt (es.drop (i+1).toNat)=PT∧q+(if inB day fr tt=true then basL a d c (ls.drop j.toNat) else 0)+basV a d c fr tt (es.drop (i+1).toNat)=QT)∧Aside0 (wq.cell? ⟨w.heap.size,0,none⟩=some (.slice (some ad) es.length cc)∧wq.cell? ⟨wr.heap.size,0,none⟩=some (.int .i64 day)∧wq.cell? ⟨wr.heap.size,3,none⟩=some (.slice A3 ls.length c3))) (fun v _ _ _=>(ls.length - (intOf v).toNat))
  case atStart=>exact ⟨0,p,q,by omega,by omega,rfl,rfl,rfl,HBX,⟨by have h1:=HI.out.1;have h2:=HI.out.2;rw [HE.out.1] at h1;rw [HE.out.2] at h2;simp only [show (0:Int).toNat=0 from rfl,List.drop_zero];exact ⟨by omega,by omega⟩⟩,⟨F0.out,Y0.out,Y3.out⟩⟩
  case round =>
   clear HB HBX F0 Y0 Y3 f0 x0 x1 x2 x3 zz HI HF0;obtain ⟨j,p,q,hj0,hj1,rfl,rfl,rfl,HB,HI,HC⟩:=hrel;have f0:=HC.out.1;have y0:=HC.out.2.1;have y3:=HC.out.2.2;have zz:=World.block_lt_of_cell? _ _ f0;have zy:=World.block_lt_of_cell? _ _ y0;by_cases hlj:j < (ls.length:Int)
   case neg =>
    go_wp2_with fail
    go_roundw
    case rel=>exact ⟨i+1,p,q,by omega,by omega,rfl,rfl,rfl,HB,⟨by have h1:=HI.out.1;have h2:=HI.out.2;rw [List.drop_of_length_le (by omega)] at h1 h2;simp [amtL,basL] at h1 h2;exact ⟨by omega,by omega⟩⟩,⟨HC.out.1⟩⟩
    case measure=>simp [intOf];omega
   obtain ⟨ae,e0,u0,u1,u2,u3,u4⟩:=at_T67 (Kd.C_below X5.out HB.out) j hj0 hlj;cases e0;have hfl:lineFine (rd_T67 ls j):=all_at (z:=z67) (p:=lineFine) hj0 hlj HLF.out;have HLD:=Aside0.mk (drop_at (l:=ls) (z:=z67) hj0 hlj);have HLE:=Aside0.mk (show amtL a d c (ls.drop j.toNat)=(if selL a d c (rd_T67 ls j)=true then (rd_T67 ls j).f3 else 0)+amtL a d c (ls.drop (j+1).toNat)∧basL a d c (ls.drop j.toNat)=(if selL a d c (rd_T67 ls j)=true then (rd_T67 ls j).f4 else 0)+basL a d c (ls.drop (j+1).toNat) from by rw [HLD.out];exact ⟨rfl,rfl⟩);have HLL:=Aside0.mk (show ∀ x∈ls.drop j.toNat,lineFine x from fun x hx=>HLF.out x (List.mem_of_mem_drop hx));have hll:(ls.drop j.toNat).length≤60:=by rw [List.length_drop];omega
   have hpb:(-100000000000000000≤p∧p≤100000000000000000)∧(-100000000000000000≤q∧q≤100000000000000000):=by
    have t1:=amtL_b a d c _ HLL.out;have t2:=basL_b a d c _ HLL.out;have t3:=BP.out.1;have t4:=BP.out.2;have t5:=HI.out.1;have t6:=HI.out.2;refine ⟨⟨?_,?_⟩,⟨?_,?_⟩⟩ <;> (split at t5 <;> omega)
   obtain ⟨⟨pb0,pb1⟩,⟨qb0,qb1⟩⟩:=hpb;have ca:inB (rd_T67 ls j).f3 (-100000000000) 100000000000=true:=inB_of hfl.1;have cb:inB (rd_T67 ls j).f4 (-100000000000) 100000000000=true:=inB_of hfl.2;have CA:=Aside0.mk (fun W=>(ca ▸ spec_l1Amount.to (rd_T67 ls j).f3 W:Calls Tryz.prog 63 #[.int .i64 (rd_T67 ls j).f3] W fun e w'=>e = .returned (.bool true)∧w'=W));have CB:=Aside0.mk (fun W=>(cb ▸ spec_l1Amount.to (rd_T67 ls j).f4 W:Calls Tryz.prog 63 #[.int .i64 (rd_T67 ls j).f4] W fun e w'=>e = .returned (.bool true)∧w'=W));obtain ⟨⟨b0,b1⟩,⟨b2,b3⟩⟩:=hfl;have HSEL:=Aside0.mk (show selL a d c (rd_T67 ls j)=((decide (a = -1) || decide (a=(rd_T67 ls j).f0)) && (decide (d = -1) || decide (d=(rd_T67 ls j).f1)) && (decide (c = -1) || decide (c=(rd_T67 ls j).f2))) from rfl);have o:=below_alloc HB.out (.cells #[.int .i64 (rd_T67 ls j).f0,.int .i64 (rd_T67 ls j).f1,.int .i64 (rd_T67 ls j).f2,.int .i64 (rd_T67 ls j).f3,.int .i64 (rd_T67 ls j).f4] 67);have hb:=below_alloc (Below.refl wr.heap.size wr) (.cells #[.int .i64 (rd_T67 ls j).f0,.int .i64 (rd_T67 ls j).f1,.int .i64 (rd_T67 ls j).f2,.int .i64 (rd_T67 ls j).f3,.int .i64 (rd_T67 ls j).f4] 67);have HCX:=Aside0.mk (And.intro (y01 hb f0) (And.intro (y01 hb y0) (y01 hb y3)));have HBX:=Aside0.mk o;generalize (rd_T67 ls j).f0=g0 at *;generalize (rd_T67 ls j).f1=g1 at *;generalize (rd_T67 ls j).f2=g2 at *;generalize (rd_T67 ls j).f3=g3 at *;generalize (rd_T67 ls j).f4=g4 at *;generalize selL a d c (rd_T67 ls j)=sl at *;clear o hb ca cb HC
   have HNO:=Aside0.mk (show inB day fr tt=false∨sl=false→p+(if inB day fr tt=true then amtL a d c (ls.drop (j+1).toNat) else 0)+amtV a d c fr tt (es.drop (i+1).toNat)=PT∧q+(if inB day fr tt=true then basL a d c (ls.drop (j+1).toNat) else 0)+basV a d c fr tt (es.drop (i+1).toNat)=QT from fun hq=>by
    have t5:=HI.out.1;have t6:=HI.out.2;rw [HLE.out.1] at t5;rw [HLE.out.2] at t6;rcases hq with hq | hq
    ·rw [hq] at t5 t6 ⊢;simp at t5 t6 ⊢
     exact ⟨t5,t6⟩
    ·rw [hq] at t5 t6;simp at t5 t6 ⊢
     exact ⟨t5,t6⟩)
   have HYE:=Aside0.mk (show inB day fr tt=true→sl=true→(p+g3)+(if inB day fr tt=true then amtL a d c (ls.drop (j+1).toNat) else 0)+amtV a d c fr tt (es.drop (i+1).toNat)=PT∧(q+g4)+(if inB day fr tt=true then basL a d c (ls.drop (j+1).toNat) else 0)+basV a d c fr tt (es.drop (i+1).toNat)=QT from fun hd hq=>by
    have t5:=HI.out.1;have t6:=HI.out.2;rw [HLE.out.1,hd,hq] at t5;rw [HLE.out.2,hd,hq] at t6;rw [hd];simp at t5 t6 ⊢
    exact ⟨by omega,by omega⟩)
   clear HI HLE HLD HLL;have CD:=Aside0.mk (fun W=>(spec_l1In.to day fr tt W));cases hd:inB day fr tt with
   | false =>
    have QD:=Aside0.mk hd;clear hd
    go_wp2_with fail
    refine (CA.out _).mono ?_;rintro x w' ⟨rfl,rfl⟩
    go_wp2_with fail
    refine (CB.out _).mono ?_;rintro x w' ⟨rfl,rfl⟩
    go_wp2_with fail
    refine (CD.out _).mono ?_;rintro x w' ⟨rfl,rfl⟩;rw [QD.out]
    go_wp2_with fail
    go_roundw
    case rel=>exact ⟨j+1,p,q,by omega,by omega,rfl,rfl,rfl,HBX,⟨by have hh:=HNO.out (.inl QD.out);rw [QD.out] at hh;simpa using hh⟩,HCX⟩
    case measure=>simp [intOf];omega
   | true =>
    have QD:=Aside0.mk hd;clear hd;by_cases m0:a = -1
    ·have K0:=Aside0.mk m0;have k0b:(a == -1)=true:=by rw [m0];rfl
     clear m0;by_cases m1:d = -1
     ·have K1:=Aside0.mk m1;have k1b:(d == -1)=true:=by rw [m1];rfl
      clear m1;by_cases m2:c = -1
      ·have K2:=Aside0.mk m2;have k2b:(c == -1)=true:=by rw [m2];rfl
       clear m2
       go_wp2_with fail
       refine (CA.out _).mono ?_;rintro x w' ⟨rfl,rfl⟩
       go_wp2_with fail
       refine (CB.out _).mono ?_;rintro x w' ⟨rfl,rfl⟩
       go_wp2_with fail
       refine (CD.out _).mono ?_;rintro x w' ⟨rfl,rfl⟩;rw [QD.out]
       go_wp2_with fail
       go_roundw
       case rel=>exact ⟨j+1,p+g3,q+g4,by omega,by omega,rfl,rfl,rfl,HBX,⟨by have hh:=HYE.out QD.out (by rw [HSEL.out];simp [K0.out,K1.out,K2.out]);rw [QD.out] at hh;simpa using hh⟩,HCX⟩
       case measure=>simp [intOf];omega
      ·have k2b:(c == -1)=false:=beq_eq_false_iff_ne.2 m2;by_cases mm2:c=g2
       ·have K2:=Aside0.mk mm2;have k2c:(c == g2)=true:=by rw [mm2];exact beq_self_eq_true' _
        clear mm2 m2
        go_wp2_with fail
        refine (CA.out _).mono ?_;rintro x w' ⟨rfl,rfl⟩
        go_wp2_with fail
        refine (CB.out _).mono ?_;rintro x w' ⟨rfl,rfl⟩
        go_wp2_with fail
        refine (CD.out _).mono ?_;rintro x w' ⟨rfl,rfl⟩;rw [QD.out]
        go_wp2_with fail
        go_roundw
        case rel=>exact ⟨j+1,p+g3,q+g4,by omega,by omega,rfl,rfl,rfl,HBX,⟨by have hh:=HYE.out QD.out (by rw [HSEL.out];simp [K0.out,K1.out,K2.out]);rw [QD.out] at hh;simpa using hh⟩,HCX⟩
        case measure=>simp [intOf];omega
       ·have K2:=Aside0.mk mm2;have KK2:=Aside0.mk m2;have k2c:(c == g2)=false:=beq_eq_false_iff_ne.2 mm2;clear mm2 m2
        go_wp2_with fail
        refine (CA.out _).mono ?_;rintro x w' ⟨rfl,rfl⟩
        go_wp2_with fail
        refine (CB.out _).mono ?_;rintro x w' ⟨rfl,rfl⟩
        go_wp2_with fail
        refine (CD.out _).mono ?_;rintro x w' ⟨rfl,rfl⟩;rw [QD.out]
        go_wp2_with fail
        go_roundw
        case rel=>exact ⟨j+1,p,q,by omega,by omega,rfl,rfl,rfl,HBX,⟨by have hh:=HNO.out (.inr (by rw [HSEL.out];simp [K2.out,KK2.out]));rw [QD.out] at hh;simpa using hh⟩,HCX⟩
        case measure=>simp [intOf];omega
     ·have k1b:(d == -1)=false:=beq_eq_false_iff_ne.2 m1;by_cases mm1:d=g1
      ·have K1:=Aside0.mk mm1;have k1c:(d == g1)=true:=by rw [mm1];exact beq_self_eq_true' _
       clear mm1 m1;by_cases m2:c = -1
       ·have K2:=Aside0.mk m2;have k2b:(c == -1)=true:=by rw [m2];rfl
        clear m2
        go_wp2_with fail
        refine (CA.out _).mono ?_;rintro x w' ⟨rfl,rfl⟩
        go_wp2_with fail
        refine (CB.out _).mono ?_;rintro x w' ⟨rfl,rfl⟩
        go_wp2_with fail
        refine (CD.out _).mono ?_;rintro x w' ⟨rfl,rfl⟩;rw [QD.out]
        go_wp2_with fail
        go_roundw
        case rel=>exact ⟨j+1,p+g3,q+g4,by omega,by omega,rfl,rfl,rfl,HBX,⟨by have hh:=HYE.out QD.out (by rw [HSEL.out];simp [K0.out,K1.out,K2.out]);rw [QD.out] at hh;simpa using hh⟩,HCX⟩
        case measure=>simp [intOf];omega
       ·have k2b:(c == -1)=false:=beq_eq_false_iff_ne.2 m2;by_cases mm2:c=g2
        ·have K2:=Aside0.mk mm2;have k2c:(c == g2)=true:=by rw [mm2];exact beq_self_eq_true' _
         clear mm2 m2
         go_wp2_with fail
         refine (CA.out _).mono ?_;rintro x w' ⟨rfl,rfl⟩
         go_wp2_with fail
         refine (CB.out _).mono ?_;rintro x w' ⟨rfl,rfl⟩
         go_wp2_with fail
         refine (CD.out _).mono ?_;rintro x w' ⟨rfl,rfl⟩;rw [QD.out]
         go_wp2_with fail
         go_roundw
         case rel=>exact ⟨j+1,p+g3,q+g4,by omega,by omega,rfl,rfl,rfl,HBX,⟨by have hh:=HYE.out QD.out (by rw [HSEL.out];simp [K0.out,K1.out,K2.out]);rw [QD.out] at hh;simpa using hh⟩,HCX⟩
         case measure=>simp [intOf];omega
        ·have K2:=Aside0.mk mm2;have KK2:=Aside0.mk m2;have k2c:(c == g2)=false:=beq_eq_false_iff_ne.2 mm2;clear mm2 m2
         go_wp2_with fail
         refine (CA.out _).mono ?_;rintro x w' ⟨rfl,rfl⟩
         go_wp2_with fail
         refine (CB.out _).mono ?_;rintro x w' ⟨rfl,rfl⟩
         go_wp2_with fail
         refine (CD.out _).mono ?_;rintro x w' ⟨rfl,rfl⟩;rw [QD.out]
         go_wp2_with fail
         go_roundw
         case rel=>exact ⟨j+1,p,q,by omega,by omega,rfl,rfl,rfl,HBX,⟨by have hh:=HNO.out (.inr (by rw [HSEL.out];simp [K2.out,KK2.out]));rw [QD.out] at hh;simpa using hh⟩,HCX⟩
         case measure=>simp [intOf];omega
      ·have K1:=Aside0.mk mm1;have KK1:=Aside0.mk m1;have k1c:(d == g1)=false:=beq_eq_false_iff_ne.2 mm1;clear mm1 m1
       go_wp2_with fail
       refine (CA.out _).mono ?_;rintro x w' ⟨rfl,rfl⟩
       go_wp2_with fail
       refine (CB.out _).mono ?_;rintro x w' ⟨rfl,rfl⟩
       go_wp2_with fail
       refine (CD.out _).mono ?_;rintro x w' ⟨rfl,rfl⟩;rw [QD.out]
       go_wp2_with fail
       go_roundw
       case rel=>exact ⟨j+1,p,q,by omega,by omega,rfl,rfl,rfl,HBX,⟨by have hh:=HNO.out (.inr (by rw [HSEL.out];simp [K1.out,KK1.out]));rw [QD.out] at hh;simpa using hh⟩,HCX⟩
       case measure=>simp [intOf];omega
    ·have k0b:(a == -1)=false:=beq_eq_false_iff_ne.2 m0;by_cases mm0:a=g0
     ·have K0:=Aside0.mk mm0;have k0c:(a == g0)=true:=by rw [mm0];exact beq_self_eq_true' _
      clear mm0 m0;by_cases m1:d = -1
      ·have K1:=Aside0.mk m1;have k1b:(d == -1)=true:=by rw [m1];rfl
       clear m1;by_cases m2:c = -1
       ·have K2:=Aside0.mk m2;have k2b:(c == -1)=true:=by rw [m2];rfl
        clear m2
        go_wp2_with fail
        refine (CA.out _).mono ?_;rintro x w' ⟨rfl,rfl⟩
        go_wp2_with fail
        refine (CB.out _).mono ?_;rintro x w' ⟨rfl,rfl⟩
        go_wp2_with fail
        refine (CD.out _).mono ?_;rintro x w' ⟨rfl,rfl⟩;rw [QD.out]
        go_wp2_with fail
        go_roundw
        case rel=>exact ⟨j+1,p+g3,q+g4,by omega,by omega,rfl,rfl,rfl,HBX,⟨by have hh:=HYE.out QD.out (by rw [HSEL.out];simp [K0.out,K1.out,K2.out]);rw [QD.out] at hh;simpa using hh⟩,HCX⟩
        case measure=>simp [intOf];omega
       ·have k2b:(c == -1)=false:=beq_eq_false_iff_ne.2 m2;by_cases mm2:c=g2
        ·have K2:=Aside0.mk mm2;have k2c:(c == g2)=true:=by rw [mm2];exact beq_self_eq_true' _
         clear mm2 m2
         go_wp2_with fail
         refine (CA.out _).mono ?_;rintro x w' ⟨rfl,rfl⟩
         go_wp2_with fail
         refine (CB.out _).mono ?_;rintro x w' ⟨rfl,rfl⟩
         go_wp2_with fail
         refine (CD.out _).mono ?_;rintro x w' ⟨rfl,rfl⟩;rw [QD.out]
         go_wp2_with fail
         go_roundw
         case rel=>exact ⟨j+1,p+g3,q+g4,by omega,by omega,rfl,rfl,rfl,HBX,⟨by have hh:=HYE.out QD.out (by rw [HSEL.out];simp [K0.out,K1.out,K2.out]);rw [QD.out] at hh;simpa using hh⟩,HCX⟩
         case measure=>simp [intOf];omega
        ·have K2:=Aside0.mk mm2;have KK2:=Aside0.mk m2;have k2c:(c == g2)=false:=beq_eq_false_iff_ne.2 mm2;clear mm2 m2
         go_wp2_with fail
         refine (CA.out _).mono ?_;rintro x w' ⟨rfl,rfl⟩
         go_wp2_with fail
         refine (CB.out _).mono ?_;rintro x w' ⟨rfl,rfl⟩
         go_wp2_with fail
         refine (CD.out _).mono ?_;rintro x w' ⟨rfl,rfl⟩;rw [QD.out]
         go_wp2_with fail
         go_roundw
         case rel=>exact ⟨j+1,p,q,by omega,by omega,rfl,rfl,rfl,HBX,⟨by have hh:=HNO.out (.inr (by rw [HSEL.out];simp [K2.out,KK2.out]));rw [QD.out] at hh;simpa using hh⟩,HCX⟩
         case measure=>simp [intOf];omega
      ·have k1b:(d == -1)=false:=beq_eq_false_iff_ne.2 m1;by_cases mm1:d=g1
       ·have K1:=Aside0.mk mm1;have k1c:(d == g1)=true:=by rw [mm1];exact beq_self_eq_true' _
        clear mm1 m1;by_cases m2:c = -1
        ·have K2:=Aside0.mk m2;have k2b:(c == -1)=true:=by rw [m2];rfl
         clear m2
         go_wp2_with fail
         refine (CA.out _).mono ?_;rintro x w' ⟨rfl,rfl⟩
         go_wp2_with fail
         refine (CB.out _).mono ?_;rintro x w' ⟨rfl,rfl⟩
         go_wp2_with fail
         refine (CD.out _).mono ?_;rintro x w' ⟨rfl,rfl⟩;rw [QD.out]
         go_wp2_with fail
         go_roundw
         case rel=>exact ⟨j+1,p+g3,q+g4,by omega,by omega,rfl,rfl,rfl,HBX,⟨by have hh:=HYE.out QD.out (by rw [HSEL.out];simp [K0.out,K1.out,K2.out]);rw [QD.out] at hh;simpa using hh⟩,HCX⟩
         case measure=>simp [intOf];omega
        ·have k2b:(c == -1)=false:=beq_eq_false_iff_ne.2 m2;by_cases mm2:c=g2
         ·have K2:=Aside0.mk mm2;have k2c:(c == g2)=true:=by rw [mm2];exact beq_self_eq_true' _
          clear mm2 m2
          go_wp2_with fail
          refine (CA.out _).mono ?_;rintro x w' ⟨rfl,rfl⟩
          go_wp2_with fail
          refine (CB.out _).mono ?_;rintro x w' ⟨rfl,rfl⟩
          go_wp2_with fail
          refine (CD.out _).mono ?_;rintro x w' ⟨rfl,rfl⟩;rw [QD.out]
          go_wp2_with fail
          go_roundw
          case rel=>exact ⟨j+1,p+g3,q+g4,by omega,by omega,rfl,rfl,rfl,HBX,⟨by have hh:=HYE.out QD.out (by rw [HSEL.out];simp [K0.out,K1.out,K2.out]);rw [QD.out] at hh;simpa using hh⟩,HCX⟩
          case measure=>simp [intOf];omega
         ·have K2:=Aside0.mk mm2;have KK2:=Aside0.mk m2;have k2c:(c == g2)=false:=beq_eq_false_iff_ne.2 mm2;clear mm2 m2
          go_wp2_with fail
          refine (CA.out _).mono ?_;rintro x w' ⟨rfl,rfl⟩
          go_wp2_with fail
          refine (CB.out _).mono ?_;rintro x w' ⟨rfl,rfl⟩
          go_wp2_with fail
          refine (CD.out _).mono ?_;rintro x w' ⟨rfl,rfl⟩;rw [QD.out]
          go_wp2_with fail
          go_roundw
          case rel=>exact ⟨j+1,p,q,by omega,by omega,rfl,rfl,rfl,HBX,⟨by have hh:=HNO.out (.inr (by rw [HSEL.out];simp [K2.out,KK2.out]));rw [QD.out] at hh;simpa using hh⟩,HCX⟩
          case measure=>simp [intOf];omega
       ·have K1:=Aside0.mk mm1;have KK1:=Aside0.mk m1;have k1c:(d == g1)=false:=beq_eq_false_iff_ne.2 mm1;clear mm1 m1
        go_wp2_with fail
        refine (CA.out _).mono ?_;rintro x w' ⟨rfl,rfl⟩
        go_wp2_with fail
        refine (CB.out _).mono ?_;rintro x w' ⟨rfl,rfl⟩
        go_wp2_with fail
        refine (CD.out _).mono ?_;rintro x w' ⟨rfl,rfl⟩;rw [QD.out]
        go_wp2_with fail
        go_roundw
        case rel=>exact ⟨j+1,p,q,by omega,by omega,rfl,rfl,rfl,HBX,⟨by have hh:=HNO.out (.inr (by rw [HSEL.out];simp [K1.out,KK1.out]));rw [QD.out] at hh;simpa using hh⟩,HCX⟩
        case measure=>simp [intOf];omega
     ·have K0:=Aside0.mk mm0;have KK0:=Aside0.mk m0;have k0c:(a == g0)=false:=beq_eq_false_iff_ne.2 mm0;clear mm0 m0
      go_wp2_with fail
      refine (CA.out _).mono ?_;rintro x w' ⟨rfl,rfl⟩
      go_wp2_with fail
      refine (CB.out _).mono ?_;rintro x w' ⟨rfl,rfl⟩
      go_wp2_with fail
      refine (CD.out _).mono ?_;rintro x w' ⟨rfl,rfl⟩;rw [QD.out]
      go_wp2_with fail
      go_roundw
      case rel=>exact ⟨j+1,p,q,by omega,by omega,rfl,rfl,rfl,HBX,⟨by have hh:=HNO.out (.inr (by rw [HSEL.out];simp [K0.out,KK0.out]));rw [QD.out] at hh;simpa using hh⟩,HCX⟩
      case measure=>simp [intOf];omega
open Classical in
noncomputable def spec_Balance.f (l0:List Ent) (a0_1 a1 a2 a3 a4 a5:Int):Option (Int × Int):=if l0.length≤1000∧(∀ e∈l0,entFine e) then some (amtV a1 a2 a3 a4 a5 l0,basV a1 a2 a3 a4 a5 l0) else none
theorem spec_Balance.calls (A0_0:Option Addr) (c0_0:Nat) (l0_0:List Ent) (a0_1 a1 a2 a3 a4 a5:Int) (r1 r2:Int) (w:World) (hr0_0:Kd.C k41 w A0_0 l0_0.length l0_0) (hc0_0:l0_0.length≤c0_0) (hf:spec_Balance.f l0_0 a0_1 a1 a2 a3 a4 a5=some (r1,r2)) :
 Calls Tryz.prog 42 #[.agg #[.slice A0_0 l0_0.length c0_0,.int .i64 a0_1],.int .i64 a1,.int .i64 a2,.int .i64 a3,.int .i64 a4,.int .i64 a5] w fun e w'=>e = .returned (.tuple #[.int .i64 r1,.int .i64 r2])∧Below w.heap.size w w':=by
 unfold spec_Balance.f at hf
 split at hf
 ·rename_i q
  cases hf;exact spec_Balance.to A0_0 c0_0 l0_0 a0_1 a1 a2 a3 a4 a5 w hr0_0 q.1 q.2
 ·cases hf
mutual
noncomputable def spec_Shares.j0:Nat→Int→List Int→List Int→Bool→Option (List Int)
 | 0,_,_,_,_=>none
 | k+1,x0,x1,x5,x23=>if x23=true then (some x5) else (spec_Shares.l0 k x0 x1 x5 0 0)
noncomputable def spec_Shares.l0:Nat→Int→List Int→List Int→Int→Int→Option (List Int)
 | 0,_,_,_,_,_=>none
 | k+1,x0,x1,x5,x6,x7=>if x7 < (x1.length:Int) then (if 0≤x7 then ((spec_l1Factor.f (rd x1 x7)).bind fun t33006=>(if t33006=true then (spec_Shares.l0 k x0 x1 x5 (wrap64 (x6+(rd x1 x7))) (wrap64 (x7+1))) else (some x5))) else (none)) else (if x6=0 then (some x5) else (spec_Shares.l1 k x0 x1 x5 x6 (([]:List Int)) x0 0))
noncomputable def spec_Shares.l1:Nat→Int→List Int→List Int→Int→List Int→Int→Int→Option (List Int)
 | 0,_,_,_,_,_,_,_=>none
 | k+1,x0,x1,x5,x6,x8,x9,x10=>if x10 < (x1.length:Int) then (if 0≤x10 then (if x6=0 then (none) else (if x5.length < 17592186044416 then ((spec_l1Abs.f (Int.tmod (wrap64 (x0 * (rd x1 x10))) x6)).bind fun t33015=>(if x8.length < 17592186044416 then (spec_Shares.l1 k x0 x1 (x5++[wrap64 (Int.tdiv (wrap64 (x0 * (rd x1 x10))) x6)]) x6 (x8++[t33015]) (wrap64 (x9 - (wrap64 (Int.tdiv (wrap64 (x0 * (rd x1 x10))) x6)))) (wrap64 (x10+1))) else (none))) else (none))) else (none)) else (if x9 < 0 then (spec_Shares.j3 k x5 x8 x9 (-1)) else (spec_Shares.j3 k x5 x8 x9 1))
noncomputable def spec_Shares.j3:Nat→List Int→List Int→Int→Int→Option (List Int)
 | 0,_,_,_,_=>none
 | k+1,x5,x8,x9,x12=>spec_Shares.l2 k x5 x8 x9 x12
noncomputable def spec_Shares.l2:Nat→List Int→List Int→Int→Int→Option (List Int)
 | 0,_,_,_,_=>none
 | k+1,x5,x8,x9,x12=>if x9=0 then (some x5) else (spec_Shares.l3 k x5 x8 x9 x12 0 1)
noncomputable def spec_Shares.l3:Nat→List Int→List Int→Int→Int→Int→Int→Option (List Int)
 | 0,_,_,_,_,_,_=>none
 | k+1,x5,x8,x9,x12,x13,x14=>if x14 < (x8.length:Int) then (if 0≤x14 then (if 0≤x13 then (if x13 < (x8.length:Int) then (if (rd x8 x14) > (rd x8 x13) then (spec_Shares.l3 k x5 x8 x9 x12 x14 (wrap64 (x14+1))) else (spec_Shares.l3 k x5 x8 x9 x12 x13 (wrap64 (x14+1)))) else (none)) else (none)) else (none)) else (if 0≤x13 then (if x13 < (x5.length:Int) then (if x13 < (x8.length:Int) then (spec_Shares.l2 k (x5.set (x13:Int).toNat (wrap64 ((rd x5 x13)+x12))) (x8.set (x13:Int).toNat (-1)) (wrap64 (x9 - x12)) x12) else (none)) else (none)) else (none))
end
noncomputable def spec_Shares.f (k:Nat) (a0:Int) (l1:List Int):Option (List Int):=(some (([]:List Int):List Int)).bind fun y33001=>((spec_l1Amount.f a0).bind fun t33004=>(if t33004=true then (spec_Shares.j0 k a0 l1 y33001 (decide ((l1.length:Int) > 200))) else (spec_Shares.j0 k a0 l1 y33001 true)))
set_option maxHeartbeats 8000000 in
set_option maxRecDepth 100000 in
theorem spec_Shares.calls (k:Nat) (a0:Int) (A1:Option Addr) (c1:Nat) (l1:List Int) (r:List Int) (w:World) (hr1:Kd.C (Kd.int .i64) w A1 l1.length l1) (hc1:l1.length≤c1) (h:spec_Shares.f k a0 l1=some r) :
 Calls Tryz.prog 32 #[.int .i64 a0,.slice A1 l1.length c1] w fun e w'=>∃ v0_:Value,e = .returned (v0_)∧Kd.R (Kd.int .i64) 3 w' w.heap.size (fun _=>True) v0_ r∧Below w.heap.size w w':=by
 have HR1:=Aside0.mk hr1;have HC1:=Aside0.mk hc1;clear hr1 hc1;have HB:=Aside0.mk (Below.refl w.heap.size w);have H:((some (([]:List Int):List Int)).bind fun y33001=>((spec_l1Amount.f a0).bind fun t33004=>(if t33004=true then (spec_Shares.j0 k a0 l1 y33001 (decide ((l1.length:Int) > 200))) else (spec_Shares.j0 k a0 l1 y33001 true))))=some r:=h;clear h;obtain ⟨y33001,hy33001⟩:∃ y_:List Int,y_=(([]:List Int)):=⟨_,rfl⟩;replace H:((spec_l1Amount.f a0).bind fun t33004=>(if t33004=true then (spec_Shares.j0 k a0 l1 y33001 (decide ((l1.length:Int) > 200))) else (spec_Shares.j0 k a0 l1 y33001 true)))=some r:=by (have H2_:=(Option.bind_some _ _).symm.trans H;rw [hy33001];with_reducible exact H2_)
 have Ny33001:=Aside0.mk hy33001;clear hy33001;have HC3:=Aside0.mk H;clear H
 go_enter Tryz.func32,Tryz.ntmps32
 go_upto_region 2 with (((with_reducible refine gate_dst (N:=15) rfl ?_);(try (refine gate_guard (by rfl) ?_;dsimp only));refine Kd.R_lit (Kd.int .i64) _ 3 ?hg (N:=15) ?hd (xs:=([]:List Int)) (inner:=[]) (ok:=fun _=>True) (okp:=fun _=>True) ?hr ?hp (fun _ hk=>hk) trivial (Below.refl _ _) (Nat.le_refl _) (by simp) ?_;(case hd=>rfl);(case hg=>rfl);(case hr=>(go_simp;done));(case hp=>exact (Reps.none _ _));intro v33002 w4 ho5 hb hg_ hnew_;clear hg_ hnew_;(rw [← Ny33001.out] at ho5);have n0_:=Aside0.mk (Kd.R_lower ho5 (below_size HB.out));have n1_:=Aside0.mk (below_step HB.out hb);clear HB;have HO33003:=n0_;have HB:=n1_;clear n0_ n1_;clear hb ho5))
 repeat (go_quiet (fail);go_upto_region 2 with (fail))
 (try simp only [Act.put,List.setIfInBounds_toArray,List.set_cons_zero,List.set_cons_succ])
 go_cut [23] (fun v23 wc=>∃ (kq:Nat) (x23_2:Bool),v23 = .bool x23_2∧Aside0 (spec_Shares.j0 kq a0 l1 y33001 x23_2=some r)∧Aside0 (kq≤k)∧Aside0 (Kd.R (Kd.int .i64) 3 wc w.heap.size (fun _=>True) v33002 y33001)∧Aside0 (Below w.heap.size w wc))
 case first =>
  have H:=HC3.out;clear HC3;replace H:=Option.bind_eq_some_iff.mp H;obtain ⟨t33004,A60,H⟩:=H;replace H:(if t33004=true then (spec_Shares.j0 k a0 l1 y33001 (decide ((l1.length:Int) > 200))) else (spec_Shares.j0 k a0 l1 y33001 true))=some r:=H;have A6:=Aside0.mk A60;clear A60;by_cases c7:t33004=true
  ·subst c7;have H1:(spec_Shares.j0 k a0 l1 y33001 (decide ((l1.length:Int) > 200)))=some r:=by rw [if_pos rfl] at H;exact H
   clear H;have H:=H1;clear H1;have H':=Aside0.mk H;clear H
   go_wp2_with ((go_at_call 63;(with_reducible refine (spec_l1Amount.calls a0 true _ A6.out).mono ?_);rintro e w' ⟨rfl,⟨nd,rfl⟩⟩;(try fail)))
   repeat (go_quiet (fail);try go_wp2_with (fail))
   go_meet
   case rel=>exact ⟨_,(decide ((l1.length:Int) > 200)),(by rfl),H',⟨by omega⟩,⟨by (with_reducible repeat (apply Kd.R_drewN));exact HO33003.out⟩,⟨by repeat ((with_reducible first | exact HB.out | apply pw_below_drewN))⟩⟩
  ·replace c7:=Bool.eq_false_iff.mpr c7;subst c7;have H1:(spec_Shares.j0 k a0 l1 y33001 true)=some r:=by rw [if_neg (show ¬ (false=true) by decide)] at H;exact H
   clear H;have H:=H1;clear H1;have H':=Aside0.mk H;clear H
   go_wp2_with ((go_at_call 63;(with_reducible refine (spec_l1Amount.calls a0 false _ A6.out).mono ?_);rintro e w' ⟨rfl,⟨nd,rfl⟩⟩;(try fail)))
   repeat (go_quiet (fail);try go_wp2_with (fail))
   go_meet
   case rel=>exact ⟨_,(true),(by rfl),H',⟨by omega⟩,⟨by (with_reducible repeat (apply Kd.R_drewN));exact HO33003.out⟩,⟨by repeat ((with_reducible first | exact HB.out | apply pw_below_drewN))⟩⟩
 case rest =>
  clear HC3;(try clear c1);(try clear p2);(try clear c3);(try clear c7);obtain ⟨kq,x23_2,rfl,HA,HJ2,HO_5,HB⟩:=hcut;cases kq with
  | zero=>exact absurd HA.out (by simp [spec_Shares.j0])
  | succ kj2 =>
   have H:=HA.out;clear HA;simp only [spec_Shares.j0] at H;by_cases c8:x23_2=true
   ·subst c8;have H1:(some y33001)=some r:=by rw [if_pos rfl] at H;exact H
    clear H;have H:=H1;clear H1;obtain rfl:=Option.some.inj H
    go_wp2
    repeat (go_quiet (fail);try go_wp2)
    go_ret
    exact ⟨_,by first | rfl | (simp [errW_none,errW_some] <;> rfl) | (simp [*,errW_none,errW_some] <;> rfl),by exact HO_5.out,by exact HB.out⟩
   ·replace c8:=Bool.eq_false_iff.mpr c8;subst c8;have H1:(spec_Shares.l0 kj2 a0 l1 y33001 0 0)=some r:=by rw [if_neg (show ¬ (false=true) by decide)] at H;exact H
    clear H;have H:=H1;clear H1;have H':=Aside0.mk H;clear H
    go_wp2
    repeat (go_quiet (fail);try go_wp2)
    go_loopg [6,7] kj2 (fun kq v6 v7 w'=>∃ (x6_2:Int) (x7_2:Int),v6 = .int .i64 x6_2∧v7 = .int .i64 x7_2∧Aside0 (spec_Shares.l0 kq a0 l1 y33001 x6_2 x7_2=some r)∧Aside0 (kq≤kj2)∧Aside0 (Kd.R (Kd.int .i64) 3 w' w.heap.size (fun _=>True) v33002 y33001)∧Aside0 (Below w.heap.size w w'))
    case atStart=>exact ⟨(0),(0),(by rfl),(by rfl),H',⟨Nat.le_refl _⟩,⟨HO_5.out⟩,⟨HB.out⟩⟩
    case round =>
     clear H';(try clear c1);(try clear p2);(try clear c3);(try clear c7);(try clear c8);(try clear p2);obtain ⟨x6_2,x7_2,rfl,rfl,HA,HK2,HO_5,HB⟩:=hrel;cases gk with
     | zero=>exact absurd HA.out (by simp [spec_Shares.l0])
     | succ k2 =>
      have H:=HA.out;clear HA;simp only [spec_Shares.l0] at H;by_cases c9:x7_2 < (l1.length:Int)
      ·rw [if_pos c9] at H;have c9b0:decide (x7_2 < (l1.length:Int))=true:=decide_eq_true c9;clear c9;by_cases c10:0≤x7_2
       ·rw [if_pos c10] at H;have c10b0:decide (0≤x7_2)=true:=decide_eq_true c10;clear c10;replace H:=Option.bind_eq_some_iff.mp H;obtain ⟨t33006,A110,H⟩:=H;replace H:(if t33006=true then (spec_Shares.l0 k2 a0 l1 y33001 (wrap64 (x6_2+(rd l1 x7_2))) (wrap64 (x7_2+1))) else (some y33001))=some r:=H;have A11:=Aside0.mk A110;clear A110;by_cases c12:t33006=true
        ·subst c12;have H1:(spec_Shares.l0 k2 a0 l1 y33001 (wrap64 (x6_2+(rd l1 x7_2))) (wrap64 (x7_2+1)))=some r:=by rw [if_pos rfl] at H;exact H
         clear H;have H:=H1;clear H1;have H':=Aside0.mk H;clear H;have p33005:0≤(x7_2:Int):=of_decide_eq_true (by (with_reducible assumption));have q33005:x7_2 < (l1.length:Int):=of_decide_eq_true (by (with_reducible assumption));obtain ⟨ad33005,e33005,hx33005_0⟩:=Kd.at_int HR1.out x7_2 p33005 q33005;cases e33005;replace hx33005_0:=(HB.out.cell (World.block_lt_of_cell? w _ hx33005_0)).trans hx33005_0;replace p33005:=eq_true p33005;replace q33005:=eq_true q33005
         go_wp2_with ((go_at_call 64;(with_reducible refine (spec_l1Factor.calls (rd l1 x7_2) true _ A11.out).mono ?_);rintro e w' ⟨rfl,⟨nd,rfl⟩⟩;(try fail);have p33007:0≤(x7_2:Int):=of_decide_eq_true (by (with_reducible assumption));have q33007:x7_2 < (l1.length:Int):=of_decide_eq_true (by (with_reducible assumption));obtain ⟨ad33007,e33007,hx33007_0⟩:=Kd.at_int HR1.out x7_2 p33007 q33007;obtain rfl:ad33005=ad33007:=(by injection e33007);replace hx33007_0:=(HB.out.cell (World.block_lt_of_cell? w _ hx33007_0)).trans hx33007_0;replace p33007:=eq_true p33007;replace q33007:=eq_true q33007))
         repeat (go_quiet (fail);try go_wp2_with (fail))
         go_roundg k2
         case measure=>have:=HJ2.out;have:=HK2.out;omega
         case rel=>exact ⟨(wrap64 (x6_2+(rd l1 x7_2))),(wrap64 (x7_2+1)),(by rfl),(by rfl),H',⟨by have:=HJ2.out;have:=HK2.out;omega⟩,⟨by (with_reducible repeat (apply Kd.R_drewN));exact HO_5.out⟩,⟨by repeat ((with_reducible first | exact HB.out | apply pw_below_drewN))⟩⟩
        ·replace c12:=Bool.eq_false_iff.mpr c12;subst c12;have H1:(some y33001)=some r:=by rw [if_neg (show ¬ (false=true) by decide)] at H;exact H
         clear H;have H:=H1;clear H1;obtain rfl:=Option.some.inj H;have p33005:0≤(x7_2:Int):=of_decide_eq_true (by (with_reducible assumption));have q33005:x7_2 < (l1.length:Int):=of_decide_eq_true (by (with_reducible assumption));obtain ⟨ad33005,e33005,hx33005_0⟩:=Kd.at_int HR1.out x7_2 p33005 q33005;cases e33005;replace hx33005_0:=(HB.out.cell (World.block_lt_of_cell? w _ hx33005_0)).trans hx33005_0;replace p33005:=eq_true p33005;replace q33005:=eq_true q33005
         go_wp2_with ((go_at_call 64;(with_reducible refine (spec_l1Factor.calls (rd l1 x7_2) false _ A11.out).mono ?_);rintro e w' ⟨rfl,⟨nd,rfl⟩⟩;(try fail)))
         repeat (go_quiet (fail);try go_wp2_with (fail))
         go_ret
         exact ⟨_,by first | rfl | (simp [errW_none,errW_some] <;> rfl) | (simp [*,errW_none,errW_some] <;> rfl),by (with_reducible repeat (apply Kd.R_drewN));exact HO_5.out,by repeat ((with_reducible first | exact HB.out | apply pw_below_drewN))⟩
       ·rw [if_neg c10] at H;exact absurd H (by simp)
      ·rw [if_neg c9] at H;have c9b0:decide (x7_2 < (l1.length:Int))=false:=decide_eq_false c9;clear c9;by_cases c13:x6_2=0
       ·rw [if_pos c13] at H;have c13b0:(x6_2 == 0)=true:=beq_iff_eq.mpr c13;have c13b1:(x6_2 != 0)=false:=bne_eq_false_iff_eq.mpr c13;clear c13;obtain rfl:=Option.some.inj H
        go_wp2
        repeat (go_quiet (fail);try go_wp2)
        go_ret
        exact ⟨_,by first | rfl | (simp [errW_none,errW_some] <;> rfl) | (simp [*,errW_none,errW_some] <;> rfl),by exact HO_5.out,by exact HB.out⟩
       ·rw [if_neg c13] at H;have c13b0:(x6_2 == 0)=false:=beq_eq_false_iff_ne.mpr c13;have c13b1:(x6_2 != 0)=true:=bne_iff_ne.mpr c13;obtain ⟨y33008,hy33008⟩:∃ y_:List Int,y_=(([]:List Int)):=⟨_,rfl⟩;replace H:(spec_Shares.l1 k2 a0 l1 y33001 x6_2 y33008 a0 0)=some r:=by (rw [hy33008];with_reducible exact H)
        have Ny33008:=Aside0.mk hy33008;clear hy33008;have H':=Aside0.mk H;clear H
        go_wp2_with (((with_reducible refine gate_dst (N:=47) rfl ?_);(try (refine gate_guard (by rfl) ?_;dsimp only));refine Kd.R_lit (Kd.int .i64) _ 3 ?hg (N:=47) ?hd (xs:=([]:List Int)) (inner:=[]) (ok:=fun _=>True) (okp:=fun _=>True) ?hr ?hp (fun _ hk=>hk) trivial (Below.refl _ _) (Nat.le_refl _) (by simp) ?_;(case hd=>rfl);(case hg=>rfl);(case hr=>(go_simp;done));(case hp=>exact (Reps.none _ _));intro v33009 w14 ho15 hb hg_ hnew_;clear hg_ hnew_;(rw [← Ny33008.out] at ho15);have n0_:=Aside0.mk (Kd.R_elder' HO_5.out (Kd.R_base ho15) hb);have n1_:=Aside0.mk (Kd.R_lower (Kd.R_new' ho15 (Kd.R_lt HO_5.out)) (below_size HB.out));have n2_:=Aside0.mk (below_step HB.out hb);clear HO_5;clear HB;have HO_5:=n0_;have HO33010:=n1_;have HB:=n2_;clear n0_ n1_ n2_;clear hb ho15))
        repeat (go_quiet (fail);try go_wp2_with (fail))
        go_loopg [5,8,9,10] k2 (fun kq v5 v8 v9 v10 w'=>∃ (x5_3:List Int) (x8_3:List Int) (x9_3:Int) (x10_3:Int),v9 = .int .i64 x9_3∧v10 = .int .i64 x10_3∧Aside0 (spec_Shares.l1 kq a0 l1 x5_3 x6_2 x8_3 x9_3 x10_3=some r)∧Aside0 (kq≤k2)∧Aside0 (Kd.R (Kd.int .i64) 3 w' w.heap.size (fun k_=>some k_≠(v8:Value).ownBlock) v5 x5_3)∧Aside0 (Kd.R (Kd.int .i64) 3 w' w.heap.size (fun k_=>some k_≠(v5:Value).ownBlock) v8 x8_3)∧Aside0 (Below w.heap.size w w'))
        case atStart=>exact ⟨(y33001),(y33008),(a0),(0),(by rfl),(by rfl),H',⟨Nat.le_refl _⟩,⟨by exact Kd.R_mono HO_5.out (fun _ hk=>hk.2)⟩,⟨by exact Kd.R_mono HO33010.out (fun _ hk=>hk.2)⟩,⟨HB.out⟩⟩
        case round =>
         clear H';(try clear c1);(try clear p2);(try clear c3);(try clear p3);(try clear q3);(try clear hx3);(try clear p6);(try clear c7);(try clear c8);(try clear c9);(try clear c9b0);(try clear c10);(try clear c10b0);(try clear c12);(try clear c13);(try clear c13b0);(try clear c13b1);(try clear hx33005_0);(try clear hx33007_0);(try clear p2);(try clear p33005);(try clear p33007);(try clear q33005);(try clear q33007);obtain ⟨x5_3,x8_3,x9_3,x10_3,rfl,rfl,HA,HK3,HO_5,HO_8,HB⟩:=hrel;cases gk with
         | zero=>exact absurd HA.out (by simp [spec_Shares.l1])
         | succ k3 =>
          have H:=HA.out;clear HA;simp only [spec_Shares.l1] at H;by_cases c16:x10_3 < (l1.length:Int)
          ·rw [if_pos c16] at H;have c16b0:decide (x10_3 < (l1.length:Int))=true:=decide_eq_true c16;clear c16;by_cases c17:0≤x10_3
           ·rw [if_pos c17] at H;have c17b0:decide (0≤x10_3)=true:=decide_eq_true c17;clear c17;by_cases c18:x6_2=0
            ·rw [if_pos c18] at H;exact absurd H (by simp)
            ·rw [if_neg c18] at H;have c18b0:(x6_2 == 0)=false:=beq_eq_false_iff_ne.mpr c18;have c18b1:(x6_2 != 0)=true:=bne_iff_ne.mpr c18;by_cases c19:x5_3.length < 17592186044416
             ·rw [if_pos c19] at H;have LMc19:=Aside0.mk c19;clear c19;obtain ⟨y33012,hy33012⟩:∃ y_:List Int,y_=(x5_3++[wrap64 (Int.tdiv (wrap64 (a0 * (rd l1 x10_3))) x6_2)]):=⟨_,rfl⟩;replace H:((spec_l1Abs.f (Int.tmod (wrap64 (a0 * (rd l1 x10_3))) x6_2)).bind fun t33015=>(if x8_3.length < 17592186044416 then (spec_Shares.l1 k3 a0 l1 y33012 x6_2 (x8_3++[t33015]) (wrap64 (x9_3 - (wrap64 (Int.tdiv (wrap64 (a0 * (rd l1 x10_3))) x6_2)))) (wrap64 (x10_3+1))) else (none)))=some r:=by (rw [hy33012];with_reducible exact H)
              have Ny33012:=Aside0.mk hy33012;clear hy33012;replace H:=Option.bind_eq_some_iff.mp H;obtain ⟨t33015,A200,H⟩:=H;replace H:(if x8_3.length < 17592186044416 then (spec_Shares.l1 k3 a0 l1 y33012 x6_2 (x8_3++[t33015]) (wrap64 (x9_3 - (wrap64 (Int.tdiv (wrap64 (a0 * (rd l1 x10_3))) x6_2)))) (wrap64 (x10_3+1))) else (none))=some r:=H;have A20:=Aside0.mk A200;clear A200;by_cases c21:x8_3.length < 17592186044416
              ·rw [if_pos c21] at H;have LMc21:=Aside0.mk c21;clear c21;obtain ⟨y33016,hy33016⟩:∃ y_:List Int,y_=(x8_3++[t33015]):=⟨_,rfl⟩;replace H:(spec_Shares.l1 k3 a0 l1 y33012 x6_2 y33016 (wrap64 (x9_3 - (wrap64 (Int.tdiv (wrap64 (a0 * (rd l1 x10_3))) x6_2)))) (wrap64 (x10_3+1)))=some r:=by (rw [hy33016];with_reducible exact H)
               have Ny33016:=Aside0.mk hy33016;clear hy33016;have H':=Aside0.mk H;clear H;have p33011:0≤(x10_3:Int):=of_decide_eq_true (by (with_reducible assumption));have q33011:x10_3 < (l1.length:Int):=of_decide_eq_true (by (with_reducible assumption));obtain ⟨ad33011,e33011,hx33011_0⟩:=Kd.at_int HR1.out x10_3 p33011 q33011;cases e33011;replace hx33011_0:=(HB.out.cell (World.block_lt_of_cell? w _ hx33011_0)).trans hx33011_0;replace p33011:=eq_true p33011;replace q33011:=eq_true q33011
               go_wp2_with (first | ((with_reducible refine gate_builtin (b:=.append) (xs:=#[.tmp 61,.tmp 65]) rfl ?_);(try (refine gate_guard (by rfl) ?_;dsimp only));at_builtin;refine Kd.R_append (Kd.int .i64) (w0:=w) w.heap.size rfl (.tmp 61) (.tmp 65) 42 3 (.int .i64 0) 8 rfl Tryz.underlying42 info3 rfl (by decide) (by omega) u5 x5_3 (wrap64 (Int.tdiv (wrap64 (a0 * (rd l1 x10_3))) x6_2)) [.int .i64 (wrap64 (Int.tdiv (wrap64 (a0 * (rd l1 x10_3))) x6_2))] (fun k_=>some k_≠(u8:Value).ownBlock) (fun _=>False) rfl rfl ?aP (fun _ hk=>hk.elim) ?aF ?aO ?aB ?aS ?aL ?_;(case aP=>exact rfl);(case aB=>exact HB.out);(case aF=>exact (fun k_ hk=>Kd.fresh' (Kd.R_lt HO_8.out) k_ hk));(case aO=>exact HO_5.out);(case aS=>exact (below_size HB.out));(case aL=>have:=LMc19.out;omega);intro v33013 w22 ho hb hg hat;rw [← Ny33012.out] at ho;have n0_:=Aside0.mk (Kd.R_after (ok:=(fun _=>True)) (by exact Kd.R_mono HO_8.out (fun _ hk=>⟨trivial,hk⟩)) hg hat);have n1_:=Aside0.mk (hb);have n2_:=Aside0.mk (ho);clear HO_8;clear HB;clear HO_5;have HO_8:=n0_;have HB:=n1_;have HO33014:=n2_;clear n0_ n1_ n2_;clear ho hb hg hat) | (go_at_call 65;(with_reducible refine (spec_l1Abs.calls (Int.tmod (wrap64 (a0 * (rd l1 x10_3))) x6_2) t33015 _ A20.out).mono ?_);rintro e w' ⟨rfl,⟨nd,rfl⟩⟩;(try fail)) | ((with_reducible refine gate_builtin (b:=.append) (xs:=#[.tmp 67,.tmp 72]) rfl ?_);(try (refine gate_guard (by rfl) ?_;dsimp only));at_builtin;refine Kd.R_append (Kd.int .i64) (w0:=w) w.heap.size rfl (.tmp 67) (.tmp 72) 42 3 (.int .i64 0) 8 rfl Tryz.underlying42 info3 rfl (by decide) (by omega) u8 x8_3 t33015 [.int .i64 t33015] (fun k_=>some k_≠(v33013:Value).ownBlock) (fun _=>False) rfl rfl ?aP (fun _ hk=>hk.elim) ?aF ?aO ?aB ?aS ?aL ?_;(case aP=>exact rfl);(case aB=>exact (by repeat ((with_reducible first | exact HB.out | apply pw_below_drewN))));(case aF=>exact (fun k_ hk=>Kd.fresh' (Kd.R_lt (by (with_reducible repeat (apply Kd.R_drewN));exact HO33014.out)) k_ hk));(case aO=>exact (by (with_reducible repeat (apply Kd.R_drewN));exact Kd.R_mono HO_8.out (fun _ hk=>hk.2)));(case aS=>exact (below_size (by repeat ((with_reducible first | exact HB.out | apply pw_below_drewN)))));(case aL=>have:=LMc21.out;omega);intro v33017 w23 ho hb hg hat;rw [← Ny33016.out] at ho;have n0_:=Aside0.mk (Kd.R_after (ok:=(fun _=>True)) (by (with_reducible repeat (apply Kd.R_drewN));exact Kd.R_mono HO33014.out (fun _ hk=>⟨trivial,hk⟩)) hg hat);have n1_:=Aside0.mk (hb);have n2_:=Aside0.mk (ho);clear HO33014;clear HB;clear HO_8;have HO33014:=n0_;have HB:=n1_;have HO33018:=n2_;clear n0_ n1_ n2_;clear ho hb hg hat))
               repeat (go_quiet (fail);try go_wp2_with (fail))
               go_roundg k3
               case measure=>have:=HJ2.out;have:=HK2.out;have:=HK3.out;omega
               case rel=>exact ⟨(y33012),(y33016),(wrap64 (x9_3 - (wrap64 (Int.tdiv (wrap64 (a0 * (rd l1 x10_3))) x6_2)))),(wrap64 (x10_3+1)),(by rfl),(by rfl),H',⟨by have:=HJ2.out;have:=HK2.out;have:=HK3.out;omega⟩,⟨by exact Kd.R_mono HO33014.out (fun _ hk=>hk.2)⟩,⟨HO33018.out⟩,⟨HB.out⟩⟩
              ·rw [if_neg c21] at H;exact absurd H (by simp)
             ·rw [if_neg c19] at H;exact absurd H (by simp)
           ·rw [if_neg c17] at H;exact absurd H (by simp)
          ·rw [if_neg c16] at H;have c16b0:decide (x10_3 < (l1.length:Int))=false:=decide_eq_false c16;clear c16;have HC24:=Aside0.mk H;clear H
           go_upto_if 80 with (fail)
           repeat (go_quiet (fail);go_upto_if 80 with (fail))
           go_cut [12] (fun v12 wc=>∃ (kq:Nat) (x12_23:Int),v12 = .int .i64 x12_23∧Aside0 (spec_Shares.j3 kq x5_3 x8_3 x9_3 x12_23=some r)∧Aside0 (kq≤k3)∧Aside0 (Kd.R (Kd.int .i64) 3 wc w.heap.size (fun k_=>some k_≠(u8:Value).ownBlock) u5 x5_3)∧Aside0 (Kd.R (Kd.int .i64) 3 wc w.heap.size (fun k_=>some k_≠(u5:Value).ownBlock) u8 x8_3)∧Aside0 (Below w.heap.size w wc))
           case first =>
            have H:=HC24.out;clear HC24;by_cases c25:x9_3 < 0
            ·rw [if_pos c25] at H;have c25b0:decide (x9_3 < 0)=true:=decide_eq_true c25;clear c25;(rw [c25b0]);have H':=Aside0.mk H;clear H
             go_wp2
             repeat (go_quiet (fail);try go_wp2)
             go_meet
             case rel=>exact ⟨_,((-1)),(by rfl),H',⟨by have:=HJ2.out;have:=HK2.out;have:=HK3.out;omega⟩,⟨HO_5.out⟩,⟨HO_8.out⟩,⟨HB.out⟩⟩
            ·rw [if_neg c25] at H;have c25b0:decide (x9_3 < 0)=false:=decide_eq_false c25;clear c25;(rw [c25b0]);have H':=Aside0.mk H;clear H
             go_wp2
             repeat (go_quiet (fail);try go_wp2)
             go_meet
             case rel=>exact ⟨_,(1),(by rfl),H',⟨by have:=HJ2.out;have:=HK2.out;have:=HK3.out;omega⟩,⟨HO_5.out⟩,⟨HO_8.out⟩,⟨HB.out⟩⟩
           case rest =>
            clear HC24;(try clear c1);(try clear c2);(try clear p2);(try clear c3);(try clear p3);(try clear q3);(try clear hx3);(try clear p6);(try clear c7);(try clear c8);(try clear c9);(try clear c9b0);(try clear c10);(try clear c10b0);(try clear c12);(try clear c13);(try clear c13b0);(try clear c13b1);(try clear c16);(try clear c16b0);(try clear c17);(try clear c17b0);(try clear c18);(try clear c18b0);(try clear c18b1);(try clear c19);(try clear c21);(try clear c25);(try clear c25b0);(try clear hx33005_0);(try clear hx33007_0);(try clear hx33011_0);(try clear p2);(try clear p3);(try clear p33005);(try clear p33007);(try clear p33011);(try clear p6);(try clear q3);(try clear q33005);(try clear q33007);(try clear q33011);obtain ⟨kq,x12_23,rfl,HA,HJ23,HO_5,HO_8,HB⟩:=hcut;cases kq with
            | zero=>exact absurd HA.out (by simp [spec_Shares.j3])
            | succ kj23 =>
             have H:=HA.out;clear HA;simp only [spec_Shares.j3] at H;have H':=Aside0.mk H;clear H
             go_wp2
             repeat (go_quiet (fail);try go_wp2)
             go_loopg [9] kj23 (fun kq v9 w'=>∃ (x5_5:List Int) (x8_5:List Int) (x9_5:Int),v9 = .int .i64 x9_5∧Aside0 (spec_Shares.l2 kq x5_5 x8_5 x9_5 x12_23=some r)∧Aside0 (kq≤kj23)∧Aside0 (Kd.R (Kd.int .i64) 3 w' w.heap.size (fun k_=>some k_≠(u8:Value).ownBlock) u5 x5_5)∧Aside0 (Kd.R (Kd.int .i64) 3 w' w.heap.size (fun k_=>some k_≠(u5:Value).ownBlock) u8 x8_5)∧Aside0 (Below w.heap.size w w'))
             case atStart=>exact ⟨(x5_3),(x8_3),(x9_3),(by rfl),H',⟨Nat.le_refl _⟩,⟨HO_5.out⟩,⟨HO_8.out⟩,⟨HB.out⟩⟩
             case round =>
              clear H';(try clear c1);(try clear c2);(try clear p2);(try clear c3);(try clear p3);(try clear q3);(try clear hx3);(try clear p6);(try clear c7);(try clear c8);(try clear c9);(try clear c9b0);(try clear c10);(try clear c10b0);(try clear c12);(try clear c13);(try clear c13b0);(try clear c13b1);(try clear c16);(try clear c16b0);(try clear c17);(try clear c17b0);(try clear c18);(try clear c18b0);(try clear c18b1);(try clear c19);(try clear c21);(try clear c25);(try clear c25b0);(try clear hx33005_0);(try clear hx33007_0);(try clear hx33011_0);(try clear p2);(try clear p3);(try clear p33005);(try clear p33007);(try clear p33011);(try clear p6);(try clear q3);(try clear q33005);(try clear q33007);(try clear q33011);obtain ⟨x5_5,x8_5,x9_5,rfl,HA,HK5,HO_5,HO_8,HB⟩:=hrel;cases gk with
              | zero=>exact absurd HA.out (by simp [spec_Shares.l2])
              | succ k5 =>
               have H:=HA.out;clear HA;simp only [spec_Shares.l2] at H;by_cases c26:x9_5=0
               ·rw [if_pos c26] at H;have c26b0:(x9_5 == 0)=true:=beq_iff_eq.mpr c26;have c26b1:(x9_5 != 0)=false:=bne_eq_false_iff_eq.mpr c26;clear c26;obtain rfl:=Option.some.inj H
                go_wp2
                repeat (go_quiet (fail);try go_wp2)
                go_ret
                exact ⟨_,by first | rfl | (simp [errW_none,errW_some] <;> rfl) | (simp [*,errW_none,errW_some] <;> rfl),by exact Kd.R_mono HO_5.out (fun _ hk=>trivial),by exact HB.out⟩
               ·rw [if_neg c26] at H;have c26b0:(x9_5 == 0)=false:=beq_eq_false_iff_ne.mpr c26;have c26b1:(x9_5 != 0)=true:=bne_iff_ne.mpr c26;have H':=Aside0.mk H;clear H
                go_wp2
                repeat (go_quiet (fail);try go_wp2)
                go_loopg [13,14] k5 (fun kq v13 v14 w'=>∃ (x13_6:Int) (x14_6:Int),v13 = .int .i64 x13_6∧v14 = .int .i64 x14_6∧Aside0 (spec_Shares.l3 kq x5_5 x8_5 x9_5 x12_23 x13_6 x14_6=some r)∧Aside0 (kq≤k5)∧Aside0 (Kd.R (Kd.int .i64) 3 w' w.heap.size (fun k_=>some k_≠(u8:Value).ownBlock) u5 x5_5)∧Aside0 (Kd.R (Kd.int .i64) 3 w' w.heap.size (fun k_=>some k_≠(u5:Value).ownBlock) u8 x8_5)∧Aside0 (Below w.heap.size w w'))
                case atStart=>exact ⟨(0),(1),(by rfl),(by rfl),H',⟨Nat.le_refl _⟩,⟨HO_5.out⟩,⟨HO_8.out⟩,⟨HB.out⟩⟩
                case round =>
                 clear H';(try clear c1);(try clear c2);(try clear p2);(try clear c3);(try clear p3);(try clear q3);(try clear hx3);(try clear p6);(try clear c7);(try clear c8);(try clear c9);(try clear c9b0);(try clear c10);(try clear c10b0);(try clear c12);(try clear c13);(try clear c13b0);(try clear c13b1);(try clear c16);(try clear c16b0);(try clear c17);(try clear c17b0);(try clear c18);(try clear c18b0);(try clear c18b1);(try clear c19);(try clear c21);(try clear c25);(try clear c25b0);(try clear c26);(try clear c26b0);(try clear c26b1);(try clear hx33005_0);(try clear hx33007_0);(try clear hx33011_0);(try clear p2);(try clear p3);(try clear p33005);(try clear p33007);(try clear p33011);(try clear p6);(try clear q3);(try clear q33005);(try clear q33007);(try clear q33011);obtain ⟨x13_6,x14_6,rfl,rfl,HA,HK6,HO_5,HO_8,HB⟩:=hrel;cases gk with
                 | zero=>exact absurd HA.out (by simp [spec_Shares.l3])
                 | succ k6 =>
                  have H:=HA.out;clear HA;simp only [spec_Shares.l3] at H;by_cases c27:x14_6 < (x8_5.length:Int)
                  ·rw [if_pos c27] at H;have c27b0:decide (x14_6 < (x8_5.length:Int))=true:=decide_eq_true c27;clear c27;by_cases c28:0≤x14_6
                   ·rw [if_pos c28] at H;have c28b0:decide (0≤x14_6)=true:=decide_eq_true c28;clear c28;by_cases c29:0≤x13_6
                    ·rw [if_pos c29] at H;have c29b0:decide (0≤x13_6)=true:=decide_eq_true c29;clear c29;by_cases c30:x13_6 < (x8_5.length:Int)
                     ·rw [if_pos c30] at H;have c30b0:decide (x13_6 < (x8_5.length:Int))=true:=decide_eq_true c30;clear c30;by_cases c31:(rd x8_5 x14_6) > (rd x8_5 x13_6)
                      ·rw [if_pos c31] at H;have c31b0:decide ((rd x8_5 x13_6) < (rd x8_5 x14_6))=true:=decide_eq_true c31;clear c31;have H':=Aside0.mk H;clear H;obtain ⟨Ao32,co32,eo32⟩:=Kd.R_slice HO_8.out;subst eo32;have p33019:0≤(x14_6:Int):=of_decide_eq_true (by (with_reducible assumption));have q33019:x14_6 < (x8_5.length:Int):=of_decide_eq_true (by (with_reducible assumption));obtain ⟨ad33019,e33019,hx33019_0⟩:=Kd.at_int (Kd.R_reads' HO_8.out).2.2 x14_6 p33019 q33019;cases e33019;replace p33019:=eq_true p33019;replace q33019:=eq_true q33019;have p33020:0≤(x13_6:Int):=of_decide_eq_true (by (with_reducible assumption));have q33020:x13_6 < (x8_5.length:Int):=of_decide_eq_true (by (with_reducible assumption));obtain ⟨ad33020,e33020,hx33020_0⟩:=Kd.at_int (Kd.R_reads' HO_8.out).2.2 x13_6 p33020 q33020;obtain rfl:ad33019=ad33020:=(by injection e33020);replace p33020:=eq_true p33020;replace q33020:=eq_true q33020
                       go_wp2
                       repeat (go_quiet (fail);try go_wp2)
                       go_roundg k6
                       case measure=>have:=HJ2.out;have:=HK2.out;have:=HK3.out;have:=HJ23.out;have:=HK5.out;have:=HK6.out;omega
                       case rel=>exact ⟨(x14_6),(wrap64 (x14_6+1)),(by rfl),(by rfl),H',⟨by have:=HJ2.out;have:=HK2.out;have:=HK3.out;have:=HJ23.out;have:=HK5.out;have:=HK6.out;omega⟩,⟨by (with_reducible repeat (apply Kd.R_drewN));exact HO_5.out⟩,⟨by (with_reducible repeat (apply Kd.R_drewN));exact HO_8.out⟩,⟨by repeat ((with_reducible first | exact HB.out | apply pw_below_drewN))⟩⟩
                      ·rw [if_neg c31] at H;have c31b0:decide ((rd x8_5 x13_6) < (rd x8_5 x14_6))=false:=decide_eq_false c31;clear c31;have H':=Aside0.mk H;clear H;obtain ⟨Ao33,co33,eo33⟩:=Kd.R_slice HO_8.out;subst eo33;have p33019:0≤(x14_6:Int):=of_decide_eq_true (by (with_reducible assumption));have q33019:x14_6 < (x8_5.length:Int):=of_decide_eq_true (by (with_reducible assumption));obtain ⟨ad33019,e33019,hx33019_0⟩:=Kd.at_int (Kd.R_reads' HO_8.out).2.2 x14_6 p33019 q33019;cases e33019;replace p33019:=eq_true p33019;replace q33019:=eq_true q33019;have p33020:0≤(x13_6:Int):=of_decide_eq_true (by (with_reducible assumption));have q33020:x13_6 < (x8_5.length:Int):=of_decide_eq_true (by (with_reducible assumption));obtain ⟨ad33020,e33020,hx33020_0⟩:=Kd.at_int (Kd.R_reads' HO_8.out).2.2 x13_6 p33020 q33020;obtain rfl:ad33019=ad33020:=(by injection e33020);replace p33020:=eq_true p33020;replace q33020:=eq_true q33020
                       go_wp2
                       repeat (go_quiet (fail);try go_wp2)
                       go_roundg k6
                       case measure=>have:=HJ2.out;have:=HK2.out;have:=HK3.out;have:=HJ23.out;have:=HK5.out;have:=HK6.out;omega
                       case rel=>exact ⟨(x13_6),(wrap64 (x14_6+1)),(by rfl),(by rfl),H',⟨by have:=HJ2.out;have:=HK2.out;have:=HK3.out;have:=HJ23.out;have:=HK5.out;have:=HK6.out;omega⟩,⟨by (with_reducible repeat (apply Kd.R_drewN));exact HO_5.out⟩,⟨by (with_reducible repeat (apply Kd.R_drewN));exact HO_8.out⟩,⟨by repeat ((with_reducible first | exact HB.out | apply pw_below_drewN))⟩⟩
                     ·rw [if_neg c30] at H;exact absurd H (by simp)
                    ·rw [if_neg c29] at H;exact absurd H (by simp)
                   ·rw [if_neg c28] at H;exact absurd H (by simp)
                  ·rw [if_neg c27] at H;have c27b0:decide (x14_6 < (x8_5.length:Int))=false:=decide_eq_false c27;clear c27;by_cases c34:0≤x13_6
                   ·rw [if_pos c34] at H;have c34b0:decide (0≤x13_6)=true:=decide_eq_true c34;clear c34;by_cases c35:x13_6 < (x5_5.length:Int)
                    ·rw [if_pos c35] at H;have c35b0:decide (x13_6 < (x5_5.length:Int))=true:=decide_eq_true c35;clear c35;obtain ⟨y33022,hy33022⟩:∃ y_:List Int,y_=(x5_5.set (x13_6:Int).toNat (wrap64 ((rd x5_5 x13_6)+x12_23))):=⟨_,rfl⟩;replace H:(if x13_6 < (x8_5.length:Int) then (spec_Shares.l2 k6 y33022 (x8_5.set (x13_6:Int).toNat (-1)) (wrap64 (x9_5 - x12_23)) x12_23) else (none))=some r:=by (rw [hy33022];with_reducible exact H)
                     have Ny33022:=Aside0.mk hy33022;clear hy33022;by_cases c37:x13_6 < (x8_5.length:Int)
                     ·rw [if_pos c37] at H;have c37b0:decide (x13_6 < (x8_5.length:Int))=true:=decide_eq_true c37;clear c37;obtain ⟨y33023,hy33023⟩:∃ y_:List Int,y_=(x8_5.set (x13_6:Int).toNat (-1)):=⟨_,rfl⟩;replace H:(spec_Shares.l2 k6 y33022 y33023 (wrap64 (x9_5 - x12_23)) x12_23)=some r:=by (rw [hy33023];with_reducible exact H)
                      have Ny33023:=Aside0.mk hy33023;clear hy33023;have H':=Aside0.mk H;clear H;obtain ⟨Ao39,co39,eo39⟩:=Kd.R_slice HO_8.out;subst eo39;obtain ⟨Ao40,co40,eo40⟩:=Kd.R_slice HO_5.out;subst eo40;have p33021:0≤(x13_6:Int):=of_decide_eq_true (by (with_reducible assumption));have q33021:x13_6 < (x5_5.length:Int):=of_decide_eq_true (by (with_reducible assumption));obtain ⟨ad33021,e33021,hx33021_0⟩:=Kd.at_int (Kd.R_reads' HO_5.out).2.2 x13_6 p33021 q33021;cases e33021;replace p33021:=eq_true p33021;replace q33021:=eq_true q33021;have p36:0≤(x13_6:Int):=of_decide_eq_true (by (with_reducible assumption));have q36:(x13_6:Int) < ((x5_5.length:Int):Int):=of_decide_eq_true (by (with_reducible assumption));obtain ⟨go36,co36,eo36,gb36,gl36,cl36,HG36⟩:=Kd.R_form HO_5.out (by omega);(first | cases eo36 | (injection eo36 with ea_ en_ ec_;(fail);subst ec_;clear en_));have GB36:=Aside0.mk gb36;have GG36:=Aside0.mk HG36;clear gb36 gl36 HG36;(simp only [add_plain] at hx33021_0);obtain ⟨hx36_0,hf36_0⟩:=Kd.R_celln 0 HO_5.out (x13_6:Int) p36 q36;replace p36:=eq_true p36;replace q36:=eq_true q36;have HP41:=Kd.R_putg HO_5.out (x13_6:Int) (wrap64 ((rd x5_5 x13_6)+x12_23))
                      go_wp2_with (first | ((with_reducible refine gate_store (t:=3) (p:=110) rfl ?_);(try (rw [drewN_self wr];generalize hq_:World.drewN wr _=wr;have n0_:=Aside0.mk (Kd.R_at hq_ HO_5.out);have n1_:=Aside0.mk (Kd.R_at hq_ HO_8.out);have n2_:=Aside0.mk (below_at hq_ HB.out);clear hq_ HO_5 HO_8 HB;have HO_5:=n0_;have HO_8:=n1_;have HB:=n2_;clear n0_ n1_ n2_;(try (have HP41:=Kd.R_putg HO_5.out (x13_6:Int) (wrap64 ((rd x5_5 x13_6)+x12_23))))));refine store_event (t:=3) (p:=110) (v:=?vo_w42) (w1:=(wr.setCell ⟨go36,(x13_6:Int).toNat,none⟩ (.int .i64 (wrap64 ((rd x5_5 x13_6)+x12_23))))) ?hg ?ho ?hn ?hr ?_;(case ho=>rfl);(case hg=>rfl);(case hn=>rfl);(case hr=>(go_simp;done));intro w42 hw;have hg:wr.grownBy w42 (some go36):=(by rw [hw];exact HP41.2);have hp_:Kd.R (Kd.int .i64) 3 w42 w.heap.size (fun k_=>some k_≠(.slice Ao39 x8_5.length co39:Value).ownBlock) (.slice (some ⟨go36,0,none⟩) x5_5.length co40) y33022:=(by rw [hw,Ny33022.out];exact HP41.1);clear HP41;have n0_:=Aside0.mk (hp_);have n1_:=Aside0.mk (Kd.R_after (v:=(.slice (some ⟨go36,0,none⟩) x5_5.length co40)) (v1:=(.slice (some ⟨go36,0,none⟩) x5_5.length co40)) (ok:=(fun _=>True)) (by exact Kd.R_mono HO_8.out (fun _ hk=>⟨trivial,hk⟩)) hg (.inl rfl));have n2_:=Aside0.mk ((by rw [hw];exact below_set (HB.out) GB36.out:Below w.heap.size w w42));clear HO_5;clear HO_8;clear HB;have HO_5:=n0_;have HO_8:=n1_;have HB:=n2_;clear n0_ n1_ n2_;clear hg hw hp_;have p38:0≤(x13_6:Int):=of_decide_eq_true (by (with_reducible assumption));have q38:(x13_6:Int) < ((x8_5.length:Int):Int):=of_decide_eq_true (by (with_reducible assumption));obtain ⟨go38,co38,eo38,gb38,gl38,cl38,HG38⟩:=Kd.R_form HO_8.out (by omega);(first | cases eo38 | (injection eo38 with ea_ en_ ec_;(fail);subst ec_;clear en_));have GB38:=Aside0.mk gb38;have GG38:=Aside0.mk HG38;clear gb38 gl38 HG38;obtain ⟨hx38_0,hf38_0⟩:=Kd.R_celln 0 HO_8.out (x13_6:Int) p38 q38;replace p38:=eq_true p38;replace q38:=eq_true q38;have n_:=Aside0.mk (Kd.R_mono (ok':=(fun k_=>some k_≠(.slice (some ⟨go36,0,none⟩) x5_5.length co40:Value).ownBlock)) HO_8.out (fun k_ hk=>hk.2));clear HO_8;have HO_8:=n_;clear n_;obtain ⟨hy43_,hz43_⟩:=Kd.R_celln 0 HO_8.out (x13_6:Int) (of_decide_eq_true (by (with_reducible assumption))) (of_decide_eq_true (by (with_reducible assumption)));have HP43:=Kd.R_putg HO_8.out (x13_6:Int) (-1)) | ((with_reducible refine gate_store (t:=3) (p:=113) rfl ?_);(try (rw [drewN_self w42];generalize hq_:World.drewN w42 _=w42;have n0_:=Aside0.mk (Kd.R_at hq_ HO_5.out);have n1_:=Aside0.mk (Kd.R_at hq_ HO_8.out);have n2_:=Aside0.mk (below_at hq_ HB.out);clear hq_ HO_5 HO_8 HB;have HO_5:=n0_;have HO_8:=n1_;have HB:=n2_;clear n0_ n1_ n2_;(try (have n_:=Aside0.mk (Kd.R_mono (ok':=(fun k_=>some k_≠(.slice (some ⟨go36,0,none⟩) x5_5.length co40:Value).ownBlock)) HO_8.out (fun k_ hk=>hk.2));clear HO_8;have HO_8:=n_;clear n_));(try (obtain ⟨hy43_,hz43_⟩:=Kd.R_celln 0 HO_8.out (x13_6:Int) (of_decide_eq_true (by fail)) (of_decide_eq_true (by fail))));(try (have HP43:=Kd.R_putg HO_8.out (x13_6:Int) (-1)))));refine store_event (t:=3) (p:=113) (v:=?vo_w44) (w1:=(w42.setCell ⟨go38,(x13_6:Int).toNat,none⟩ (.int .i64 (-1)))) ?hg ?ho ?hn ?hr ?_;(case ho=>rfl);(case hg=>rfl);(case hn=>rfl);(case hr=>(go_simp;done));intro w44 hw;have hg:w42.grownBy w44 (some go38):=(by rw [hw];exact HP43.2);have hp_:Kd.R (Kd.int .i64) 3 w44 w.heap.size (fun k_=>some k_≠(.slice (some ⟨go36,0,none⟩) x5_5.length co40:Value).ownBlock) (.slice (some ⟨go38,0,none⟩) x8_5.length co39) y33023:=(by rw [hw,Ny33023.out];exact HP43.1);clear HP43;have n0_:=Aside0.mk (Kd.R_after (v:=(.slice (some ⟨go38,0,none⟩) x8_5.length co39)) (v1:=(.slice (some ⟨go38,0,none⟩) x8_5.length co39)) (ok:=(fun _=>True)) (by exact Kd.R_mono HO_5.out (fun _ hk=>⟨trivial,hk⟩)) hg (.inl rfl));have n1_:=Aside0.mk (hp_);have n2_:=Aside0.mk ((by rw [hw];exact below_set (HB.out) GB38.out:Below w.heap.size w w44));clear HO_5;clear HO_8;clear HB;have HO_5:=n0_;have HO_8:=n1_;have HB:=n2_;clear n0_ n1_ n2_;clear hg hw hp_))
                      repeat (go_quiet (fail);try go_wp2_with (fail))
                      go_roundg k6
                      case measure=>have:=HJ2.out;have:=HK2.out;have:=HK3.out;have:=HJ23.out;have:=HK5.out;have:=HK6.out;omega
                      case rel=>exact ⟨(y33022),(y33023),(wrap64 (x9_5 - x12_23)),(by rfl),H',⟨by have:=HJ2.out;have:=HK2.out;have:=HK3.out;have:=HJ23.out;have:=HK5.out;have:=HK6.out;omega⟩,⟨by exact Kd.R_mono HO_5.out (fun _ hk=>hk.2)⟩,⟨HO_8.out⟩,⟨HB.out⟩⟩
                     ·rw [if_neg c37] at H;exact absurd H (by simp)
                    ·rw [if_neg c35] at H;exact absurd H (by simp)
                   ·rw [if_neg c34] at H;exact absurd H (by simp)
end Go.Proofs.YtnknanppoenigaaGreatDoor.Q
namespace Go.Proofs.YtnknanppoenigaaGreatDoor.Q
open Go.RowKit Go.Proofs.YtnknanppoenigaaGreatDoorW.PrintWords Go.Proofs.YtnknanppoenigaaGreatDoorW.PrintLast Go.Proofs.YtnknanppoenigaaGreatDoorW.PrintMore
set_option linter.unusedVariables false
set_option linter.unusedSimpArgs false
theorem i64_and255 (n:Int):Go.bits .and .i64 n 255=n % 256:=by
 have h127:(BitVec.ofInt 64 255).toNat=2 ^ 8 - 1:=by decide
 have key:(BitVec.ofInt 64 n &&& BitVec.ofInt 64 255).toNat=(n % ((2 ^ 64:Nat):Int)).toNat % 2 ^ 8:=by
  rw [BitVec.toNat_and,BitVec.toNat_ofInt,h127,Nat.and_two_pow_sub_one_eq_mod]
 show IntKind.i64.wrap ((BitVec.ofInt 64 n &&& BitVec.ofInt 64 255).toNat:Nat)=n % 256;rw [key,IntKind.wrap_i64];omega
theorem l1Byte_is (c:List Int) (i h:Int) (h0:0≤i) (h1:i≤(c.length:Int)) (hc:c.length≤1048576):∃ r j h',spec_l1Byte.f c i h=some (r,j,h')∧(0≤r∧r≤255)∧0≤j∧j≤(c.length:Int):=by
 unfold spec_l1Byte.f;by_cases q:i < (c.length:Int)
 ·rw [if_pos q,if_pos h0];refine ⟨_,_,_,rfl,?_,?_⟩
  ·rw [i64_and255];omega
  ·rw [show wrap64 (i+1)=i+1 by unfold wrap64;omega];omega
 ·rw [if_neg q];exact ⟨_,_,_,rfl,by rw [i64_and255];omega,h0,h1⟩
theorem l1Below_is (c:List Int) (i h n:Int) (h0:0≤i) (h1:i≤(c.length:Int)) (hc:c.length≤1048576) (hn:n≤2147483648):∃ r j h',spec_l1Below.f c i h n=some (r,j,h')∧(0≤r∧(0 < n→r < n)∧(n≤0→r=0))∧0≤j∧j≤(c.length:Int):=by
 unfold spec_l1Below.f;by_cases q:n≤0
 ·rw [if_pos q];exact ⟨0,i,h,rfl,⟨by omega,fun _=>by omega,fun _=>rfl⟩,h0,h1⟩
 ·rw [if_neg q];by_cases q2:n≤256
  ·rw [if_pos q2];obtain ⟨r,j,h',e,hr,hj⟩:=l1Byte_is c i h h0 h1 hc;rw [e];simp only [Option.bind_some];rw [if_neg (by omega)];exact ⟨_,_,_,rfl,⟨Int.tmod_nonneg _ hr.1,fun hp=>Int.tmod_lt_of_pos _ hp,fun hp=>absurd hp q⟩,hj⟩
  ·rw [if_neg q2];obtain ⟨r,j,h',e,hr,hj⟩:=l1Byte_is c i h h0 h1 hc;rw [e];simp only [Option.bind_some];obtain ⟨r1,j1,h1',e1,hr1,hj1⟩:=l1Byte_is c j h' hj.1 hj.2 hc;rw [e1];simp only [Option.bind_some];obtain ⟨r2,j2,h2',e2,hr2,hj2⟩:=l1Byte_is c j1 h1' hj1.1 hj1.2 hc;rw [e2];simp only [Option.bind_some];obtain ⟨r3,j3,h3',e3,hr3,hj3⟩:=l1Byte_is c j2 h2' hj2.1 hj2.2 hc;rw [e3];simp only [Option.bind_some];rw [if_neg (by omega)];refine ⟨_,_,_,rfl,⟨Int.tmod_nonneg _ ?_,fun hp=>Int.tmod_lt_of_pos _ hp,fun hp=>absurd hp q⟩,hj3⟩;unfold wrap64;omega
def Cur (w0 W:World) (g:Nat) (c:List Int):Prop:=∃ i h,IsS93 w0 W g c i h∧0≤i∧i≤(c.length:Int)
structure Drew (w0 w w':World) (g:Nat) (c:List Int):Prop where
 cur:Cur w0 w' g c
 bel:Below w0.heap.size w0 w'
 keep:KeepBut w w' g none
theorem Cur.ge {w0 W:World} {g:Nat} {c:List Int} (h:Cur w0 W g c):w0.heap.size≤g:=by obtain ⟨_,_,h,_⟩:=h;exact h.ge
theorem Cur.lt {w0 W:World} {g:Nat} {c:List Int} (h:Cur w0 W g c):g < W.heap.size:=by obtain ⟨_,_,h,_⟩:=h;exact h.lt
theorem Cur.below {w0 W W1:World} {g:Nat} {c:List Int} (h:Cur w0 W g c) (hw:Below W.heap.size W W1):Cur w0 W1 g c:=by obtain ⟨i,j,h,k⟩:=h;exact ⟨i,j,h.below hw,k⟩
theorem Cur.grown {w0 W W1:World} {g:Nat} {c:List Int} {row:Option Nat} (h:Cur w0 W g c) (hw:W.grownBy W1 row) (hne:some g≠row):Cur w0 W1 g c:=by obtain ⟨i,j,h,k⟩:=h;exact ⟨i,j,h.grown hw hne,k⟩
theorem Cur.far {w0 W:World} {g:Nat} {c:List Int} {p:Addr} (h:Cur w0 W g c) (hne:g≠p.block) (u:Value):Cur w0 (W.setCell p u) g c:=by obtain ⟨i,j,h,k⟩:=h;exact ⟨i,j,h.far hne u,k⟩
theorem Cur.apart {w0 W:World} {g:Nat} {c:List Int} {α:Type} {d:Kd α} {e:Nat} {base:Nat} {ok:Nat→Prop} {v:Value} {xs:List α} (h:Cur w0 W g c) (ho:d.R e W base ok v xs) (ht:∀ q,q∈e :: d.E→q≠93):d.R e W base (fun k=>ok k∧k≠g) v xs:=by obtain ⟨i,j,h,k⟩:=h;exact h.apart ho ht
theorem Cur.apartS {w0 W:World} {g:Nat} {c:List Int} {α:Type} {d:Kd α} {e:Nat} {base:Nat} {ok:Nat→Prop} {v:Value} {xs:List α} (h:Cur w0 W g c) (ho:d.S e W base ok v xs) (ht:∀ q,q∈e :: d.E→q≠93):d.S e W base (fun k=>ok k∧k≠g) v xs:=by obtain ⟨i,j,h,k⟩:=h;exact h.apartS ho ht
theorem KeepBut.thenK {w w1 w2:World} {g:Nat} (h:KeepBut w w1 g none) (k:KeepBut w1 w2 g none):KeepBut w w2 g none:=h.trans k (.inl rfl)
theorem spec_l1New_l0 (c:List Int) (hc:c.length≤1048576):∀ (n k:Nat) (h i:Int),0≤i→4000≤i+n→n < k→∃ h',spec_l1New.l0 k c h i=some (c,0,h'):=by
 intro n
 induction n with
 | zero =>
  intro k h i h0 hi hk;obtain ⟨k,rfl⟩:∃ j,k=j+1:=⟨k - 1,by omega⟩;simp only [spec_l1New.l0];by_cases q:i < (c.length:Int)
  ·rw [if_pos q,if_neg (by omega)];exact ⟨_,rfl⟩
  ·rw [if_neg q];exact ⟨_,rfl⟩
 | succ n ih =>
  intro k h i h0 hi hk;obtain ⟨k,rfl⟩:∃ j,k=j+1:=⟨k - 1,by omega⟩;simp only [spec_l1New.l0];by_cases q:i < (c.length:Int)
  ·rw [if_pos q];by_cases q2:i < 4000
   ·rw [if_pos q2,if_pos h0,show wrap64 (i+1)=i+1 by unfold wrap64;omega];exact ih k _ _ (by omega) (by omega) (by omega)
   ·rw [if_neg q2];exact ⟨_,rfl⟩
  ·rw [if_neg q];exact ⟨_,rfl⟩
theorem spec_l1New.e (A0:Option Addr) (c0:Nat) (c:List Int) (w:World) (hr0:Kd.C (Kd.int .u8) w A0 c.length c) (hc0:c.length≤c0) (hl:c.length≤1048576) :
 Calls Tryz.prog 17 #[.slice A0 c.length c0] w fun e w'=>∃ g:Nat,e = .returned (.pointer (some ⟨g,0,none⟩))∧Cur w w' g c∧Below w.heap.size w w':=by
 obtain ⟨h',e⟩:=spec_l1New_l0 c hl 4000 4001 (wrap64 (71933+(c.length:Int))) 0 (by omega) (by omega) (by omega);refine (spec_l1New.calls 4001 A0 c0 c c 0 h' w w (Below.refl _ _) hr0 hc0 e).mono ?_;rintro e w' ⟨g,he,hI,hB,_⟩;exact ⟨g,he,⟨0,h',hI,by omega,by omega⟩,hB⟩
section
variable {w0 w:World} {g:Nat} {c:List Int}
theorem spec_l1Below.e (n:Int) (hI:Cur w0 w g c) (hB:Below w0.heap.size w0 w) (hc:c.length≤1048576) (hn:n≤2147483648) :
 Calls Tryz.prog 20 #[.pointer (some ⟨g,0,none⟩),.int .i64 n] w fun e w'=>∃ r:Int,e = .returned (.int .i64 r)∧(0≤r∧(0 < n→r < n)∧(n≤0→r=0))∧Drew w0 w w' g c:=by
 obtain ⟨i,h,hI,h0,h1⟩:=hI;obtain ⟨r,j,h',e,hr,hj0,hj1⟩:=l1Below_is c i h n h0 h1 hc hn;refine (spec_l1Below.calls g c i h n r j h' w0 w hI hB e).mono ?_;rintro e w' ⟨he,hI',hB',hK⟩;exact ⟨r,he,hr,⟨⟨j,h',hI',hj0,hj1⟩,hB',hK⟩⟩
theorem spec_l1Once.e (n:Int) (hI:Cur w0 w g c) (hB:Below w0.heap.size w0 w) (hc:c.length≤1048576) (hn:n≤2147483648) :
 Calls Tryz.prog 48 #[.pointer (some ⟨g,0,none⟩),.int .i64 n] w fun e w'=>∃ r:Bool,e = .returned (.bool r)∧Drew w0 w w' g c:=by
 obtain ⟨i,h,hI,h0,h1⟩:=hI;obtain ⟨r,j,h',e,hr,hj0,hj1⟩:=l1Below_is c i h n h0 h1 hc hn;refine (spec_l1Once.calls g c i h n (r == 0) j h' w0 w hI hB (by unfold spec_l1Once.f;rw [e];rfl)).mono ?_;rintro e w' ⟨he,hI',hB',hK⟩;exact ⟨_,he,⟨⟨j,h',hI',hj0,hj1⟩,hB',hK⟩⟩
theorem spec_l1Pick.e (A1:Option Addr) (c1:Nat) (l1:List ByteArray) (hI:Cur w0 w g c) (hB:Below w0.heap.size w0 w) (hc:c.length≤1048576) (hr1:Kd.C Kd.string w A1 l1.length l1) (hc1:l1.length≤c1) (hf1:∀ ad,A1=some ad→0 < l1.length→ad.block≠g) (hl:0 < l1.length) (hl2:l1.length≤1048576) :
 Calls Tryz.prog 82 #[.pointer (some ⟨g,0,none⟩),.slice A1 l1.length c1] w fun e w'=>∃ r:ByteArray,e = .returned (.string r)∧r∈l1∧Drew w0 w w' g c:=by
 obtain ⟨i,h,hI,h0,h1⟩:=hI;obtain ⟨r,j,h',e,⟨hr0,hr1',_⟩,hj0,hj1⟩:=l1Below_is c i h (l1.length:Int) h0 h1 hc (by omega);have hr2:=hr1' (by omega);refine (spec_l1Pick.calls g c i h A1 c1 l1 (rdOf ByteArray.empty l1 r) j h' w0 w hI hB hr1 hc1 hf1 (by unfold spec_l1Pick.f;rw [e];simp only [Option.bind_some];rw [if_pos hr0,if_pos hr2])).mono ?_;rintro e w' ⟨he,hI',hB',hK⟩;exact ⟨_,he,by unfold rdOf;exact mem_at hr0 hr2,⟨⟨j,h',hI',hj0,hj1⟩,hB',hK⟩⟩
theorem l1PickInt_is (c:List Int) (i h:Int) (l:List Int) (h0:0≤i) (h1:i≤(c.length:Int)) (hc:c.length≤1048576) (hl:0 < l.length) (hl2:l.length≤1048576):∃ r j h',spec_l1PickInt.f c i h l=some (r,j,h')∧r∈l∧0≤j∧j≤(c.length:Int):=by
 obtain ⟨r,j,h',e,⟨hr0,hr1',_⟩,hj0,hj1⟩:=l1Below_is c i h (l.length:Int) h0 h1 hc (by omega);have hr2:=hr1' (by omega);exact ⟨rd l r,j,h',by unfold spec_l1PickInt.f;rw [e];simp only [Option.bind_some];rw [if_pos hr0,if_pos hr2],by unfold rd;exact mem_at hr0 hr2,hj0,hj1⟩
theorem spec_l1PickInt.e (A1:Option Addr) (c1:Nat) (l1:List Int) (hI:Cur w0 w g c) (hB:Below w0.heap.size w0 w) (hc:c.length≤1048576) (hr1:Kd.C (Kd.int .i64) w A1 l1.length l1) (hc1:l1.length≤c1) (hf1:∀ ad,A1=some ad→0 < l1.length→ad.block≠g) (hl:0 < l1.length) (hl2:l1.length≤1048576) :
 Calls Tryz.prog 49 #[.pointer (some ⟨g,0,none⟩),.slice A1 l1.length c1] w fun e w'=>∃ r:Int,e = .returned (.int .i64 r)∧r∈l1∧Drew w0 w w' g c:=by
 obtain ⟨i,h,hI,h0,h1⟩:=hI;obtain ⟨r,j,h',e,hm,hj0,hj1⟩:=l1PickInt_is c i h l1 h0 h1 hc hl hl2;refine (spec_l1PickInt.calls g c i h A1 c1 l1 r j h' w0 w hI hB hr1 hc1 hf1 e).mono ?_;rintro e w' ⟨he,hI',hB',hK⟩;exact ⟨_,he,hm,⟨⟨j,h',hI',hj0,hj1⟩,hB',hK⟩⟩
theorem spec_l1DrawName.e (hI:Cur w0 w g c) (hB:Below w0.heap.size w0 w) (hc:c.length≤1048576) :
 Calls Tryz.prog 80 #[.pointer (some ⟨g,0,none⟩)] w fun e w'=>∃ r:ByteArray,e = .returned (.string r)∧r.size≤20∧Drew w0 w w' g c:=by
 obtain ⟨i,h,hI,h0,h1⟩:=hI;obtain ⟨r,j,h',e,⟨hr0,hr1',_⟩,hj0,hj1⟩:=l1Below_is c i h 15 h0 h1 hc (by omega);have hr2:=hr1' (by omega)
 have key:∀ l:List ByteArray,l.length=15→(∀ x∈l,x.size≤20)→∃ s,s.size≤20∧spec_l1Pick.f c i h l=some (s,j,h'):=by
  intro l hl hx;refine ⟨rdOf ByteArray.empty l r,hx _ (by unfold rdOf;exact mem_at hr0 (by omega)),?_⟩;unfold spec_l1Pick.f;rw [show ((l.length:Nat):Int)=15 by omega,e];simp only [Option.bind_some];rw [if_pos hr0,if_pos hr2]
 obtain ⟨s,hs,es⟩:=key [(⟨#[98,97,110,107]⟩:ByteArray),(⟨#[99,97,115,104]⟩:ByteArray),(⟨#[115,97,108,101,115]⟩:ByteArray),(⟨#[115,116,111,99,107]⟩:ByteArray),(⟨#[97]⟩:ByteArray),(⟨#[98]⟩:ByteArray),(⟨#[99,45,49]⟩:ByteArray),(⟨#[100,117,101,115]⟩:ByteArray),(⟨#[116,97,120,46,100,117,101]⟩:ByteArray),(⟨#[82,50]⟩:ByteArray),(⟨#[103,111,111,100,115]⟩:ByteArray),(⟨#[119,97,103,101,115]⟩:ByteArray),(⟨#[114,101,110,116]⟩:ByteArray),(⟨#[120,95,121]⟩:ByteArray),(⟨#[112,108,97,110,116]⟩:ByteArray)] rfl (by decide);refine (spec_l1DrawName.calls g c i h s j h' w0 w hI hB (by unfold spec_l1DrawName.f;rw [es];rfl)).mono ?_;rintro e w' ⟨he,hI',hB',hK⟩;exact ⟨s,he,hs,⟨⟨j,h',hI',hj0,hj1⟩,hB',hK⟩⟩
end
end Go.Proofs.YtnknanppoenigaaGreatDoor.Q
