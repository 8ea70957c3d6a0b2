/- Parts of the proof: what functions of the program and of the reference answer.
   No condition. -/
import Derived.Test.YtnknanppoenigaaGreatDoorZSpreadBooks1
import Derived.Test.YtnknanppoenigaaGreatDoorZSpreadBooks3
import Derived.Test.YtnknanppoenigaaGreatDoorZSpreadBooks11
import Derived.Test.YtnknanppoenigaaGreatDoorZSpreadBooks2
import Derived.Test.YtnknanppoenigaaGreatDoorZSpreadBooks8
namespace Go.Proofs.YtnknanppoenigaaGreatDoor.Q
open Go.RowKit Go.Proofs.YtnknanppoenigaaGreatDoorW.PrintWords Go.Proofs.YtnknanppoenigaaGreatDoorW.PrintLast Go.Proofs.YtnknanppoenigaaGreatDoorW.PrintMore
attribute [local go_sem] max2_int min2_int max_two min_two max_three min_three max_four min_four
set_option linter.unusedVariables false
set_option linter.unusedSimpArgs false
set_option maxHeartbeats 16000000 in
set_option maxRecDepth 100000 in
theorem impl_BooksOk.to (A0:Option Addr) (c0:Nat) (l0:List Acc) (dims curs:Int) (A1:Option Addr) (c1:Nat) (l1:List Ent) (h:Int) (A2:Option Addr) (c2:Nat) (l2:List Per) (closed kept:Int) (w:World) (hr0:Kd.C k48 w A0 l0.length l0) (hs:∀ x∈l0,x.f0.size≤maxLen) (hr1:Kd.C k41 w A1 l1.length l1) (hm:∀ e∈l1,e.f2.size≤maxLen) (hr2:Kd.C k63 w A2 l2.length l2) :
 Calls Tryz.prog 8 #[.agg #[.slice A0 l0.length c0,.int .i64 dims,.int .i64 curs,.slice A1 l1.length c1,.int .i64 h,.slice A2 l2.length c2,.int .i64 closed,.int .i64 kept]] w fun x w'=>x = .returned (.bool (booksB l0 dims curs l1 h l2 closed kept))∧Below w.heap.size w w':=by
 have hl0:=hr0.2.1;have hl2:=hr2.2.1;have H0:=Aside0.mk hr0;have H1:=Aside0.mk hr1;have H2:=Aside0.mk hr2;have HS:=Aside0.mk hs;have HM:=Aside0.mk hm;have HB0:=Aside0.mk (below_alloc (Below.refl w.heap.size w) (.cells #[.slice A0 l0.length c0,.int .i64 dims,.int .i64 curs,.slice A1 l1.length c1,.int .i64 h,.slice A2 l2.length c2,.int .i64 closed,.int .i64 kept] 32));clear hr0 hr1 hr2 hs hm
 go_enter Tryz.func8,Tryz.ntmps8
 go_wp2_with fail
 refine (impl_LedgerOk.to A0 c0 l0 dims curs A1 c1 l1 h _ (Kd.C_below H0.out HB0.out) HS.out (Kd.C_below H1.out HB0.out) HM.out).mono ?_;rintro x w1 ⟨rfl,hb⟩;have HB:=Aside0.mk (below_into (w:=w) hb HB0.out);have f0:w1.cell? ⟨w.heap.size,0,none⟩=some (.slice A0 l0.length c0):=y01 hb (by go_simp);have f5:w1.cell? ⟨w.heap.size,5,none⟩=some (.slice A2 l2.length c2):=y01 hb (by go_simp);have f6:w1.cell? ⟨w.heap.size,6,none⟩=some (.int .i64 closed):=y01 hb (by go_simp);have f7:w1.cell? ⟨w.heap.size,7,none⟩=some (.int .i64 kept):=y01 hb (by go_simp);clear hb;cases q1:ledgerB l0 dims curs l1 h with
 | false =>
  have HN:=Aside0.mk (booksB_not (fun q=>by have:=ledgerB_true.2 q.1;rw [q1] at this;cases this):false=booksB l0 dims curs l1 h l2 closed kept);clear q1
  go_wp2_with fail
  go_ret
  exact ⟨ret_bool HN.out,HB.out⟩
 | true =>
  have HL:=Aside0.mk (ledgerB_true.1 q1);clear q1;by_cases n1:l2.length < 1
  case pos =>
   have HN:=Aside0.mk (booksB_not (fun q=>by have:=q.2.1.1;omega):false=booksB l0 dims curs l1 h l2 closed kept)
   go_wp2_with fail
   go_ret
   exact ⟨ret_bool HN.out,HB.out⟩
  by_cases n2:60 < l2.length
  case pos =>
   have HN:=Aside0.mk (booksB_not (fun q=>by have:=q.2.1.1;omega):false=booksB l0 dims curs l1 h l2 closed kept)
   go_wp2_with fail
   go_ret
   exact ⟨ret_bool HN.out,HB.out⟩
  go_wp2_with fail
  refine (impl_between.to _ _ _ _).mono ?_;rintro x w' ⟨rfl,rfl⟩;cases q3:inB closed 0 (l2.length:Int) with
  | false =>
   have HN:=Aside0.mk (booksB_not (fun q=>inB_false.1 q3 q.2.2.1):false=booksB l0 dims curs l1 h l2 closed kept);clear q3
   go_wp2_with fail
   go_ret
   exact ⟨ret_bool HN.out,HB.out⟩
  | true =>
   have HCL:=Aside0.mk (inB_true.1 q3);have HB1:=Aside0.mk (Below.refl w'.heap.size w');have F0:=Aside0.mk f0;have F5:=Aside0.mk f5;have F7:=Aside0.mk f7;clear q3
   go_wp2_with fail
   clear f0 f5 f6 f7
   go_loopw [35] (fun v wr=>∃ i:Int,0≤i∧i≤(l2.length:Int)∧v = .int .i64 i∧Aside0 (Below w'.heap.size w' wr)∧Aside0 (∀ j:Int,0≤j→j < i→perOk l2 j)) (fun v _=>(l2.length - (intOf v).toNat))
   case atStart=>exact ⟨0,by omega,by omega,rfl,HB1,⟨fun j h0 h1=>by omega⟩⟩
   case round =>
    clear HB1;obtain ⟨i,hi0,hi1,rfl,HB1,HO⟩:=hrel;have f0:=y01 HB1.out F0.out;have f5:=y01 HB1.out F5.out;have f7:=y01 HB1.out F7.out;have HBW:=Aside0.mk (below_into HB1.out HB.out);have hz0:=World.block_lt_of_cell? _ _ f0;by_cases hlt:i < (l2.length:Int)
    ·obtain ⟨ad,e0,x0,x1⟩:=at_T63 (Kd.C_below H2.out HBW.out) i hi0 hlt;cases e0;have HNO:=Aside0.mk (fun (q:¬ perOk l2 i)=>(booksB_not (fun y=>q (y.2.1.2 i hi0 hlt)):false=booksB l0 dims curs l1 h l2 closed kept));have HBX:=Aside0.mk (below_alloc HBW.out (.cells #[.int .i64 (rd_T63 l2 i).f0,.int .i64 (rd_T63 l2 i).f1] 63));have HBY:=Aside0.mk (HB1.out.alloc HB1.out.size (.cells #[.int .i64 (rd_T63 l2 i).f0,.int .i64 (rd_T63 l2 i).f1] 63));generalize hp0:(rd_T63 l2 i).f0=p0 at *;generalize hp1:(rd_T63 l2 i).f1=p1 at *;have HP0:=Aside0.mk hp0;have HP1:=Aside0.mk hp1;clear hp0 hp1;cases h1:inB p0 0 40000 with
     | false =>
      have C1:=Aside0.mk (fun W=>(h1 ▸ impl_isDay.to p0 W:Calls Tryz.prog 27 #[.int .i64 p0] W fun e w'=>e = .returned (.bool false)∧w'=W));have HN:=Aside0.mk (HNO.out (fun q=>inB_false.1 h1 (HP0.out ▸ q.1)));clear h1
      go_wp2_with fail
      go_quiet ((go_at_call 27;exact Calls.quiet_of_same (C1.out _)))
      go_wp2_with fail
      go_ret
      exact ⟨ret_bool HN.out,pw_below_drewN HBX.out _⟩
     | true =>
      have C1:=Aside0.mk (fun W=>(h1 ▸ impl_isDay.to p0 W:Calls Tryz.prog 27 #[.int .i64 p0] W fun e w'=>e = .returned (.bool true)∧w'=W));obtain ⟨a0,a1⟩:=inB_true.1 h1;clear h1;cases h2:inB p1 0 40000 with
      | false =>
       have C2:=Aside0.mk (fun W=>(h2 ▸ impl_isDay.to p1 W:Calls Tryz.prog 27 #[.int .i64 p1] W fun e w'=>e = .returned (.bool false)∧w'=W));have HN:=Aside0.mk (HNO.out (fun q=>inB_false.1 h2 (HP1.out ▸ q.2.1)));clear h2
       go_wp2_with fail
       go_quiet ((go_at_call 27;(first | exact Calls.quiet_of_same (C1.out _) | exact Calls.quiet_of_same (C2.out _))))
       go_wp2_with fail
       go_ret
       exact ⟨ret_bool HN.out,pw_below_drewN HBX.out _⟩
      | true =>
       have C2:=Aside0.mk (fun W=>(h2 ▸ impl_isDay.to p1 W:Calls Tryz.prog 27 #[.int .i64 p1] W fun e w'=>e = .returned (.bool true)∧w'=W));obtain ⟨b0,b1⟩:=inB_true.1 h2;clear h2;by_cases h3:p1 < p0
       ·have HN:=Aside0.mk (HNO.out (fun q=>by have:=q.2.2.1;rw [HP0.out,HP1.out] at this;omega));have h3b:decide (p1 < p0)=true:=decide_eq_true h3
        go_wp2_with fail
        go_quiet ((go_at_call 27;(first | exact Calls.quiet_of_same (C1.out _) | exact Calls.quiet_of_same (C2.out _))))
        go_wp2_with fail
        go_ret
        exact ⟨ret_bool HN.out,pw_below_drewN HBX.out _⟩
       ·have h3b:decide (p1 < p0)=false:=decide_eq_false h3;by_cases h4:0 < i
        ·obtain ⟨j,hj⟩:∃ j:Int,j=i - 1:=⟨_,rfl⟩;have hj0:0≤j:=by omega
         have hj1:j < (l2.length:Int):=by omega
         have hwr:IntKind.i64.wrap (i - 1)=j:=by unfold IntKind.wrap;simp [IntKind.bits];omega
         obtain ⟨bd,e1,y0,y1⟩:=at_T63 (Kd.C_below H2.out HBW.out) j hj0 hj1;obtain rfl:ad=bd:=by injection e1
         have hz1:=World.block_lt_of_cell? _ _ y1;obtain ⟨m0,m1⟩:=(HO.out j hj0 (by omega)).2.1;have HJ:=Aside0.mk hj;clear hj;generalize hq1:(rd_T63 l2 j).f1=q1 at *;have HQ1:=Aside0.mk hq1;clear hq1;have hwr2:IntKind.i64.wrap (q1+1)=q1+1:=by unfold IntKind.wrap;simp [IntKind.bits];omega
         have h4b:decide (0 < i)=true:=decide_eq_true h4;by_cases h7:p0=q1+1
         ·have h7b:(p0 != q1+1)=false:=by rw [h7];exact bne_self_eq_false' _
          have HO2:=Aside0.mk (per_step HO.out (show perOk l2 i from ⟨by rw [HP0.out];exact ⟨a0,a1⟩,by rw [HP1.out];exact ⟨b0,b1⟩,by rw [HP0.out,HP1.out];omega,fun q=>by rw [HP0.out,← HJ.out,HQ1.out];exact h7⟩));clear h7
          go_wp2_with fail
          go_quiet ((go_at_call 27;(first | exact Calls.quiet_of_same (C1.out _) | exact Calls.quiet_of_same (C2.out _))))
          clear hwr hwr2
          go_wp2_with fail
          go_roundw
          case rel=>exact ⟨i+1,by omega,by omega,rfl,⟨pw_below_drewN HBY.out _⟩,HO2⟩
          case measure=>simp [intOf];omega
         ·have h7b:(p0 != q1+1)=true:=bne_iff_ne.2 h7;have HN:=Aside0.mk (HNO.out (fun q=>by have:=q.2.2.2 h4;rw [HP0.out,← HJ.out,HQ1.out] at this;exact h7 this));clear h7
          go_wp2_with fail
          go_quiet ((go_at_call 27;(first | exact Calls.quiet_of_same (C1.out _) | exact Calls.quiet_of_same (C2.out _))))
          clear hwr hwr2
          go_wp2_with fail
          go_ret
          exact ⟨ret_bool HN.out,pw_below_drewN HBX.out _⟩
        ·have h4b:decide (0 < i)=false:=decide_eq_false h4;have HO2:=Aside0.mk (per_step HO.out (show perOk l2 i from ⟨by rw [HP0.out];exact ⟨a0,a1⟩,by rw [HP1.out];exact ⟨b0,b1⟩,by rw [HP0.out,HP1.out];omega,fun q=>absurd q h4⟩))
         go_wp2_with fail
         go_quiet ((go_at_call 27;(first | exact Calls.quiet_of_same (C1.out _) | exact Calls.quiet_of_same (C2.out _))))
         go_wp2_with fail
         go_roundw
         case rel=>exact ⟨i+1,by omega,by omega,rfl,⟨pw_below_drewN HBY.out _⟩,HO2⟩
         case measure=>simp [intOf];omega
    ·have HY:=Aside0.mk (show yearP l2 from ⟨by omega,fun j h0 h1=>HO.out j h0 (by omega)⟩);clear f5;cases q4:leafB l0 kept with
     | false =>
      have HN:=Aside0.mk (booksB_not (fun q=>by have:=leafB_of q.2.2.2.1;rw [q4] at this;cases this):false=booksB l0 dims curs l1 h l2 closed kept);have C1:=Aside0.mk (fun W (hW:Kd.C k48 W A0 l0.length l0)=>(q4 ▸ impl_leafAt.to A0 c0 l0 kept W hW:Calls Tryz.prog 28 #[.slice A0 l0.length c0,.int .i64 kept] W fun e w'=>e = .returned (.bool false)∧w'=W));have HC:=Aside0.mk (Kd.C_below H0.out HBW.out);clear q4
      go_wp2_with fail
      (refine (C1.out _ HC.out).mono ?_;rintro x w6 ⟨rfl,rfl⟩)
      go_wp2_with fail
      go_ret
      exact ⟨ret_bool HN.out,HBW.out⟩
     | true =>
      have hlf:=leafB_true.1 q4;have HLF:=Aside0.mk hlf;obtain ⟨k0,k1,_⟩:=hlf;have C1:=Aside0.mk (fun W (hW:Kd.C k48 W A0 l0.length l0)=>(q4 ▸ impl_leafAt.to A0 c0 l0 kept W hW:Calls Tryz.prog 28 #[.slice A0 l0.length c0,.int .i64 kept] W fun e w'=>e = .returned (.bool true)∧w'=W));have HC:=Aside0.mk (Kd.C_below H0.out HBW.out);clear q4;obtain ⟨ad,e0,x0,x1,x2⟩:=at_T48 HC.out kept k0 k1;cases e0;by_cases q5:(rd_T48 l0 kept).f2=3
      ·have q5b:((rd_T48 l0 kept).f2 == 3)=true:=beq_iff_eq.2 q5;have HBK:=Aside0.mk (booksB_true.2 (show booksP l0 dims curs l1 h l2 closed kept from ⟨HL.out,HY.out,HCL.out,HLF.out,q5⟩));clear q5
       go_wp2_with fail
       (refine (C1.out _ HC.out).mono ?_;rintro x w6 ⟨rfl,rfl⟩)
       go_wp2_with fail
       go_ret
       exact ⟨ret_bool HBK.out.symm,HBW.out⟩
      ·have q5b:((rd_T48 l0 kept).f2 == 3)=false:=beq_eq_false_iff_ne.2 q5;have HN:=Aside0.mk (booksB_not (fun q=>q5 q.2.2.2.2):false=booksB l0 dims curs l1 h l2 closed kept);clear q5
       go_wp2_with fail
       (refine (C1.out _ HC.out).mono ?_;rintro x w6 ⟨rfl,rfl⟩)
       go_wp2_with fail
       go_ret
       exact ⟨ret_bool HN.out,HBW.out⟩
end Go.Proofs.YtnknanppoenigaaGreatDoor.Q
