/- Parts of the proof: what functions of the program and of the reference answer.
   No condition. -/
import Derived.Test.YtnknanppoenigaaGreatDoorZSpreadBooks1
import Derived.Test.YtnknanppoenigaaGreatDoorZSpreadBooks2
import Derived.BigRegion
namespace Go.Proofs.YtnknanppoenigaaGreatDoor.Q
open Go.RowKit Go.Proofs.YtnknanppoenigaaGreatDoorW.PrintWords Go.Proofs.YtnknanppoenigaaGreatDoorW.PrintLast Go.Proofs.YtnknanppoenigaaGreatDoorW.PrintMore
set_option linter.unusedVariables false
set_option linter.unusedSimpArgs false
noncomputable def spec_l1Byte.f (s0_0:List Int) (s0_1:Int) (s0_2:Int):Option (Int × Int × Int):=if s0_1 < (s0_0.length:Int) then (if 0≤s0_1 then (some (Go.bits .and .i64 (wrap64 ((Go.bits .and .i64 (Go.bits .xor .i64 ((wrap64 ((wrap64 (s0_2 * 6364136223846793005))+1442695040888963407)) / 8589934592) ((wrap64 ((wrap64 (s0_2 * 6364136223846793005))+1442695040888963407)) / 35184372088832)) 255)+(wrap64 (rd s0_0 s0_1)))) 255,wrap64 (s0_1+1),wrap64 ((wrap64 (s0_2 * 6364136223846793005))+1442695040888963407))) else (none)) else (some (Go.bits .and .i64 (Go.bits .xor .i64 ((wrap64 ((wrap64 (s0_2 * 6364136223846793005))+1442695040888963407)) / 8589934592) ((wrap64 ((wrap64 (s0_2 * 6364136223846793005))+1442695040888963407)) / 35184372088832)) 255,s0_1,wrap64 ((wrap64 (s0_2 * 6364136223846793005))+1442695040888963407)))
set_option maxHeartbeats 8000000 in
set_option maxRecDepth 100000 in
theorem spec_l1Byte.calls (g:Nat) (s0_0:List Int) (s0_1:Int) (s0_2:Int) (r1:Int) (r2:Int) (r3:Int) (w0 w:World) (hI:IsS93 w0 w g s0_0 s0_1 s0_2) (hB:Below w0.heap.size w0 w) (h:spec_l1Byte.f s0_0 s0_1 s0_2=some (r1,r2,r3)) :
 Calls Tryz.prog 53 #[.pointer (some ⟨g,0,none⟩)] w fun e w'=>e = .returned (.int .i64 r1)∧IsS93 w0 w' g s0_0 r2 r3∧Below w0.heap.size w0 w'∧KeepBut w w' g none:=by
 have HI0:=Aside0.mk hI;have HK:=Aside0.mk (KeepBut.refl w g none);have HL:=Aside0.mk hB.size;clear hI;have HW0:=Aside0.mk hB.size;have HB:=Aside0.mk hB;clear hB;have H:(if s0_1 < (s0_0.length:Int) then (if 0≤s0_1 then (some (Go.bits .and .i64 (wrap64 ((Go.bits .and .i64 (Go.bits .xor .i64 ((wrap64 ((wrap64 (s0_2 * 6364136223846793005))+1442695040888963407)) / 8589934592) ((wrap64 ((wrap64 (s0_2 * 6364136223846793005))+1442695040888963407)) / 35184372088832)) 255)+(wrap64 (rd s0_0 s0_1)))) 255,wrap64 (s0_1+1),wrap64 ((wrap64 (s0_2 * 6364136223846793005))+1442695040888963407))) else (none)) else (some (Go.bits .and .i64 (Go.bits .xor .i64 ((wrap64 ((wrap64 (s0_2 * 6364136223846793005))+1442695040888963407)) / 8589934592) ((wrap64 ((wrap64 (s0_2 * 6364136223846793005))+1442695040888963407)) / 35184372088832)) 255,s0_1,wrap64 ((wrap64 (s0_2 * 6364136223846793005))+1442695040888963407))))=some (r1,r2,r3):=h;clear h;by_cases c2:s0_1 < (s0_0.length:Int)
 ·rw [if_pos c2] at H;have c2b0:decide (s0_1 < (s0_0.length:Int))=true:=decide_eq_true c2;clear c2;by_cases c3:0≤s0_1
  ·rw [if_pos c3] at H;have c3b0:decide (0≤s0_1)=true:=decide_eq_true c3;clear c3;simp only [Option.some.injEq,Prod.mk.injEq] at H;obtain ⟨rfl,rfl,rfl⟩:=H;obtain ⟨ASz4_0,cSz4_0,HGz4,hgz4,HSz4_0⟩:=HI0.out;have hcz4_0:=cellS93_0 HGz4;have hcz4_1:=cellS93_1 HGz4;have hcz4_2:=cellS93_2 HGz4;have hfz4_1:=y02 HGz4 1;have hfz4_2:=y02 HGz4 2;clear HGz4 hgz4;have p54001:0≤(s0_1:Int):=of_decide_eq_true (by (with_reducible assumption));have q54001:s0_1 < (s0_0.length:Int):=of_decide_eq_true (by (with_reducible assumption));obtain ⟨ad54001,e54001,hx54001_0⟩:=Kd.at_int HSz4_0 s0_1 p54001 q54001;cases e54001;have hn54001_0:ad54001.block≠g:=Nat.ne_of_lt (Nat.lt_of_lt_of_le (by have:=World.block_lt_of_cell? _ _ hx54001_0;rwa [add_block] at this) (IsS93.ge HI0.out));replace hx54001_0:=y01 HB.out hx54001_0;replace hx54001_0:=(cell_far (p:=⟨g,2,none⟩) (by (rw [add_block];exact hn54001_0)) (.int .i64 (wrap64 ((wrap64 (s0_2 * 6364136223846793005))+1442695040888963407)))).trans hx54001_0;(try have hy54001_0:=fun (n_:Nat)=>(show (((w.drewN n_).setCell ⟨g,2,none⟩ (.int .i64 (wrap64 ((wrap64 (s0_2 * 6364136223846793005))+1442695040888963407))))).cell? _=some _ from hx54001_0));clear hn54001_0;replace p54001:=eq_true p54001;replace q54001:=eq_true q54001
   go_enter Tryz.func53,Tryz.ntmps53
   go_wp2
   repeat (go_quiet (fail);try go_wp2)
   go_ret
   exact ⟨by first | rfl | (simp [errW_none,errW_some] <;> rfl) | (simp [*,errW_none,errW_some] <;> rfl),by repeat ((with_reducible first | exact HI0.out | apply IsS93.drewN | apply IsS93.set_1 | apply IsS93.set_2)),by repeat ((with_reducible first | exact HB.out | apply pw_below_drewN | refine below_set ?_ (IsS93.ge HI0.out))),by repeat ((with_reducible first | exact HK.out | apply KeepBut.set_ | apply keep_drewN))⟩
  ·rw [if_neg c3] at H;exact absurd H (by simp)
 ·rw [if_neg c2] at H;have c2b0:decide (s0_1 < (s0_0.length:Int))=false:=decide_eq_false c2;clear c2;simp only [Option.some.injEq,Prod.mk.injEq] at H;obtain ⟨rfl,rfl,rfl⟩:=H;obtain ⟨ASz5_0,cSz5_0,HGz5,hgz5,HSz5_0⟩:=HI0.out;have hcz5_0:=cellS93_0 HGz5;have hcz5_1:=cellS93_1 HGz5;have hcz5_2:=cellS93_2 HGz5;have hfz5_1:=y02 HGz5 1;have hfz5_2:=y02 HGz5 2;clear HGz5 hgz5
  go_enter Tryz.func53,Tryz.ntmps53
  go_wp2
  repeat (go_quiet (fail);try go_wp2)
  go_ret
  exact ⟨by first | rfl | (simp [errW_none,errW_some] <;> rfl) | (simp [*,errW_none,errW_some] <;> rfl),by repeat ((with_reducible first | exact HI0.out | apply IsS93.drewN | apply IsS93.set_2)),by repeat ((with_reducible first | exact HB.out | apply pw_below_drewN | refine below_set ?_ (IsS93.ge HI0.out))),by repeat ((with_reducible first | exact HK.out | apply KeepBut.set_ | apply keep_drewN))⟩
noncomputable def spec_l1Below.f (s0_0:List Int) (s0_1:Int) (s0_2:Int) (a1:Int):Option (Int × Int × Int):=if a1≤0 then (some (0,s0_1,s0_2)) else (if a1≤256 then ((spec_l1Byte.f s0_0 s0_1 s0_2).bind fun bt21001=>(if a1=0 then (none) else (some (Int.tmod bt21001.1 a1,bt21001.2.1,bt21001.2.2)))) else ((spec_l1Byte.f s0_0 s0_1 s0_2).bind fun bt21004=>((spec_l1Byte.f s0_0 bt21004.2.1 bt21004.2.2).bind fun bt21007=>((spec_l1Byte.f s0_0 bt21007.2.1 bt21007.2.2).bind fun bt21010=>((spec_l1Byte.f s0_0 bt21010.2.1 bt21010.2.2).bind fun bt21013=>(if a1=0 then (none) else (some (Int.tmod (wrap64 ((wrap64 ((wrap64 ((wrap64 (bt21004.1 * 16777216))+(wrap64 (bt21007.1 * 65536))))+(wrap64 (bt21010.1 * 256))))+bt21013.1)) a1,bt21013.2.1,bt21013.2.2))))))))
set_option maxHeartbeats 8000000 in
set_option maxRecDepth 100000 in
theorem spec_l1Below.calls (g:Nat) (s0_0:List Int) (s0_1:Int) (s0_2:Int) (a1:Int) (r1:Int) (r2:Int) (r3:Int) (w0 w:World) (hI:IsS93 w0 w g s0_0 s0_1 s0_2) (hB:Below w0.heap.size w0 w) (h:spec_l1Below.f s0_0 s0_1 s0_2 a1=some (r1,r2,r3)) :
 Calls Tryz.prog 20 #[.pointer (some ⟨g,0,none⟩),.int .i64 a1] w fun e w'=>e = .returned (.int .i64 r1)∧IsS93 w0 w' g s0_0 r2 r3∧Below w0.heap.size w0 w'∧KeepBut w w' g none:=by
 have HI0:=Aside0.mk hI;have HK:=Aside0.mk (KeepBut.refl w g none);have HL:=Aside0.mk hB.size;clear hI;have HW0:=Aside0.mk hB.size;have HB:=Aside0.mk hB;clear hB;have H:(if a1≤0 then (some (0,s0_1,s0_2)) else (if a1≤256 then ((spec_l1Byte.f s0_0 s0_1 s0_2).bind fun bt21001=>(if a1=0 then (none) else (some (Int.tmod bt21001.1 a1,bt21001.2.1,bt21001.2.2)))) else ((spec_l1Byte.f s0_0 s0_1 s0_2).bind fun bt21004=>((spec_l1Byte.f s0_0 bt21004.2.1 bt21004.2.2).bind fun bt21007=>((spec_l1Byte.f s0_0 bt21007.2.1 bt21007.2.2).bind fun bt21010=>((spec_l1Byte.f s0_0 bt21010.2.1 bt21010.2.2).bind fun bt21013=>(if a1=0 then (none) else (some (Int.tmod (wrap64 ((wrap64 ((wrap64 ((wrap64 (bt21004.1 * 16777216))+(wrap64 (bt21007.1 * 65536))))+(wrap64 (bt21010.1 * 256))))+bt21013.1)) a1,bt21013.2.1,bt21013.2.2)))))))))=some (r1,r2,r3):=h;clear h;by_cases c3:a1≤0
 ·rw [if_pos c3] at H;have c3b0:decide (a1≤0)=true:=decide_eq_true c3;clear c3;simp only [Option.some.injEq,Prod.mk.injEq] at H;obtain ⟨rfl,rfl,rfl⟩:=H
  go_enter Tryz.func20,Tryz.ntmps20
  go_wp2
  go_ret
  exact ⟨by first | rfl | (simp [errW_none,errW_some] <;> rfl) | (simp [*,errW_none,errW_some] <;> rfl),by exact HI0.out,by exact HB.out,by exact HK.out⟩
 ·rw [if_neg c3] at H;have c3b0:decide (a1≤0)=false:=decide_eq_false c3;clear c3;by_cases c4:a1≤256
  ·rw [if_pos c4] at H;have c4b0:decide (a1≤256)=true:=decide_eq_true c4;clear c4;replace H:=Option.bind_eq_some_iff.mp H;obtain ⟨⟨t21001,t21002,t21003⟩,A50,H⟩:=H;replace H:(if a1=0 then (none) else (some (Int.tmod t21001 a1,t21002,t21003)))=some (r1,r2,r3):=H;have A5:=Aside0.mk A50;clear A50;by_cases c6:a1=0
   ·rw [if_pos c6] at H;exact absurd H (by simp)
   ·rw [if_neg c6] at H;have c6b0:(a1 == 0)=false:=beq_eq_false_iff_ne.mpr c6;have c6b1:(a1 != 0)=true:=bne_iff_ne.mpr c6;simp only [Option.some.injEq,Prod.mk.injEq] at H;obtain ⟨rfl,rfl,rfl⟩:=H
    go_enter Tryz.func20,Tryz.ntmps20
    go_wp2_with (((with_reducible refine gate_callee (f:=53) rfl ?_);refine goesL_ (some 14) rfl rfl Tryz.func53 (by kernel_rfl) rfl #[.pointer (some ⟨g,0,none⟩)] rfl (by (try simp only [List.map_toArray,List.map_cons,List.map_nil]);rfl) ?_;(with_reducible refine (spec_l1Byte.calls g s0_0 s0_1 s0_2 t21001 t21002 t21003 w0 _ ?side1 ?side2 A5.out).mono ?_);(case side1=>exact HI0.out);(case side2=>exact HB.out);rintro e w7 ⟨rfl,hi,hb,hk⟩;refine ⟨_,rfl,?_⟩;have n0_:=Aside0.mk (KeepBut.trans HK.out hk (.inl rfl));have n1_:=Aside0.mk (hb);have n2_:=Aside0.mk (hi);clear HK;clear HB;clear HI0;have HK:=n0_;have HB:=n1_;have HI0:=n2_;clear n0_ n1_ n2_;(try clear hb);(try clear hb2);(try clear hk);(try clear hi)))
    go_ret
    exact ⟨by first | rfl | (simp [errW_none,errW_some] <;> rfl) | (simp [*,errW_none,errW_some] <;> rfl),by exact HI0.out,by exact HB.out,by exact HK.out⟩
  ·rw [if_neg c4] at H;have c4b0:decide (a1≤256)=false:=decide_eq_false c4;clear c4;replace H:=Option.bind_eq_some_iff.mp H;obtain ⟨⟨t21004,t21005,t21006⟩,A80,H⟩:=H;replace H:((spec_l1Byte.f s0_0 t21005 t21006).bind fun bt21007=>((spec_l1Byte.f s0_0 bt21007.2.1 bt21007.2.2).bind fun bt21010=>((spec_l1Byte.f s0_0 bt21010.2.1 bt21010.2.2).bind fun bt21013=>(if a1=0 then (none) else (some (Int.tmod (wrap64 ((wrap64 ((wrap64 ((wrap64 (t21004 * 16777216))+(wrap64 (bt21007.1 * 65536))))+(wrap64 (bt21010.1 * 256))))+bt21013.1)) a1,bt21013.2.1,bt21013.2.2))))))=some (r1,r2,r3):=H;have A8:=Aside0.mk A80;clear A80;replace H:=Option.bind_eq_some_iff.mp H;obtain ⟨⟨t21007,t21008,t21009⟩,A90,H⟩:=H;replace H:((spec_l1Byte.f s0_0 t21008 t21009).bind fun bt21010=>((spec_l1Byte.f s0_0 bt21010.2.1 bt21010.2.2).bind fun bt21013=>(if a1=0 then (none) else (some (Int.tmod (wrap64 ((wrap64 ((wrap64 ((wrap64 (t21004 * 16777216))+(wrap64 (t21007 * 65536))))+(wrap64 (bt21010.1 * 256))))+bt21013.1)) a1,bt21013.2.1,bt21013.2.2)))))=some (r1,r2,r3):=H;have A9:=Aside0.mk A90;clear A90;replace H:=Option.bind_eq_some_iff.mp H;obtain ⟨⟨t21010,t21011,t21012⟩,A100,H⟩:=H;replace H:((spec_l1Byte.f s0_0 t21011 t21012).bind fun bt21013=>(if a1=0 then (none) else (some (Int.tmod (wrap64 ((wrap64 ((wrap64 ((wrap64 (t21004 * 16777216))+(wrap64 (t21007 * 65536))))+(wrap64 (t21010 * 256))))+bt21013.1)) a1,bt21013.2.1,bt21013.2.2))))=some (r1,r2,r3):=H;have A10:=Aside0.mk A100;clear A100;replace H:=Option.bind_eq_some_iff.mp H;obtain ⟨⟨t21013,t21014,t21015⟩,A110,H⟩:=H;replace H:(if a1=0 then (none) else (some (Int.tmod (wrap64 ((wrap64 ((wrap64 ((wrap64 (t21004 * 16777216))+(wrap64 (t21007 * 65536))))+(wrap64 (t21010 * 256))))+t21013)) a1,t21014,t21015)))=some (r1,r2,r3):=H;have A11:=Aside0.mk A110;clear A110;by_cases c12:a1=0
   ·rw [if_pos c12] at H;exact absurd H (by simp)
   ·rw [if_neg c12] at H;have c12b0:(a1 == 0)=false:=beq_eq_false_iff_ne.mpr c12;have c12b1:(a1 != 0)=true:=bne_iff_ne.mpr c12;simp only [Option.some.injEq,Prod.mk.injEq] at H;obtain ⟨rfl,rfl,rfl⟩:=H
    go_enter Tryz.func20,Tryz.ntmps20
    go_wp2_with (first | ((with_reducible refine gate_callee (f:=53) rfl ?_);refine goesL_ (some 18) rfl rfl Tryz.func53 (by kernel_rfl) rfl #[.pointer (some ⟨g,0,none⟩)] rfl (by (try simp only [List.map_toArray,List.map_cons,List.map_nil]);rfl) ?_;(with_reducible refine (spec_l1Byte.calls g s0_0 s0_1 s0_2 t21004 t21005 t21006 w0 _ ?side1 ?side2 A8.out).mono ?_);(case side1=>exact HI0.out);(case side2=>exact HB.out);rintro e w13 ⟨rfl,hi,hb,hk⟩;refine ⟨_,rfl,?_⟩;have n0_:=Aside0.mk (KeepBut.trans HK.out hk (.inl rfl));have n1_:=Aside0.mk (hb);have n2_:=Aside0.mk (hi);clear HK;clear HB;clear HI0;have HK:=n0_;have HB:=n1_;have HI0:=n2_;clear n0_ n1_ n2_;(try clear hb);(try clear hb2);(try clear hk);(try clear hi)) | ((with_reducible refine gate_callee (f:=53) rfl ?_);refine goesL_ (some 20) rfl rfl Tryz.func53 (by kernel_rfl) rfl #[.pointer (some ⟨g,0,none⟩)] rfl (by (try simp only [List.map_toArray,List.map_cons,List.map_nil]);rfl) ?_;(with_reducible refine (spec_l1Byte.calls g s0_0 t21005 t21006 t21007 t21008 t21009 w0 _ ?side1 ?side2 A9.out).mono ?_);(case side1=>exact HI0.out);(case side2=>exact HB.out);rintro e w14 ⟨rfl,hi,hb,hk⟩;refine ⟨_,rfl,?_⟩;have n0_:=Aside0.mk (KeepBut.trans HK.out hk (.inl rfl));have n1_:=Aside0.mk (hb);have n2_:=Aside0.mk (hi);clear HK;clear HB;clear HI0;have HK:=n0_;have HB:=n1_;have HI0:=n2_;clear n0_ n1_ n2_;(try clear hb);(try clear hb2);(try clear hk);(try clear hi)) | ((with_reducible refine gate_callee (f:=53) rfl ?_);refine goesL_ (some 22) rfl rfl Tryz.func53 (by kernel_rfl) rfl #[.pointer (some ⟨g,0,none⟩)] rfl (by (try simp only [List.map_toArray,List.map_cons,List.map_nil]);rfl) ?_;(with_reducible refine (spec_l1Byte.calls g s0_0 t21008 t21009 t21010 t21011 t21012 w0 _ ?side1 ?side2 A10.out).mono ?_);(case side1=>exact HI0.out);(case side2=>exact HB.out);rintro e w15 ⟨rfl,hi,hb,hk⟩;refine ⟨_,rfl,?_⟩;have n0_:=Aside0.mk (KeepBut.trans HK.out hk (.inl rfl));have n1_:=Aside0.mk (hb);have n2_:=Aside0.mk (hi);clear HK;clear HB;clear HI0;have HK:=n0_;have HB:=n1_;have HI0:=n2_;clear n0_ n1_ n2_;(try clear hb);(try clear hb2);(try clear hk);(try clear hi)) | ((with_reducible refine gate_callee (f:=53) rfl ?_);refine goesL_ (some 24) rfl rfl Tryz.func53 (by kernel_rfl) rfl #[.pointer (some ⟨g,0,none⟩)] rfl (by (try simp only [List.map_toArray,List.map_cons,List.map_nil]);rfl) ?_;(with_reducible refine (spec_l1Byte.calls g s0_0 t21011 t21012 t21013 t21014 t21015 w0 _ ?side1 ?side2 A11.out).mono ?_);(case side1=>exact HI0.out);(case side2=>exact HB.out);rintro e w16 ⟨rfl,hi,hb,hk⟩;refine ⟨_,rfl,?_⟩;have n0_:=Aside0.mk (KeepBut.trans HK.out hk (.inl rfl));have n1_:=Aside0.mk (hb);have n2_:=Aside0.mk (hi);clear HK;clear HB;clear HI0;have HK:=n0_;have HB:=n1_;have HI0:=n2_;clear n0_ n1_ n2_;(try clear hb);(try clear hb2);(try clear hk);(try clear hi)))
    go_ret
    exact ⟨by first | rfl | (simp [errW_none,errW_some] <;> rfl) | (simp [*,errW_none,errW_some] <;> rfl),by exact HI0.out,by exact HB.out,by exact HK.out⟩
noncomputable def spec_l1Once.f (s0_0:List Int) (s0_1:Int) (s0_2:Int) (a1:Int):Option (Bool × Int × Int):=(spec_l1Below.f s0_0 s0_1 s0_2 a1).bind fun bt49001=>(some ((bt49001.1 == 0),bt49001.2.1,bt49001.2.2))
set_option maxHeartbeats 8000000 in
set_option maxRecDepth 100000 in
theorem spec_l1Once.calls (g:Nat) (s0_0:List Int) (s0_1:Int) (s0_2:Int) (a1:Int) (r1:Bool) (r2:Int) (r3:Int) (w0 w:World) (hI:IsS93 w0 w g s0_0 s0_1 s0_2) (hB:Below w0.heap.size w0 w) (h:spec_l1Once.f s0_0 s0_1 s0_2 a1=some (r1,r2,r3)) :
 Calls Tryz.prog 48 #[.pointer (some ⟨g,0,none⟩),.int .i64 a1] w fun e w'=>e = .returned (.bool r1)∧IsS93 w0 w' g s0_0 r2 r3∧Below w0.heap.size w0 w'∧KeepBut w w' g none:=by
 have HI0:=Aside0.mk hI;have HK:=Aside0.mk (KeepBut.refl w g none);have HL:=Aside0.mk hB.size;clear hI;have HW0:=Aside0.mk hB.size;have HB:=Aside0.mk hB;clear hB;have H:((spec_l1Below.f s0_0 s0_1 s0_2 a1).bind fun bt49001=>(some ((bt49001.1 == 0),bt49001.2.1,bt49001.2.2)))=some (r1,r2,r3):=h;clear h;replace H:=Option.bind_eq_some_iff.mp H;obtain ⟨⟨t49001,t49002,t49003⟩,A30,H⟩:=H;replace H:(some ((t49001 == 0),t49002,t49003))=some (r1,r2,r3):=H;have A3:=Aside0.mk A30;clear A30;simp only [Option.some.injEq,Prod.mk.injEq] at H;obtain ⟨rfl,rfl,rfl⟩:=H
 go_enter Tryz.func48,Tryz.ntmps48
 go_wp2_with (((with_reducible refine gate_callee (f:=20) rfl ?_);refine goesL_ (some 7) rfl rfl Tryz.func20 (by kernel_rfl) rfl #[.pointer (some ⟨g,0,none⟩),.int .i64 a1] rfl (by (try simp only [List.map_toArray,List.map_cons,List.map_nil]);rfl) ?_;(with_reducible refine (spec_l1Below.calls g s0_0 s0_1 s0_2 a1 t49001 t49002 t49003 w0 _ ?side1 ?side2 A3.out).mono ?_);(case side1=>exact HI0.out);(case side2=>exact HB.out);rintro e w4 ⟨rfl,hi,hb,hk⟩;refine ⟨_,rfl,?_⟩;have n0_:=Aside0.mk (KeepBut.trans HK.out hk (.inl rfl));have n1_:=Aside0.mk (hb);have n2_:=Aside0.mk (hi);clear HK;clear HB;clear HI0;have HK:=n0_;have HB:=n1_;have HI0:=n2_;clear n0_ n1_ n2_;(try clear hb);(try clear hb2);(try clear hk);(try clear hi)))
 go_ret
 exact ⟨by first | rfl | (simp [errW_none,errW_some] <;> rfl) | (simp [*,errW_none,errW_some] <;> rfl),by exact HI0.out,by exact HB.out,by exact HK.out⟩
noncomputable def spec_l1Pick.f (s0_0:List Int) (s0_1:Int) (s0_2:Int) (l1:List ByteArray):Option (ByteArray × Int × Int):=(spec_l1Below.f s0_0 s0_1 s0_2 (l1.length:Int)).bind fun bt83001=>(if 0≤bt83001.1 then (if bt83001.1 < (l1.length:Int) then (some (rdOf ByteArray.empty l1 bt83001.1,bt83001.2.1,bt83001.2.2)) else (none)) else (none))
set_option maxHeartbeats 8000000 in
set_option maxRecDepth 100000 in
theorem spec_l1Pick.calls (g:Nat) (s0_0:List Int) (s0_1:Int) (s0_2:Int) (A1:Option Addr) (c1:Nat) (l1:List ByteArray) (r1:ByteArray) (r2:Int) (r3:Int) (w0 w:World) (hI:IsS93 w0 w g s0_0 s0_1 s0_2) (hB:Below w0.heap.size w0 w) (hr1:Kd.C Kd.string w A1 l1.length l1) (hc1:l1.length≤c1) (hf1:∀ ad,A1=some ad→0 < l1.length→ad.block≠g) (h:spec_l1Pick.f s0_0 s0_1 s0_2 l1=some (r1,r2,r3)) :
 Calls Tryz.prog 82 #[.pointer (some ⟨g,0,none⟩),.slice A1 l1.length c1] w fun e w'=>e = .returned (.string r1)∧IsS93 w0 w' g s0_0 r2 r3∧Below w0.heap.size w0 w'∧KeepBut w w' g none:=by
 have HR1:=Aside0.mk hr1;have HC1:=Aside0.mk hc1;clear hr1 hc1;have HI0:=Aside0.mk hI;have HK:=Aside0.mk (KeepBut.refl w g none);have HL:=Aside0.mk hB.size;clear hI;have HW0:=Aside0.mk hB.size;have HB:=Aside0.mk hB;clear hB;have H:((spec_l1Below.f s0_0 s0_1 s0_2 (l1.length:Int)).bind fun bt83001=>(if 0≤bt83001.1 then (if bt83001.1 < (l1.length:Int) then (some (rdOf ByteArray.empty l1 bt83001.1,bt83001.2.1,bt83001.2.2)) else (none)) else (none)))=some (r1,r2,r3):=h;clear h;replace H:=Option.bind_eq_some_iff.mp H;obtain ⟨⟨t83001,t83002,t83003⟩,A30,H⟩:=H;replace H:(if 0≤t83001 then (if t83001 < (l1.length:Int) then (some (rdOf ByteArray.empty l1 t83001,t83002,t83003)) else (none)) else (none))=some (r1,r2,r3):=H;have A3:=Aside0.mk A30;clear A30;by_cases c4:0≤t83001
 ·rw [if_pos c4] at H;have c4b0:decide (0≤t83001)=true:=decide_eq_true c4;clear c4;by_cases c5:t83001 < (l1.length:Int)
  ·rw [if_pos c5] at H;have c5b0:decide (t83001 < (l1.length:Int))=true:=decide_eq_true c5;clear c5;simp only [Option.some.injEq,Prod.mk.injEq] at H;obtain ⟨rfl,rfl,rfl⟩:=H
   go_enter Tryz.func82,Tryz.ntmps82
   go_wp2_with (((with_reducible refine gate_callee (f:=20) rfl ?_);refine goesL_ (some 9) rfl rfl Tryz.func20 (by kernel_rfl) rfl #[.pointer (some ⟨g,0,none⟩),.int .i64 (l1.length:Int)] rfl (by (try simp only [List.map_toArray,List.map_cons,List.map_nil]);rfl) ?_;(with_reducible refine (spec_l1Below.calls g s0_0 s0_1 s0_2 (l1.length:Int) t83001 t83002 t83003 w0 _ ?side1 ?side2 A3.out).mono ?_);(case side1=>exact HI0.out);(case side2=>exact HB.out);rintro e w6 ⟨rfl,hi,hb,hk⟩;refine ⟨_,rfl,?_⟩;have n0_:=Aside0.mk (KeepBut.trans HK.out hk (.inl rfl));have n1_:=Aside0.mk (hb);have n2_:=Aside0.mk (hi);clear HK;clear HB;clear HI0;have HK:=n0_;have HB:=n1_;have HI0:=n2_;clear n0_ n1_ n2_;(try clear hb);(try clear hb2);(try clear hk);(try clear hi);have p83004:0≤(t83001:Int):=of_decide_eq_true (by (with_reducible assumption));have q83004:t83001 < (l1.length:Int):=of_decide_eq_true (by (with_reducible assumption));obtain ⟨ad83004,e83004,hx83004_0⟩:=Kd.at_string HR1.out t83001 p83004 q83004;cases e83004;replace hx83004_0:=keep_cell HK.out hx83004_0 (by (rw [add_block];exact hf1 _ rfl (by omega)));replace p83004:=eq_true p83004;replace q83004:=eq_true q83004))
   go_ret
   exact ⟨by first | rfl | (simp [errW_none,errW_some] <;> rfl) | (simp [*,errW_none,errW_some] <;> rfl),by exact HI0.out,by exact HB.out,by exact HK.out⟩
  ·rw [if_neg c5] at H;exact absurd H (by simp)
 ·rw [if_neg c4] at H;exact absurd H (by simp)
noncomputable def spec_l1PickInt.f (s0_0:List Int) (s0_1:Int) (s0_2:Int) (l1:List Int):Option (Int × Int × Int):=(spec_l1Below.f s0_0 s0_1 s0_2 (l1.length:Int)).bind fun bt50001=>(if 0≤bt50001.1 then (if bt50001.1 < (l1.length:Int) then (some (rd l1 bt50001.1,bt50001.2.1,bt50001.2.2)) else (none)) else (none))
set_option maxHeartbeats 8000000 in
set_option maxRecDepth 100000 in
theorem spec_l1PickInt.calls (g:Nat) (s0_0:List Int) (s0_1:Int) (s0_2:Int) (A1:Option Addr) (c1:Nat) (l1:List Int) (r1:Int) (r2:Int) (r3:Int) (w0 w:World) (hI:IsS93 w0 w g s0_0 s0_1 s0_2) (hB:Below w0.heap.size w0 w) (hr1:Kd.C (Kd.int .i64) w A1 l1.length l1) (hc1:l1.length≤c1) (hf1:∀ ad,A1=some ad→0 < l1.length→ad.block≠g) (h:spec_l1PickInt.f s0_0 s0_1 s0_2 l1=some (r1,r2,r3)) :
 Calls Tryz.prog 49 #[.pointer (some ⟨g,0,none⟩),.slice A1 l1.length c1] w fun e w'=>e = .returned (.int .i64 r1)∧IsS93 w0 w' g s0_0 r2 r3∧Below w0.heap.size w0 w'∧KeepBut w w' g none:=by
 have HR1:=Aside0.mk hr1;have HC1:=Aside0.mk hc1;clear hr1 hc1;have HI0:=Aside0.mk hI;have HK:=Aside0.mk (KeepBut.refl w g none);have HL:=Aside0.mk hB.size;clear hI;have HW0:=Aside0.mk hB.size;have HB:=Aside0.mk hB;clear hB;have H:((spec_l1Below.f s0_0 s0_1 s0_2 (l1.length:Int)).bind fun bt50001=>(if 0≤bt50001.1 then (if bt50001.1 < (l1.length:Int) then (some (rd l1 bt50001.1,bt50001.2.1,bt50001.2.2)) else (none)) else (none)))=some (r1,r2,r3):=h;clear h;replace H:=Option.bind_eq_some_iff.mp H;obtain ⟨⟨t50001,t50002,t50003⟩,A30,H⟩:=H;replace H:(if 0≤t50001 then (if t50001 < (l1.length:Int) then (some (rd l1 t50001,t50002,t50003)) else (none)) else (none))=some (r1,r2,r3):=H;have A3:=Aside0.mk A30;clear A30;by_cases c4:0≤t50001
 ·rw [if_pos c4] at H;have c4b0:decide (0≤t50001)=true:=decide_eq_true c4;clear c4;by_cases c5:t50001 < (l1.length:Int)
  ·rw [if_pos c5] at H;have c5b0:decide (t50001 < (l1.length:Int))=true:=decide_eq_true c5;clear c5;simp only [Option.some.injEq,Prod.mk.injEq] at H;obtain ⟨rfl,rfl,rfl⟩:=H
   go_enter Tryz.func49,Tryz.ntmps49
   go_wp2_with (((with_reducible refine gate_callee (f:=20) rfl ?_);refine goesL_ (some 9) rfl rfl Tryz.func20 (by kernel_rfl) rfl #[.pointer (some ⟨g,0,none⟩),.int .i64 (l1.length:Int)] rfl (by (try simp only [List.map_toArray,List.map_cons,List.map_nil]);rfl) ?_;(with_reducible refine (spec_l1Below.calls g s0_0 s0_1 s0_2 (l1.length:Int) t50001 t50002 t50003 w0 _ ?side1 ?side2 A3.out).mono ?_);(case side1=>exact HI0.out);(case side2=>exact HB.out);rintro e w6 ⟨rfl,hi,hb,hk⟩;refine ⟨_,rfl,?_⟩;have n0_:=Aside0.mk (KeepBut.trans HK.out hk (.inl rfl));have n1_:=Aside0.mk (hb);have n2_:=Aside0.mk (hi);clear HK;clear HB;clear HI0;have HK:=n0_;have HB:=n1_;have HI0:=n2_;clear n0_ n1_ n2_;(try clear hb);(try clear hb2);(try clear hk);(try clear hi);have p50004:0≤(t50001:Int):=of_decide_eq_true (by (with_reducible assumption));have q50004:t50001 < (l1.length:Int):=of_decide_eq_true (by (with_reducible assumption));obtain ⟨ad50004,e50004,hx50004_0⟩:=Kd.at_int HR1.out t50001 p50004 q50004;cases e50004;replace hx50004_0:=keep_cell HK.out hx50004_0 (by (rw [add_block];exact hf1 _ rfl (by omega)));replace p50004:=eq_true p50004;replace q50004:=eq_true q50004))
   go_ret
   exact ⟨by first | rfl | (simp [errW_none,errW_some] <;> rfl) | (simp [*,errW_none,errW_some] <;> rfl),by exact HI0.out,by exact HB.out,by exact HK.out⟩
  ·rw [if_neg c5] at H;exact absurd H (by simp)
 ·rw [if_neg c4] at H;exact absurd H (by simp)
noncomputable def spec_l1DrawName.f (s0_0:List Int) (s0_1:Int) (s0_2:Int):Option (ByteArray × Int × Int):=(spec_l1Pick.f s0_0 s0_1 s0_2 (([(⟨#[98,97,110,107]⟩:ByteArray),(⟨#[99,97,115,104]⟩:ByteArray),(⟨#[115,97,108,101,115]⟩:ByteArray),(⟨#[115,116,111,99,107]⟩:ByteArray),(⟨#[97]⟩:ByteArray),(⟨#[98]⟩:ByteArray),(⟨#[99,45,49]⟩:ByteArray),(⟨#[100,117,101,115]⟩:ByteArray),(⟨#[116,97,120,46,100,117,101]⟩:ByteArray),(⟨#[82,50]⟩:ByteArray),(⟨#[103,111,111,100,115]⟩:ByteArray),(⟨#[119,97,103,101,115]⟩:ByteArray),(⟨#[114,101,110,116]⟩:ByteArray),(⟨#[120,95,121]⟩:ByteArray),(⟨#[112,108,97,110,116]⟩:ByteArray)]:List ByteArray))).bind fun bt81004=>(some (bt81004.1,bt81004.2.1,bt81004.2.2))
set_option maxHeartbeats 8000000 in
set_option maxRecDepth 100000 in
theorem spec_l1DrawName.calls (g:Nat) (s0_0:List Int) (s0_1:Int) (s0_2:Int) (r1:ByteArray) (r2:Int) (r3:Int) (w0 w:World) (hI:IsS93 w0 w g s0_0 s0_1 s0_2) (hB:Below w0.heap.size w0 w) (h:spec_l1DrawName.f s0_0 s0_1 s0_2=some (r1,r2,r3)) :
 Calls Tryz.prog 80 #[.pointer (some ⟨g,0,none⟩)] w fun e w'=>e = .returned (.string r1)∧IsS93 w0 w' g s0_0 r2 r3∧Below w0.heap.size w0 w'∧KeepBut w w' g none:=by
 have HI0:=Aside0.mk hI;have HK:=Aside0.mk (KeepBut.refl w g none);have HL:=Aside0.mk hB.size;clear hI;have HW0:=Aside0.mk hB.size;have HB:=Aside0.mk hB;clear hB;have H:((spec_l1Pick.f s0_0 s0_1 s0_2 (([(⟨#[98,97,110,107]⟩:ByteArray),(⟨#[99,97,115,104]⟩:ByteArray),(⟨#[115,97,108,101,115]⟩:ByteArray),(⟨#[115,116,111,99,107]⟩:ByteArray),(⟨#[97]⟩:ByteArray),(⟨#[98]⟩:ByteArray),(⟨#[99,45,49]⟩:ByteArray),(⟨#[100,117,101,115]⟩:ByteArray),(⟨#[116,97,120,46,100,117,101]⟩:ByteArray),(⟨#[82,50]⟩:ByteArray),(⟨#[103,111,111,100,115]⟩:ByteArray),(⟨#[119,97,103,101,115]⟩:ByteArray),(⟨#[114,101,110,116]⟩:ByteArray),(⟨#[120,95,121]⟩:ByteArray),(⟨#[112,108,97,110,116]⟩:ByteArray)]:List ByteArray))).bind fun bt81004=>(some (bt81004.1,bt81004.2.1,bt81004.2.2)))=some (r1,r2,r3):=h;clear h;obtain ⟨y81001,hy81001⟩:∃ y_:List ByteArray,y_=(([(⟨#[98,97,110,107]⟩:ByteArray),(⟨#[99,97,115,104]⟩:ByteArray),(⟨#[115,97,108,101,115]⟩:ByteArray),(⟨#[115,116,111,99,107]⟩:ByteArray),(⟨#[97]⟩:ByteArray),(⟨#[98]⟩:ByteArray),(⟨#[99,45,49]⟩:ByteArray),(⟨#[100,117,101,115]⟩:ByteArray),(⟨#[116,97,120,46,100,117,101]⟩:ByteArray),(⟨#[82,50]⟩:ByteArray),(⟨#[103,111,111,100,115]⟩:ByteArray),(⟨#[119,97,103,101,115]⟩:ByteArray),(⟨#[114,101,110,116]⟩:ByteArray),(⟨#[120,95,121]⟩:ByteArray),(⟨#[112,108,97,110,116]⟩:ByteArray)]:List ByteArray)):=⟨_,rfl⟩;replace H:((spec_l1Pick.f s0_0 s0_1 s0_2 y81001).bind fun bt81004=>(some (bt81004.1,bt81004.2.1,bt81004.2.2)))=some (r1,r2,r3):=by (rw [hy81001];with_reducible exact H)
 have Ny81001:=Aside0.mk hy81001;clear hy81001;replace H:=Option.bind_eq_some_iff.mp H;obtain ⟨⟨t81004,t81005,t81006⟩,A20,H⟩:=H;replace H:(some (t81004,t81005,t81006))=some (r1,r2,r3):=H;have A2:=Aside0.mk A20;clear A20;simp only [Option.some.injEq,Prod.mk.injEq] at H;obtain ⟨rfl,rfl,rfl⟩:=H
 go_enter Tryz.func80,Tryz.ntmps80
 go_wp2_with (first | ((with_reducible refine gate_dst (N:=4) rfl ?_);refine Kd.R_lit Kd.string _ 9 ?hg (N:=4) ?hd (xs:=([(⟨#[98,97,110,107]⟩:ByteArray),(⟨#[99,97,115,104]⟩:ByteArray),(⟨#[115,97,108,101,115]⟩:ByteArray),(⟨#[115,116,111,99,107]⟩:ByteArray),(⟨#[97]⟩:ByteArray),(⟨#[98]⟩:ByteArray),(⟨#[99,45,49]⟩:ByteArray),(⟨#[100,117,101,115]⟩:ByteArray),(⟨#[116,97,120,46,100,117,101]⟩:ByteArray),(⟨#[82,50]⟩:ByteArray),(⟨#[103,111,111,100,115]⟩:ByteArray),(⟨#[119,97,103,101,115]⟩:ByteArray),(⟨#[114,101,110,116]⟩:ByteArray),(⟨#[120,95,121]⟩:ByteArray),(⟨#[112,108,97,110,116]⟩:ByteArray)]:List ByteArray)) (inner:=[.string (⟨#[98,97,110,107]⟩:ByteArray),.string (⟨#[99,97,115,104]⟩:ByteArray),.string (⟨#[115,97,108,101,115]⟩:ByteArray),.string (⟨#[115,116,111,99,107]⟩:ByteArray),.string (⟨#[97]⟩:ByteArray),.string (⟨#[98]⟩:ByteArray),.string (⟨#[99,45,49]⟩:ByteArray),.string (⟨#[100,117,101,115]⟩:ByteArray),.string (⟨#[116,97,120,46,100,117,101]⟩:ByteArray),.string (⟨#[82,50]⟩:ByteArray),.string (⟨#[103,111,111,100,115]⟩:ByteArray),.string (⟨#[119,97,103,101,115]⟩:ByteArray),.string (⟨#[114,101,110,116]⟩:ByteArray),.string (⟨#[120,95,121]⟩:ByteArray),.string (⟨#[112,108,97,110,116]⟩:ByteArray)]) (ok:=fun _=>True) (okp:=fun _=>True) ?hr ?hp (fun _ hk=>hk) trivial (Below.refl _ _) (Nat.le_refl _) (by simp) ?_;(case hd=>rfl);(case hg=>rfl);(case hr=>(go_simp;done));(case hp=>exact (Reps.one (show Kd.M Kd.string _ _ _ (⟨#[98,97,110,107]⟩:ByteArray) [.string (⟨#[98,97,110,107]⟩:ByteArray)] from rfl) (Reps.one (show Kd.M Kd.string _ _ _ (⟨#[99,97,115,104]⟩:ByteArray) [.string (⟨#[99,97,115,104]⟩:ByteArray)] from rfl) (Reps.one (show Kd.M Kd.string _ _ _ (⟨#[115,97,108,101,115]⟩:ByteArray) [.string (⟨#[115,97,108,101,115]⟩:ByteArray)] from rfl) (Reps.one (show Kd.M Kd.string _ _ _ (⟨#[115,116,111,99,107]⟩:ByteArray) [.string (⟨#[115,116,111,99,107]⟩:ByteArray)] from rfl) (Reps.one (show Kd.M Kd.string _ _ _ (⟨#[97]⟩:ByteArray) [.string (⟨#[97]⟩:ByteArray)] from rfl) (Reps.one (show Kd.M Kd.string _ _ _ (⟨#[98]⟩:ByteArray) [.string (⟨#[98]⟩:ByteArray)] from rfl) (Reps.one (show Kd.M Kd.string _ _ _ (⟨#[99,45,49]⟩:ByteArray) [.string (⟨#[99,45,49]⟩:ByteArray)] from rfl) (Reps.one (show Kd.M Kd.string _ _ _ (⟨#[100,117,101,115]⟩:ByteArray) [.string (⟨#[100,117,101,115]⟩:ByteArray)] from rfl) (Reps.one (show Kd.M Kd.string _ _ _ (⟨#[116,97,120,46,100,117,101]⟩:ByteArray) [.string (⟨#[116,97,120,46,100,117,101]⟩:ByteArray)] from rfl) (Reps.one (show Kd.M Kd.string _ _ _ (⟨#[82,50]⟩:ByteArray) [.string (⟨#[82,50]⟩:ByteArray)] from rfl) (Reps.one (show Kd.M Kd.string _ _ _ (⟨#[103,111,111,100,115]⟩:ByteArray) [.string (⟨#[103,111,111,100,115]⟩:ByteArray)] from rfl) (Reps.one (show Kd.M Kd.string _ _ _ (⟨#[119,97,103,101,115]⟩:ByteArray) [.string (⟨#[119,97,103,101,115]⟩:ByteArray)] from rfl) (Reps.one (show Kd.M Kd.string _ _ _ (⟨#[114,101,110,116]⟩:ByteArray) [.string (⟨#[114,101,110,116]⟩:ByteArray)] from rfl) (Reps.one (show Kd.M Kd.string _ _ _ (⟨#[120,95,121]⟩:ByteArray) [.string (⟨#[120,95,121]⟩:ByteArray)] from rfl) (Reps.one (show Kd.M Kd.string _ _ _ (⟨#[112,108,97,110,116]⟩:ByteArray) [.string (⟨#[112,108,97,110,116]⟩:ByteArray)] from rfl) (Reps.none _ _)))))))))))))))));intro v81002 w3 ho4 hb hg_ hnew_;clear hg_ hnew_;(rw [← Ny81001.out] at ho4);have n0_:=Aside0.mk (Kd.R_lower ho4 (keep_size (w:=w) (g:=g) (row:=none) HK.out));have n1_:=Aside0.mk (IsS93.below HI0.out hb);have n2_:=Aside0.mk (KeepBut.trans HK.out (KeepBut.of_below hb g none) (.inl rfl));have n3_:=Aside0.mk (below_step HB.out hb);clear HI0;clear HK;clear HB;have HO81003:=n0_;have HI0:=n1_;have HK:=n2_;have HB:=n3_;clear n0_ n1_ n2_ n3_;clear hb ho4;obtain ⟨Ao5,co5,eo5⟩:=Kd.R_slice HO81003.out;subst eo5) | ((with_reducible refine gate_callee (f:=82) rfl ?_);refine goesL_ (some 5) rfl rfl Tryz.func82 (by kernel_rfl) rfl #[.pointer (some ⟨g,0,none⟩),.slice Ao5 y81001.length co5] rfl (by (try simp only [List.map_toArray,List.map_cons,List.map_nil]);rfl) ?_;(with_reducible refine (spec_l1Pick.calls g s0_0 s0_1 s0_2 _ _ y81001 t81004 t81005 t81006 w0 _ ?side1 ?side2 ?side3 ?side4 ?side5 A2.out).mono ?_);(case side1=>exact HI0.out);(case side2=>exact HB.out);(case side3=>repeat (exact (Kd.R_reads' HO81003.out).2.2));(case side4=>exact (Kd.R_reads' HO81003.out).2.1);(case side5=>exact far_slice (IsS93.own_ne HI0.out HO81003.out (by decide)));rintro e w6 ⟨rfl,hi,hb,hk⟩;refine ⟨_,rfl,?_⟩;have n0_:=Aside0.mk (Kd.R_mono (Kd.R_keep (IsS93.apart (show IsS93 w0 _ g s0_0 s0_1 s0_2 from by exact HI0.out) HO81003.out (by decide)) hk (fun _ h=>h.2)) (fun _ h=>h.1));have n1_:=Aside0.mk (KeepBut.trans HK.out hk (.inl rfl));have n2_:=Aside0.mk (hb);have n3_:=Aside0.mk (hi);clear HO81003;clear HK;clear HB;clear HI0;have HO81003:=n0_;have HK:=n1_;have HB:=n2_;have HI0:=n3_;clear n0_ n1_ n2_ n3_;(try clear hb);(try clear hb2);(try clear hk);(try clear hi)))
 go_ret
 exact ⟨by first | rfl | (simp [errW_none,errW_some] <;> rfl) | (simp [*,errW_none,errW_some] <;> rfl),by exact HI0.out,by exact HB.out,by exact HK.out⟩
end Go.Proofs.YtnknanppoenigaaGreatDoor.Q
namespace Go.Proofs.YtnknanppoenigaaGreatDoor.Q
open Go.RowKit Go.Proofs.YtnknanppoenigaaGreatDoorW.PrintWords Go.Proofs.YtnknanppoenigaaGreatDoorW.PrintLast Go.Proofs.YtnknanppoenigaaGreatDoorW.PrintMore
attribute [local go_sem] max2_int min2_int max_two min_two max_three min_three max_four min_four
set_option linter.unusedVariables false
set_option linter.unusedSimpArgs false
abbrev Per:=S63
def perOk (ps:List Per) (i:Int):Prop:=(0≤(rd_T63 ps i).f0∧(rd_T63 ps i).f0≤40000)∧(0≤(rd_T63 ps i).f1∧(rd_T63 ps i).f1≤40000)∧(rd_T63 ps i).f0≤(rd_T63 ps i).f1∧(0 < i→(rd_T63 ps i).f0=(rd_T63 ps (i - 1)).f1+1)
def yearP (ps:List Per):Prop:=(1≤ps.length∧ps.length≤60)∧∀ i:Int,0≤i→i < (ps.length:Int)→perOk ps i
open Classical in
noncomputable def yearB (ps:List Per):Bool:=decide (yearP ps)
open Classical in
theorem yearB_true {ps:List Per}:yearB ps=true ↔ yearP ps:=by unfold yearB;rw [decide_eq_true_eq]
theorem yearB_not {ps:List Per} (h:¬ yearP ps):false=yearB ps:=by
 cases hb:yearB ps with
 | false=>rfl
 | true=>exact absurd (yearB_true.1 hb) h
theorem per_step {ps:List Per} {i:Int} (h:∀ j:Int,0≤j→j < i→perOk ps j) (hi:perOk ps i):∀ j:Int,0≤j→j < i+1→perOk ps j:=by
 intro j h0 h1;by_cases e:j=i
 ·subst e;exact hi
 ·exact h j h0 (by omega)
set_option maxHeartbeats 16000000 in
set_option maxRecDepth 100000 in
theorem spec_l6Year.to (A0:Option Addr) (c0:Nat) (l0:List Per) (w:World) (hr0:Kd.C k63 w A0 l0.length l0) :
 Calls Tryz.prog 22 #[.slice A0 l0.length c0] w fun x w'=>x = .returned (.bool (yearB l0))∧Below w.heap.size w w':=by
 have hl0:=hr0.2.1;have H0:=Aside0.mk hr0;clear hr0
 go_enter Tryz.func22,Tryz.ntmps22
 go_wp2_with fail
 go_loopw [3] (fun v wr=>∃ i:Int,0≤i∧i≤(l0.length:Int)∧v = .int .i64 i∧Aside0 (Below w.heap.size w wr)∧Aside0 (∀ j:Int,0≤j→j < i→perOk l0 j)) (fun v _=>(l0.length - (intOf v).toNat))
 case atStart=>exact ⟨0,by omega,by omega,rfl,⟨Below.refl _ _⟩,⟨fun j h0 h1=>by omega⟩⟩
 case round =>
  obtain ⟨i,hi0,hi1,rfl,HB,HO⟩:=hrel;by_cases hlt:i < (l0.length:Int)
  ·obtain ⟨ad,e0,x0,x1⟩:=at_T63 (Kd.C_below H0.out HB.out) i hi0 hlt;cases e0;have HNO:=Aside0.mk (fun (q:¬ perOk l0 i)=>yearB_not (ps:=l0) (fun y=>q (y.2 i hi0 hlt)));generalize hp0:(rd_T63 l0 i).f0=p0 at *;generalize hp1:(rd_T63 l0 i).f1=p1 at *;have HP0:=Aside0.mk hp0;have HP1:=Aside0.mk hp1;clear hp0 hp1;cases h1:inB p0 0 40000 with
   | false =>
    have C1:=Aside0.mk (fun W=>(h1 ▸ spec_l2Day.to p0 W:Calls Tryz.prog 31 #[.int .i64 p0] W fun e w'=>e = .returned (.bool false)∧w'=W));have HN:=Aside0.mk (HNO.out (fun q=>inB_false.1 h1 (HP0.out ▸ q.1)));clear h1
    go_wp2_with fail
    go_quiet ((go_at_call 31;exact Calls.quiet_of_same (C1.out _)))
    go_wp2_with fail
    go_ret
    exact ⟨ret_bool HN.out,pw_below_drewN HB.out _⟩
   | true =>
    have C1:=Aside0.mk (fun W=>(h1 ▸ spec_l2Day.to p0 W:Calls Tryz.prog 31 #[.int .i64 p0] W fun e w'=>e = .returned (.bool true)∧w'=W));obtain ⟨a0,a1⟩:=inB_true.1 h1;clear h1;cases h2:inB p1 0 40000 with
    | false =>
     have C2:=Aside0.mk (fun W=>(h2 ▸ spec_l2Day.to p1 W:Calls Tryz.prog 31 #[.int .i64 p1] W fun e w'=>e = .returned (.bool false)∧w'=W));have HN:=Aside0.mk (HNO.out (fun q=>inB_false.1 h2 (HP1.out ▸ q.2.1)));clear h2
     go_wp2_with fail
     go_quiet ((go_at_call 31;first | exact Calls.quiet_of_same (C1.out _) | exact Calls.quiet_of_same (C2.out _)))
     go_wp2_with fail
     go_ret
     exact ⟨ret_bool HN.out,pw_below_drewN HB.out _⟩
    | true =>
     have C2:=Aside0.mk (fun W=>(h2 ▸ spec_l2Day.to p1 W:Calls Tryz.prog 31 #[.int .i64 p1] W fun e w'=>e = .returned (.bool true)∧w'=W));obtain ⟨b0,b1⟩:=inB_true.1 h2;clear h2;by_cases h3:p1 < p0
     ·have HN:=Aside0.mk (HNO.out (fun q=>by have:=q.2.2.1;rw [HP0.out,HP1.out] at this;omega));have h3b:decide (p1 < p0)=true:=decide_eq_true h3
      go_wp2_with fail
      go_quiet ((go_at_call 31;first | exact Calls.quiet_of_same (C1.out _) | exact Calls.quiet_of_same (C2.out _)))
      go_wp2_with fail
      go_ret
      exact ⟨ret_bool HN.out,pw_below_drewN HB.out _⟩
     ·have h3b:decide (p1 < p0)=false:=decide_eq_false h3;by_cases h4:0 < i
      ·obtain ⟨j,hj⟩:∃ j:Int,j=i - 1:=⟨_,rfl⟩;have hj0:0≤j:=by omega
       have hj1:j < (l0.length:Int):=by omega
       have hwr:IntKind.i64.wrap (i - 1)=j:=by unfold IntKind.wrap;simp [IntKind.bits];omega
       obtain ⟨bd,e1,y0,y1⟩:=at_T63 (Kd.C_below H0.out HB.out) j hj0 hj1;obtain rfl:ad=bd:=by injection e1
       obtain ⟨m0,m1⟩:=(HO.out j hj0 (by omega)).2.1;have HJ:=Aside0.mk hj;clear hj;generalize hq1:(rd_T63 l0 j).f1=q1 at *;have HQ1:=Aside0.mk hq1;clear hq1;have hwr2:IntKind.i64.wrap (q1+1)=q1+1:=by unfold IntKind.wrap;simp [IntKind.bits];omega
       have h4b:decide (0 < i)=true:=decide_eq_true h4;by_cases h7:p0=q1+1
       ·have h7b:(p0 != q1+1)=false:=by rw [h7];exact bne_self_eq_false' _
        have HO2:=Aside0.mk (per_step HO.out (show perOk l0 i from ⟨by rw [HP0.out];exact ⟨a0,a1⟩,by rw [HP1.out];exact ⟨b0,b1⟩,by rw [HP0.out,HP1.out];omega,fun q=>by rw [HP0.out,← HJ.out,HQ1.out];exact h7⟩));clear h7
        go_wp2_with fail
        go_quiet ((go_at_call 31;first | exact Calls.quiet_of_same (C1.out _) | exact Calls.quiet_of_same (C2.out _)))
        clear hwr hwr2
        go_wp2_with fail
        go_roundw
        case rel=>exact ⟨i+1,by omega,by omega,rfl,⟨pw_below_drewN HB.out _⟩,HO2⟩
        case measure=>simp [intOf];omega
       ·have h7b:(p0 != q1+1)=true:=bne_iff_ne.2 h7;have HN:=Aside0.mk (HNO.out (fun q=>by have:=q.2.2.2 h4;rw [HP0.out,← HJ.out,HQ1.out] at this;exact h7 this));clear h7
        go_wp2_with fail
        go_quiet ((go_at_call 31;first | exact Calls.quiet_of_same (C1.out _) | exact Calls.quiet_of_same (C2.out _)))
        clear hwr hwr2
        go_wp2_with fail
        go_ret
        exact ⟨ret_bool HN.out,pw_below_drewN HB.out _⟩
      ·have h4b:decide (0 < i)=false:=decide_eq_false h4;have HO2:=Aside0.mk (per_step HO.out (show perOk l0 i from ⟨by rw [HP0.out];exact ⟨a0,a1⟩,by rw [HP1.out];exact ⟨b0,b1⟩,by rw [HP0.out,HP1.out];omega,fun q=>absurd q h4⟩))
       go_wp2_with fail
       go_quiet ((go_at_call 31;first | exact Calls.quiet_of_same (C1.out _) | exact Calls.quiet_of_same (C2.out _)))
       go_wp2_with fail
       go_roundw
       case rel=>exact ⟨i+1,by omega,by omega,rfl,⟨pw_below_drewN HB.out _⟩,HO2⟩
       case measure=>simp [intOf];omega
  ·go_wp2_with fail
   refine (spec_l1In.to _ _ _ _).mono ?_;rintro x w' ⟨rfl,rfl⟩;cases h5:inB (l0.length:Int) 1 60 with
   | false =>
    have HN:=Aside0.mk (yearB_not (fun q=>inB_false.1 h5 (by have:=q.1;omega)):false=yearB l0);clear h5
    go_wp2_with fail
    go_ret
    exact ⟨ret_bool HN.out,HB.out⟩
   | true =>
    have h6:=inB_true.1 h5;have HY:=Aside0.mk (yearB_true.2 (show yearP l0 from ⟨by omega,fun j h0 h1=>HO.out j h0 (by omega)⟩));clear h5 h6
    go_wp2_with fail
    go_ret
    exact ⟨ret_bool HY.out.symm,HB.out⟩
theorem rowOk_par {chart:List Acc} {i:Int} (h:rowsOk chart i) (h0:0≤i) (hr:rowOk chart i):-1≤par chart i∧par chart i≤i - 1:=by
 rcases hr.2.2.2 with q | ⟨q,_⟩
 ·omega
 ·have:=up_is h h0 q;omega
theorem no_dup {chart:List Acc} {k i:Int} (h:code chart k=code chart i) (h0:0≤k) (h1:k < i):¬ rowOk chart i:=fun q=>q.1 k h0 h1 h
set_option maxHeartbeats 8000000 in
set_option maxRecDepth 100000 in
theorem spec_ChartOk.to (A0:Option Addr) (c0:Nat) (l0:List Acc) (w:World) (hr0:Kd.C k48 w A0 l0.length l0) (hs:∀ x∈l0,x.f0.size≤maxLen) :
 Calls Tryz.prog 56 #[.slice A0 l0.length c0] w fun e w'=>e = .returned (.bool (chartOk l0))∧Below w.heap.size w w':=by
 have hl:=hr0.2.1;have H0:=Aside0.mk hr0;have HS:=Aside0.mk hs;clear hr0 hs;by_cases hn:1≤l0.length∧l0.length≤120
 ·obtain ⟨h1,h2⟩:=hn;have hin:inB (l0.length:Int) 1 120=true:=inB_of (by omega)
  go_enter Tryz.func56,Tryz.ntmps56
  go_wp2_with fail
  refine (spec_l1In.to _ _ _ _).mono ?_;rintro e w' ⟨rfl,rfl⟩
  go_wp2_with fail
  go_loopw [3] (fun v wr=>∃ i:Int,0≤i∧i≤(l0.length:Int)∧v = .int .i64 i∧Aside0 (Below w'.heap.size w' wr)∧Aside0 (rowsOk l0 i)) (fun v _=>(l0.length - (intOf v).toNat))
  case atStart=>exact ⟨0,by omega,by omega,rfl,⟨Below.refl _ _⟩,⟨fun j h0 h1=>by omega⟩⟩
  case round =>
   obtain ⟨i,hi0,hi1,rfl,HB,HR⟩:=hrel;by_cases hlt:i < (l0.length:Int)
   ·obtain ⟨ad,e0,x0,x1,x2⟩:=at_T48 (Kd.C_below H0.out HB.out) i hi0 hlt;cases e0;have hsz:(code l0 i).size≤9223372036854775807:=all_at (z:=z48) (p:=fun x=>x.f0.size≤maxLen) hi0 hlt HS.out
    go_wp2_with fail
    refine (spec_NameOk.to (code l0 i) _ hsz).mono ?_;rintro e w1 ⟨rfl,rfl⟩;cases hnm:nameOk (code l0 i) with
    | false =>
     go_wp2_with fail
     go_ret
     exact ⟨ret_bool (chartOk_row hi0 hlt (fun q=>by have:=q.2.1;rw [hnm] at this;cases this)).symm,below_alloc HB.out _⟩
    | true =>
     have HNM:=Aside0.mk hnm;clear hnm
     go_wp2_with fail
     refine (spec_l1In.to (knd l0 i) _ _ _).mono ?_;rintro e w1 ⟨rfl,rfl⟩;cases hkd:inB (knd l0 i) 1 5 with
     | false =>
      go_wp2_with fail
      go_ret
      exact ⟨ret_bool (chartOk_row hi0 hlt (fun q=>inB_false.1 hkd q.2.2.1)).symm,below_alloc HB.out _⟩
     | true =>
      have HKD:=Aside0.mk hkd;clear hkd
      go_wp2_with fail
      refine (spec_l1In.to (par l0 i) _ _ _).mono ?_;rintro e w1 ⟨rfl,rfl⟩;cases hpr:inB (par l0 i) (-1) (i - 1) with
      | false =>
       go_wp2_with fail
       go_ret
       exact ⟨ret_bool (chartOk_row hi0 hlt (fun q=>inB_false.1 hpr (rowOk_par HR.out hi0 q))).symm,below_alloc HB.out _⟩
      | true =>
       have HPR:=Aside0.mk (inB_true.1 hpr);clear hpr
       go_wp2_with fail
       go_loopw [5] (fun v wd=>∃ k:Int,0≤k∧k≤i∧v = .int .i64 k∧Aside0 (Below w'.heap.size w' wd)∧Aside0 (wd.heap[wr.heap.size]?=some (.cells #[.string (rd_T48 l0 i).f0,.int .i64 (rd_T48 l0 i).f1,.int .i64 (rd_T48 l0 i).f2] 48 (0,0)))∧Aside0 (∀ j:Int,0≤j→j < k→code l0 j≠code l0 i)) (fun v _=>(i - intOf v).toNat)
       case atStart=>exact ⟨0,by omega,by omega,rfl,⟨below_alloc HB.out _⟩,⟨blk_new _ _⟩,⟨fun j h0 h1=>by omega⟩⟩
       case round =>
        obtain ⟨k,hk0,hk1,rfl,HBd,HV,HT⟩:=hrel;have v0:=y00 HV.out 0;have v1:=y00 HV.out 1;have v2:=y00 HV.out 2;by_cases hki:k < i
        ·have hkl:k < (l0.length:Int):=by omega
         obtain ⟨ad',e0,z0,z1,z2⟩:=at_T48 (Kd.C_below H0.out HBd.out) k hk0 hkl;obtain rfl:ad=ad':=by injection e0
         by_cases hc:code l0 k=code l0 i
         ·have hcb:((rd_T48 l0 k).f0.toList == (rd_T48 l0 i).f0.toList)=true:=beq_bytes hc;have HC:=Aside0.mk hc;clear hc
          go_wp2_with fail
          go_quiet (fail)
          go_wp2_with fail
          go_ret
          exact ⟨ret_bool (chartOk_row hi0 hlt (no_dup HC.out hk0 hki)).symm,pw_below_drewN HBd.out _⟩
         ·have hcb:((rd_T48 l0 k).f0.toList == (rd_T48 l0 i).f0.toList)=false:=nbeq_bytes hc;have HC:=Aside0.mk hc;clear hc
          go_wp2_with fail
          go_quiet (fail)
          go_wp2_with fail
          go_roundw
          case rel=>exact ⟨k+1,by omega,by omega,rfl,⟨pw_below_drewN HBd.out _⟩,⟨blk_drewN HV.out _⟩,⟨fun j j0 j1=>by
           by_cases e:j=k
           ·subst e;exact HC.out
           ·exact HT.out j j0 (by omega)⟩⟩
          case measure=>simp [intOf];omega
        ·obtain rfl:k=i:=by omega
         have hk1':=hk1;by_cases hp:(rd_T48 l0 k).f1 < 0
         ·have HP:=Aside0.mk hp
          go_wp2_with fail
          go_roundw
          case rel=>exact ⟨k+1,by omega,by omega,rfl,HBd,⟨rows_step hi0 HR.out ⟨HT.out,HNM.out,inB_true.1 HKD.out,Or.inl (by have:=HPR.out.1;have h9:par l0 k < 0:=HP.out;omega)⟩⟩⟩
          case measure=>simp [intOf];omega
         ·have HPN:=Aside0.mk (show 0≤par l0 k from by have h8:¬ (rd_T48 l0 k).f1 < 0:=hp;show 0≤(rd_T48 l0 k).f1;omega);have hlo:=Aside0.mk (rows_lo HR.out);have hpar:=Aside0.mk (rows_par HR.out)
          have hpa:=Aside0.mk (show ∀ j:Int,0≤j→j≤k→par l0 j < j from fun j j0 j1=>by
           by_cases e:j=k
           ·subst e;have:=HPR.out.2;omega
           ·exact hpar.out j j0 (by omega))
          go_wp2_with fail
          go_loop [6] (fun v=>∃ m:Int,-1≤m∧m < k∧v = .int .i64 m∧Aside0 (∀ n:Nat,m+1≤n→climb l0 (par l0 k) n m=up l0 k)) (fun v=>(intOf v+1).toNat)
          case atStart=>exact ⟨k - 1,by omega,by omega,rfl,⟨fun n hn=>climb_more l0 (par l0 k) k hpar.out _ _ _ (by omega) hn (by omega)⟩⟩
          case round =>
           obtain ⟨m,hm0,hm1,rfl,HCL⟩:=hrel;by_cases hm:0≤m
           ·have hml:m < (l0.length:Int):=by omega
            obtain ⟨ad',e0,z0,z1,z2⟩:=at_T48 (Kd.C_below H0.out HBd.out) m hm hml;obtain rfl:ad=ad':=by injection e0
            by_cases hmp:m=par l0 k
            ·have hmb:(m != (rd_T48 l0 k).f1)=false:=by rw [hmp];exact bne_self_eq_false' _
             have HU:=Aside0.mk (climb_at (fun q=>q.2 hmp) HCL.out);clear hmp;by_cases hkd:knd l0 m=knd l0 k
             ·have hkdb:((rd_T48 l0 m).f2 != (rd_T48 l0 k).f2)=false:=by rw [show (rd_T48 l0 m).f2=(rd_T48 l0 k).f2 from hkd];exact bne_self_eq_false' _
              have HKE:=Aside0.mk hkd;clear hkd;have HDE:=Aside0.mk (deep_up HR.out hi0 (by rw [HU.out];exact hm));by_cases hde:8 < deepAt l0 k
              ·go_wp2_with fail
               go_quiet ((go_at_call 76;exact Calls.quiet_of_same (spec_l4Deep.to (some ad) c0 l0 k _ (Kd.C_drewN (Kd.C_below H0.out HBd.out) _) hi0 (by omega) h2 hpa.out)))
               go_wp2_with fail
               go_ret
               exact ⟨ret_bool (chartOk_row hi0 hlt (fun q=>by rcases q.2.2.2 with q | ⟨q0,_,q⟩;(have h7:=HPN.out;omega);have h8:=HDE.out;omega)).symm,pw_below_drewN HBd.out _⟩
              ·go_wp2_with fail
               go_quiet ((go_at_call 76;exact Calls.quiet_of_same (spec_l4Deep.to (some ad) c0 l0 k _ (Kd.C_drewN (Kd.C_below H0.out HBd.out) _) hi0 (by omega) h2 hpa.out)))
               go_wp2_with fail
               go_roundw
               case rel=>exact ⟨k+1,by omega,by omega,rfl,⟨pw_below_drewN HBd.out _⟩,⟨rows_step hi0 HR.out ⟨HT.out,HNM.out,inB_true.1 HKD.out,Or.inr ⟨by rw [HU.out];exact hm,by rw [HU.out];exact HKE.out,by have:=HDE.out;omega⟩⟩⟩⟩
               case measure=>simp [intOf];omega
             ·have hkdb:((rd_T48 l0 m).f2 != (rd_T48 l0 k).f2)=true:=bne_iff_ne.2 hkd;have HKE:=Aside0.mk hkd;clear hkd
              go_wp2_with fail
              go_quiet (fail)
              go_wp2_with fail
              go_ret
              exact ⟨ret_bool (chartOk_row hi0 hlt (fun q=>by rcases q.2.2.2 with q | ⟨_,q,_⟩;(have h7:=HPN.out;omega);rw [HU.out] at q;exact HKE.out q)).symm,pw_below_drewN HBd.out _⟩
            ·have hmb:(m != (rd_T48 l0 k).f1)=true:=bne_iff_ne.2 hmp;have HKP:=Aside0.mk hmp;clear hmp;have b1:=hlo.out m hm (by omega);have b2:=hpar.out m hm (by omega)
             go_wp2_with fail
             go_round
             case rel=>exact ⟨par l0 m,b1,by omega,rfl,⟨climb_go hpar.out hm hm1 HKP.out HCL.out⟩⟩
             case measure=>show (par l0 m+1).toNat < (m+1).toNat;omega
           ·have HU:=Aside0.mk (climb_at (fun q=>hm q.1) HCL.out)
            go_wp2_with fail
            go_quiet (fail)
            go_wp2_with fail
            go_ret
            exact ⟨ret_bool (chartOk_row hi0 hlt (fun q=>by rcases q.2.2.2 with q | ⟨q,_⟩;(have h7:=HPN.out;omega);rw [HU.out] at q;omega)).symm,pw_below_drewN HBd.out _⟩
   ·go_wp2_with fail
    go_ret
    exact ⟨ret_bool (chartOk_all h1 h2 (by omega) HR.out).symm,HB.out⟩
 ·have hin:inB (l0.length:Int) 1 120=false:=inB_not (by omega)
  go_enter Tryz.func56,Tryz.ntmps56
  go_wp2_with fail
  refine (spec_l1In.to _ _ _ _).mono ?_;rintro e w' ⟨rfl,rfl⟩
  go_wp2_with fail
  go_ret
  exact ⟨ret_bool (chartOk_len hn).symm,Below.refl _ _⟩
def ArrAt (w:World) (g n:Nat) (d:Int→Int):Prop:=∃ cur:Array Value,w.heap[g]?=some (.cells cur 3 (0,0))∧n≤cur.size∧∀ j:Int,0≤j→j < n→cur[j.toNat]?=some (.int .i64 (d j))
theorem zero3 (w:World):(zeroValue 3).run Tryz.prog w = .ok (.int .i64 0) w:=by kernel_rfl
noncomputable def strK:HMap.KeyK Tryz.prog 9 ByteArray:=HMap.strKey Tryz.underlying9
theorem wr_var {wr w2:World} {c:Array Value} {t b:Nat} (hg:(wr.alloc (.cells c t)).grownBy w2 (some b)) (hb:b < wr.heap.size):w2.heap[wr.heap.size]?=some (.cells c t (0,0)) :=
 (hg.block wr.heap.size (by simp) (by intro e;injection e with e;omega)).trans (blk_new wr _)
theorem dep_ret {v:Value} {b c:Bool} (h:b=c):Ending.returned (.tuple #[v,.bool b])=Ending.returned (.tuple #[v,.bool c]):=by rw [h]
def DepPost (w:World) (b:Bool) (e:Ending) (w':World):Prop:=∃ v0_:Value,e = .returned (.tuple #[v0_,.bool b])∧Below w.heap.size w w'
structure DepInv (chart:List Acc) (w wr:World) (gm gd:Nat) (i:Int):Prop where
 map:∃ f:ByteArray→Option Int,HMap.MapIs Tryz.prog 9 3 strK wr gm i.toNat f∧∀ s,(f s).isSome=true ↔ ∃ j:Int,0≤j∧j < i∧code chart j=s
 arr:ArrAt wr gd chart.length (fun j=>if j < i then deepAt chart j else 0)
 rows:rowsOk chart i
 bel:Below w.heap.size w wr
 gm0:w.heap.size≤gm
 gd0:w.heap.size≤gd
theorem arr_of_own {w:World} {base g n:Nat} (h:w.ownsRow base 3 1 (.slice (some ⟨g,0,none⟩) n n) n (madeCells (Value.int .i64 0).cells (n * 1)).toList):ArrAt w g n (fun _=>0):=by
 obtain ⟨hl,h⟩:=h;rcases h with ⟨h,_⟩ | ⟨g',cap,cur,hv,_,hh,hn,_,hs,ht⟩
 ·simp at h
 ·simp only [Value.slice.injEq,Option.some.injEq,Addr.mk.injEq] at hv;obtain ⟨⟨rfl,_⟩,_,rfl⟩:=hv;refine ⟨cur,hh,by omega,fun j h0 h1=>?_⟩;have e:(cur.toList.take (n * 1))[j.toNat]?=(madeCells (Value.int .i64 0).cells (n * 1)).toList[j.toNat]?:=by rw [ht]
  rw [List.getElem?_take,if_pos (by omega)] at e;rw [← Array.getElem?_toList,e];simp [madeCells,Value.cells]
  exact ⟨j.toNat,by rw [List.getElem?_range (by omega)],by simp [Nat.mod_one]⟩
theorem dep_blk {wr w2:World} {c cur:Array Value} {t t' gm g:Nat} (hg:(wr.alloc (.cells c t)).grownBy w2 (some gm)) (hlt:g≠gm) (h:wr.heap[g]?=some (.cells cur t' (0,0))) (hw:True):w2.heap[g]?=some (.cells cur t' (0,0)) :=
 (hg.block g (by have:=blk_lt h;simp;omega) (by intro e;injection e with e;omega)).trans (blk_alloc h _)
theorem dep_zero' {chart:List Acc} {cur:Array Value} {i:Int} {n:Nat} (h:∀ j:Int,0≤j→j < n→cur[j.toNat]?=some (.int .i64 ((fun j=>if j < i then deepAt chart j else 0) j))) (hp:par chart i = -1):∀ j:Int,0≤j→j < n→cur[j.toNat]?=some (.int .i64 ((fun j=>if j < i+1 then deepAt chart j else 0) j)):=by
 intro j j0 j1;rw [h j j0 j1];simp only;by_cases e:j < i
 ·rw [if_pos e,if_pos (by omega)]
 ·rw [if_neg e];by_cases e2:j=i
  ·subst e2;rw [if_pos (by omega),deep_zero hp]
  ·rw [if_neg (by omega)]
theorem dep_set {chart:List Acc} {cur:Array Value} {i:Int} {n:Nat} {v:Int} (h:∀ j:Int,0≤j→j < n→cur[j.toNat]?=some (.int .i64 ((fun j=>if j < i then deepAt chart j else 0) j))) (h0:0≤i) (hn:i.toNat < cur.size) (hv:deepAt chart i=v+1):∀ j:Int,0≤j→j < n→(cur.setIfInBounds i.toNat (.int .i64 (v+1)))[j.toNat]?=some (.int .i64 ((fun j=>if j < i+1 then deepAt chart j else 0) j)):=by
 intro j j0 j1;simp only;rw [Array.getElem?_setIfInBounds];by_cases e:j=i
 ·subst e;rw [if_pos rfl,if_pos hn,if_pos (by omega),hv]
 ·rw [if_neg (by omega),h j j0 j1];simp only;by_cases e2:j < i
  ·rw [if_pos e2,if_pos (by omega)]
  ·rw [if_neg e2,if_neg (by omega)]
theorem dep_next {chart:List Acc} {w wr w2:World} {gm gd:Nat} {i:Int} {f:ByteArray→Option Int} (HI:DepInv chart w wr gm gd i) (hm2:HMap.MapIs Tryz.prog 9 3 strK w2 gm (i.toNat+1) (HMap.upd f (code chart i) i))
 (hf:∀ s,(f s).isSome=true ↔ ∃ j:Int,0≤j∧j < i∧code chart j=s) (hB:Below w.heap.size w w2) (harr:ArrAt w2 gd chart.length (fun j=>if j < i+1 then deepAt chart j else 0)) (h0:0≤i) (hr:rowOk chart i):DepInv chart w w2 gm gd (i+1) where
 map:=⟨_,by rw [show (i+1).toNat=i.toNat+1 by omega];exact hm2,fun s=>by
  by_cases e:s=code chart i
  ·subst e;rw [HMap.upd_same];exact ⟨fun _=>⟨i,h0,by omega,rfl⟩,fun _=>rfl⟩
  ·rw [HMap.upd_other _ _ e,hf]
   constructor
   ·rintro ⟨j,j0,j1,j2⟩;exact ⟨j,j0,by omega,j2⟩
   ·rintro ⟨j,j0,j1,j2⟩;by_cases e2:j=i
    ·subst e2;exact absurd j2.symm e
    ·exact ⟨j,j0,by omega,j2⟩⟩
 arr:=harr
 rows:=rows_step h0 HI.rows hr
 bel:=hB
 gm0:=HI.gm0
 gd0:=HI.gd0
set_option maxHeartbeats 8000000 in
set_option maxRecDepth 100000 in
theorem impl_depths.to (A0:Option Addr) (c0:Nat) (l0:List Acc) (w:World) (hr0:Kd.C k48 w A0 l0.length l0) (hs:∀ x∈l0,x.f0.size≤maxLen) :
 Calls Tryz.prog 86 #[.slice A0 l0.length c0] w (DepPost w (chartOk l0)):=by
 have hl:=hr0.2.1;have H0:=Aside0.mk hr0;have HS:=Aside0.mk hs;clear hr0 hs;by_cases h1:1≤l0.length
 ·by_cases h2:l0.length≤120
  ·have hmm:=@run_makeMap Tryz.prog;obtain ⟨i0,hi,hz0,hz1,hz2⟩:=info_parts (show (Tryz.prog.info? 3).map (fun i=>(i.zero,i.size,i.bytes))=some (some (.int .i64 0),1,8) by kernel_rfl)
   go_enter Tryz.func86,Tryz.ntmps86
   go_wp2_with (at_make;refine wpList_make_full _ rfl _ _ 42 rfl w.heap.size 3 i0 (.int .i64 0) 1 Tryz.underlying42 hi hz0 hz1 _ _ _ _ l0.length rfl rfl rfl rfl (by rw [hz2];omega) (by unfold maxLen;omega) (by simp) ?_;intro w1 hown1 hgrow1)
   have hmap1:HMap.MapIs Tryz.prog 9 3 strK w1 w.heap.size 0 (fun _=>none):=(HMap.MapIs.made w _ _ _ _).kept hgrow1 (by simp)
   have hI:DepInv l0 w w1 w.heap.size (w.heap.size+1) 0:=⟨⟨_,hmap1,fun s=>⟨fun h=>by simp at h,fun ⟨j,h0,h1,_⟩=>by omega⟩⟩,by
    obtain ⟨cur,hc1,hc2,hc3⟩:=arr_of_own (g:=w.heap.size+1) (by simpa using hown1)
    exact ⟨cur,hc1,hc2,fun j h0 h1=>by rw [hc3 j h0 h1];show _=some (Value.int .i64 (if j < 0 then deepAt l0 j else 0));rw [if_neg (by omega)]⟩,fun j h0 h1=>by omega,Below.grown (below_alloc (Below.refl w.heap.size w) (.map #[] 0)) hgrow1 (by simp) (fun j hj=>by cases hj),Nat.le_refl _,by omega⟩
   have HI:=Aside0.mk hI;clear hI hmap1 hown1 hgrow1
   go_loopw [25] (fun v wr=>∃ i:Int,0≤i∧i≤(l0.length:Int)∧v = .int .i64 i∧Aside0 (DepInv l0 w wr w.heap.size (w.heap.size+1) i)) (fun v _=>(l0.length - (intOf v).toNat))
   case atStart=>exact ⟨0,by omega,by omega,rfl,HI⟩
   case round =>
    clear HI;obtain ⟨i,hi0,hi1,rfl,HI⟩:=hrel;by_cases hlt:i < (l0.length:Int)
    ·obtain ⟨f,hf1,hf2⟩:=HI.out.map;have HF:=Aside0.mk hf1;have HF2:=Aside0.mk hf2;clear hf1 hf2;obtain ⟨ad,e0,x0,x1,x2⟩:=at_T48 (Kd.C_below H0.out HI.out.bel) i hi0 hlt;cases e0;have HK:=Aside0.mk (show strK.ok (code l0 i) from all_at (z:=z48) (p:=fun x=>x.f0.size≤maxLen) hi0 hlt HS.out);have HWI:=Aside0.mk (wf_of (n:=i) (by omega));have hgm:w.heap.size < wr.heap.size:=HF.out.lt;obtain ⟨cur,hc1,hc2,hc3⟩:=HI.out.arr;have HC1:=Aside0.mk hc1;have HC3:=Aside0.mk hc3;clear hc1 hc3;have X:=Aside0.mk (And.intro x0 (And.intro x1 x2));by_cases hfr:fresh l0 i
     ·have hfs:(f (code l0 i)).isSome=false:=by
       rw [Bool.eq_false_iff];intro h;obtain ⟨j,h0,h1',h2'⟩:=(HF2.out _).1 h;exact hfr j h0 h1' h2'
      have HFR:=Aside0.mk hfr;clear hfr
      go_wp2_with (at_lookup;refine HMap.wpList_look_ok (K:=strK) (f:=f) (b:=w.heap.size) (n:=i.toNat) rfl _ _ 152 rfl Tryz.underlying152 Tryz.underlying3 (zero3 _) rfl (by exact HF.out.alloc _) (code l0 i) rfl HK.out ?_;intro c)
      refine (impl_NameOk.to (code l0 i) _).mono ?_;rintro e w' ⟨rfl,rfl⟩;cases hnm:nameOk (code l0 i) with
      | false =>
       go_wp2_with fail
       go_ret2
       exact ⟨_,dep_ret (by rw [chartOk_row hi0 hlt (fun q=>by have:=q.2.1;rw [hnm] at this;cases this)]),below_alloc HI.out.bel _⟩
      | true =>
       have HNM:=Aside0.mk hnm;clear hnm hfs
       go_wp2_with fail
       refine (impl_kindOk.to (knd l0 i) _).mono ?_;rintro e w' ⟨rfl,rfl⟩;cases hkd:inB (knd l0 i) 1 5 with
       | false =>
        go_wp2_with fail
        go_ret2
        exact ⟨_,dep_ret (by rw [chartOk_row hi0 hlt (fun q=>inB_false.1 hkd q.2.2.1)]),below_alloc HI.out.bel _⟩
       | true =>
        have HKD:=Aside0.mk hkd;clear hkd;by_cases hp:par l0 i = -1
        ·have hpb:((rd_T48 l0 i).f1 == -1)=true:=by rw [show (rd_T48 l0 i).f1 = -1 from hp];rfl
         have HP:=Aside0.mk hp;clear hp
         go_wp2_with (at_mapUpdate;refine HMap.wpList_upd (K:=strK) (f:=f) (b:=w.heap.size) (n:=i.toNat) rfl _ _ _ 152 rfl Tryz.underlying152 Tryz.underlying3 rfl (by exact HF.out.alloc _) (by unfold maxLen;omega) (code l0 i) i rfl HK.out rfl HWI.out ?_;intro w2 hm2 hg2;have hb2:=wr_var (wr:=wr) hg2 (by omega);have y0:=y00 hb2 0;have y1:=y00 hb2 1;have y2:=y00 hb2 2)
         go_roundw
         case rel=>exact ⟨i+1,by omega,by omega,rfl,⟨dep_next HI.out hm2 HF2.out (Below.grown (below_alloc HI.out.bel _) hg2 (below_alloc HI.out.bel _).size (fun j hj=>by cases hj;exact Nat.le_refl _)) ⟨cur,dep_blk hg2 (by omega) HC1.out trivial,hc2,fun j j0 j1=>dep_zero' HC3.out HP.out j j0 j1⟩ hi0 ⟨HFR.out,HNM.out,inB_true.1 HKD.out,Or.inl HP.out⟩⟩⟩
         case measure=>simp [intOf];omega
        ·have hpb:((rd_T48 l0 i).f1 == -1)=false:=beq_eq_false_iff_ne.2 hp;have HP:=Aside0.mk hp;clear hp
         go_wp2_with (at_mapUpdate;refine HMap.wpList_upd (K:=strK) (f:=f) (b:=w.heap.size) (n:=i.toNat) rfl _ _ _ 152 rfl Tryz.underlying152 Tryz.underlying3 rfl (by exact HF.out.alloc _) (by unfold maxLen;omega) (code l0 i) i rfl HK.out rfl HWI.out ?_;intro w2 hm2 hg2;have hb2:=wr_var (wr:=wr) hg2 (by omega);have y0:=y00 hb2 0;have y1:=y00 hb2 1;have y2:=y00 hb2 2)
         have HB2:=Aside0.mk (Below.grown (below_alloc HI.out.bel (.cells #[.string (rd_T48 l0 i).f0,.int .i64 (rd_T48 l0 i).f1,.int .i64 (rd_T48 l0 i).f2] 48)) hg2 (below_alloc HI.out.bel _).size (fun j hj=>by cases hj;exact Nat.le_refl _));have HD:=Aside0.mk (dep_blk hg2 (by omega) HC1.out trivial);have HM2:=Aside0.mk hm2;have hlo:=Aside0.mk (rows_lo HI.out.rows);have hpar:=Aside0.mk (rows_par HI.out.rows);clear hm2 hg2
         go_loop [10] (fun v=>∃ k:Int,-1≤k∧k < i∧v = .int .i64 k∧Aside0 (∀ n:Nat,k+1≤n→climb l0 (par l0 i) n k=up l0 i)) (fun v=>(intOf v+1).toNat)
         case atStart=>exact ⟨i - 1,by omega,by omega,rfl,⟨fun n hn=>climb_more l0 (par l0 i) i hpar.out _ _ _ (by omega) hn (by omega)⟩⟩
         case round =>
          obtain ⟨k,hk0,hk1,rfl,HCL⟩:=hrel;by_cases hk:0≤k
          ·obtain ⟨ad',e0,z0,z1,z2⟩:=at_T48 (Kd.C_below H0.out HB2.out) k hk (by omega);obtain rfl:ad=ad':=by injection e0
           by_cases hkp:k=par l0 i
           ·have hkb:(k != (rd_T48 l0 i).f1)=false:=by rw [hkp];exact bne_self_eq_false' _
            have HU:=Aside0.mk (climb_at (fun q=>q.2 hkp) HCL.out);clear hkp;have hkl:k < (l0.length:Int):=by omega
            have hd:=y00 HD.out k.toNat;rw [HC3.out k hk (by omega),if_pos hk1] at hd;by_cases hkd:knd l0 k=knd l0 i
            ·have hkdb:((rd_T48 l0 k).f2 != (rd_T48 l0 i).f2)=false:=by rw [show (rd_T48 l0 k).f2=(rd_T48 l0 i).f2 from hkd];exact bne_self_eq_false' _
             have HKE:=Aside0.mk hkd;clear hkd;by_cases hde:8≤deepAt l0 k
             ·go_wp2_with fail
              go_quiet (fail)
              go_wp2_with fail
              go_ret2
              exact ⟨_,dep_ret (by rw [chartOk_row hi0 hlt (fun q=>by rcases q.2.2.2 with q | ⟨_,_,q⟩;exact HP.out q;rw [HU.out] at q;omega)]),pw_below_drewN HB2.out _⟩
             ·have hs:=y00 HD.out i.toNat;rw [HC3.out i hi0 hlt,if_neg (by omega)] at hs;have hfz:=y02 HD.out i.toNat;have hd0:0≤deepAt l0 k:=anc_nonneg _ _ _
              go_wp2_with fail
              go_quiet (fail)
              go_wp2_with fail
              go_roundw
              case rel=>exact ⟨i+1,by omega,by omega,rfl,⟨dep_next HI.out ((HM2.out.drewN _).far (by simp) _) HF2.out (below_set (pw_below_drewN HB2.out _) (by simp)) ⟨_,blk_set (blk_drewN HD.out _) _ _,by simpa using hc2,fun j j0 j1=>dep_set HC3.out hi0 (by omega) (by rw [← HU.out];exact deep_up HI.out.rows hi0 (by rw [HU.out];exact hk)) j j0 j1⟩ hi0 ⟨HFR.out,HNM.out,inB_true.1 HKD.out,Or.inr ⟨by rw [HU.out];exact hk,by rw [HU.out];exact HKE.out,by rw [HU.out];omega⟩⟩⟩⟩
              case measure=>simp [intOf];omega
            ·have hkdb:((rd_T48 l0 k).f2 != (rd_T48 l0 i).f2)=true:=bne_iff_ne.2 hkd;have HKE:=Aside0.mk hkd;clear hkd
             go_wp2_with fail
             go_quiet (fail)
             go_wp2_with fail
             go_ret2
             exact ⟨_,dep_ret (by rw [chartOk_row hi0 hlt (fun q=>by rcases q.2.2.2 with q | ⟨_,q,_⟩;exact HP.out q;rw [HU.out] at q;exact HKE.out q)]),pw_below_drewN HB2.out _⟩
           ·have hkb:(k != (rd_T48 l0 i).f1)=true:=bne_iff_ne.2 hkp;have HKP:=Aside0.mk hkp;clear hkp;have b1:=hlo.out k hk (by omega);have b2:=hpar.out k hk (by omega)
            go_wp2_with fail
            go_round
            case rel=>exact ⟨par l0 k,b1,by omega,rfl,⟨climb_go hpar.out hk hk1 HKP.out HCL.out⟩⟩
            case measure=>show (par l0 k+1).toNat < (k+1).toNat;omega
          ·have HU:=Aside0.mk (climb_at (fun q=>hk q.1) HCL.out)
           go_wp2_with fail
           go_quiet (fail)
           go_wp2_with fail
           go_ret2
           exact ⟨_,dep_ret (by rw [chartOk_row hi0 hlt (fun q=>by rcases q.2.2.2 with q | ⟨q,_⟩;exact HP.out q;rw [HU.out] at q;omega)]),pw_below_drewN HB2.out _⟩
     ·have hfs:(f (code l0 i)).isSome=true:=by
       rw [HF2.out];unfold fresh at hfr;simp only [Classical.not_forall] at hfr;obtain ⟨j,h0,h1',h2'⟩:=hfr;exact ⟨j,h0,h1',Classical.not_not.1 h2'⟩
      go_wp2_with (at_lookup;refine HMap.wpList_look_ok (K:=strK) (f:=f) (b:=w.heap.size) (n:=i.toNat) rfl _ _ 152 rfl Tryz.underlying152 Tryz.underlying3 (zero3 _) rfl (by exact HF.out.alloc _) (code l0 i) rfl HK.out ?_;intro c)
      go_ret2
      exact ⟨_,dep_ret (by rw [chartOk_row hi0 hlt (fun q=>hfr q.1)]),below_alloc HI.out.bel _⟩
    ·go_wp2_with fail
     go_ret2
     exact ⟨_,dep_ret (by rw [chartOk_all h1 h2 (by omega) HI.out.rows]),HI.out.bel⟩
  ·go_enter Tryz.func86,Tryz.ntmps86
   go_wp2_with fail
   go_ret2
   exact ⟨_,dep_ret (by rw [chartOk_len (by omega)]),Below.refl _ _⟩
 ·go_enter Tryz.func86,Tryz.ntmps86
  go_wp2_with fail
  go_ret2
  exact ⟨_,dep_ret (by rw [chartOk_len (by omega)]),Below.refl _ _⟩
theorem int_seg {W:World} {base g n cap:Nat} {ok:Nat→Prop} {xs:List Int} (h:(Kd.int .i64).R 3 W base ok (.slice (some ⟨g,0,none⟩) n cap) xs) (i:Int) (h0:0≤i) (h1:i < n) (v:Int) :
 (Kd.int .i64).R 3 (W.setCell ⟨g,i.toNat,none⟩ (.int .i64 v)) base ok (.slice (some ⟨g,0,none⟩) n cap) (xs.set i.toNat v):=by
 obtain ⟨c,hcl,hM,hcc,_⟩:=Kd.R_elem h 0 i h0 h1
 have:=(Kd.R_seg h i h0 h1 (c:=c) (seg:=[.int .i64 v]) (j:=0) (x':=v) (okp:=fun _=>False) hcl hcc (Nat.le_refl _) (by
  have hl:c.length=1:=hcl
  match c,hl with
  | [u],_=>rfl) (fun _ hk=>hk.elim)).1
 rw [show (Kd.int .i64).sz=1 from rfl,Nat.mul_one,Nat.add_zero] at this;exact this
theorem int_get {W:World} {base g n cap:Nat} {ok:Nat→Prop} {xs:List Int} (h:(Kd.int .i64).R 3 W base ok (.slice (some ⟨g,0,none⟩) n cap) xs) (i:Int) (h0:0≤i) (h1:i < n) :
 W.cell? ⟨g,i.toNat,none⟩=some (.int .i64 (rd xs i))∧W.frozen? ⟨g,i.toNat,none⟩=false:=by
 obtain ⟨c,hcl,hM,hcc,hfr⟩:=Kd.R_elem h 0 i h0 h1;have e:c=[.int .i64 (xs.getD i.toNat 0)]:=hM;subst e;have a:=hcc 0 _ rfl;have b:=hfr 0;rw [show (Kd.int .i64).sz=1 from rfl,Nat.mul_one,Nat.add_zero] at a b;exact ⟨a,b⟩
set_option maxHeartbeats 16000000 in
set_option maxRecDepth 100000 in
theorem impl_bases.to (N:Nat) (A:Option Addr) (c:Nat) (es:List Ent) (h d fr tt:Int) (w:World) (hr:Kd.C k41 w A es.length es) (q:basesP N es) :
 Calls Tryz.prog 37 #[.int .i64 N,.agg #[.slice A es.length c,.int .i64 h],.int .i64 d,.int .i64 fr,.int .i64 tt] w fun e w'=>∃ v0_:Value,e = .returned v0_∧Kd.R (Kd.int .i64) 3 w' w.heap.size (fun _=>True) v0_ (mapN N (fun a=>basV a d (-1) fr tt es))∧Below w.heap.size w w':=by
 obtain ⟨q0,q1,q2,q3,q4⟩:=q;have HR:=Aside0.mk hr;have Q3:=Aside0.mk q3;have Q4:=Aside0.mk q4;have hT:∃ T:Nat→Int,T=fun (a:Nat)=>basV (a:Int) d (-1) fr tt es:=⟨_,rfl⟩
 obtain ⟨T,hT⟩:=hT;rw [← hT];have HTT:=Aside0.mk hT;clear hr q3 q4 hT
 go_enter Tryz.func37,Tryz.ntmps37
 go_wp2_with ((with_reducible refine gate_dst (N:=17) rfl ?_);refine Kd.R_make (Kd.int .i64) _ 3 rfl (N:=17) rfl 42 _ _ rfl (N:Int) rfl rfl Tryz.underlying42 (.int .i64 0) 8 info3 rfl (by decide) (by omega) 0 (ok:=fun _=>True) (okp:=fun _=>True) rfl (fun _ hk=>hk) trivial (by omega) (by simp;omega) (Below.refl _ _) (Nat.le_refl _) ?_;intro v1 w1 ho hb hg hnew;have f0:w1.cell? ⟨w.heap.size,0,none⟩=some (.slice A es.length c):=y01 hb (by go_simp);have HB:=Aside0.mk (below_into (w:=w) hb (below_alloc (Below.refl _ _) _));have HO:=Aside0.mk (Kd.R_lower ho (base':=w.heap.size) (by simp));obtain ⟨g,cap,e1,hg0,hg1,_⟩:=Kd.R_form HO.out (by simp;omega);subst e1;clear ho hb hg hnew hg1)
 rw [show (List.replicate ((N:Int)).toNat (0:Int))=mapN N (fun _=>0) from (by rw [Int.toNat_natCast];exact mapN_zero N)] at HO;rw [mapN_len] at HO
 go_loopw [21] (fun v wr=>∃ i:Int,0≤i∧i≤(es.length:Int)∧v = .int .i64 i∧Aside0 (Below w.heap.size w wr)∧Aside0 (∃ G:Nat→Int,(∀ a,G a+basV (a:Int) d (-1) fr tt (es.drop i.toNat)=T a)∧Kd.R (Kd.int .i64) 3 wr w.heap.size (fun _=>True) (.slice (some ⟨g,0,none⟩) N cap) (mapN N G))) (fun v _=>(es.length - (intOf v).toNat))
 case atStart=>exact ⟨0,by omega,by omega,rfl,HB,⟨fun _=>0,fun a=>by rw [HTT.out];simp,HO.out⟩⟩
 case round =>
  clear HB HO f0;obtain ⟨i,hi0,hi1,rfl,HB,HG⟩:=hrel;by_cases hlt:i < (es.length:Int)
  ·obtain ⟨ad,A3,c3,e0,x0,x1,x2,x3,x4,x5⟩:=at_T41 HR.out i hi0 hlt;cases e0;replace x0:=y01 HB.out x0;replace x1:=y01 HB.out x1;replace x2:=y01 HB.out x2;replace x3:=y01 HB.out x3;have X5:=Aside0.mk x5;have XL:=Aside0.mk x4;have hl3:(rd_T41 es i).f3.length≤60:=(all_at (z:=z41) (p:=entFine) hi0 hlt Q3.out).1;have HF:=Aside0.mk (show ∀ x∈(rd_T41 es i).f3,lineFine x from (all_at (z:=z41) (p:=entFine) hi0 hlt Q3.out).2);have HA:=Aside0.mk (show ∀ x∈(rd_T41 es i).f3,0≤x.f0∧x.f0 < (N:Int) from all_at (z:=z41) (p:=fun e=>∀ x∈e.f3,0≤x.f0∧x.f0 < (N:Int)) hi0 hlt Q4.out);have HD:=Aside0.mk (drop_at (l:=es) (z:=z41) hi0 hlt);clear x5 x4;generalize hy0:(rd_T41 es i).f0=day at *;generalize hy3:(rd_T41 es i).f3=ls at *;have HY0:=Aside0.mk hy0;have HY3:=Aside0.mk hy3;clear hy0 hy3;have HBX:=Aside0.mk (below_alloc HB.out (.cells #[.int .i64 day,.int .i64 (rd_T41 es i).f1,.string (rd_T41 es i).f2,.slice A3 ls.length c3] 41))
   have HSK:=Aside0.mk (show inB day fr tt=false→∀ G:Nat→Int,(∀ a,G a+basV (a:Int) d (-1) fr tt (es.drop i.toNat)=T a)→∀ a,G a+basV (a:Int) d (-1) fr tt (es.drop (i+1).toNat)=T a from fun hn G hG a=>by
    rw [← hG a,HD.out];show _=G a+((if inB (rd_T41 es i).f0 fr tt=true then basL a d (-1) (rd_T41 es i).f3 else 0)+basV (a:Int) d (-1) fr tt (es.drop (i+1).toNat));rw [HY0.out,hn]
    simp)
   have HGO:=Aside0.mk (show inB day fr tt=true→∀ G:Nat→Int,(∀ a,G a+basV (a:Int) d (-1) fr tt (es.drop i.toNat)=T a)→∀ a,G a+basL (a:Int) d (-1) ls+basV (a:Int) d (-1) fr tt (es.drop (i+1).toNat)=T a from fun hn G hG a=>by
    rw [← hG a,HD.out];show _=G a+((if inB (rd_T41 es i).f0 fr tt=true then basL a d (-1) (rd_T41 es i).f3 else 0)+basV (a:Int) d (-1) fr tt (es.drop (i+1).toNat));rw [HY0.out,hn,HY3.out];simp
    omega)
   have HBD:=Aside0.mk (show ∀ (G:Nat→Int) (m:List Lin),(∀ x∈m,lineFine x)→m.length≤60→(∀ a,G a+basL (a:Int) d (-1) m+basV (a:Int) d (-1) fr tt (es.drop (i+1).toNat)=T a)→∀ a,-100000000000000000≤G a∧G a≤100000000000000000 from fun G m hm hml hG a=>by
    have t1:=basV_b (a:Int) d (-1) fr tt es Q3.out;have t2:=basV_b (a:Int) d (-1) fr tt (es.drop (i+1).toNat) (fun e he=>Q3.out e (List.mem_of_mem_drop he));have t3:=basL_b (a:Int) d (-1) m hm;have t4:=hG a;rw [HTT.out] at t4;have t5:(es.drop (i+1).toNat).length≤1000:=by rw [List.length_drop];omega
    simp only at t4
    constructor <;> omega)
   by_cases h1:day < fr
   ·have h1b:decide (day < fr)=true:=decide_eq_true h1
    go_wp2_with fail
    go_roundw
    case rel =>
     obtain ⟨G,g1,g2⟩:=HG.out;exact ⟨i+1,by omega,by omega,rfl,HBX,⟨G,HSK.out (inB_not (by omega)) G g1,Kd.R_alloc g2 _⟩⟩
    case measure=>simp [intOf];omega
   ·have h1b:decide (day < fr)=false:=decide_eq_false h1;by_cases h2:tt < day
    ·have h2b:decide (tt < day)=true:=decide_eq_true h2
     go_wp2_with fail
     go_roundw
     case rel =>
      obtain ⟨G,g1,g2⟩:=HG.out;exact ⟨i+1,by omega,by omega,rfl,HBX,⟨G,HSK.out (inB_not (by omega)) G g1,Kd.R_alloc g2 _⟩⟩
     case measure=>simp [intOf];omega
    ·have h2b:decide (tt < day)=false:=decide_eq_false h2;obtain ⟨G,g1,g2⟩:=HG.out;have HG1:=Aside0.mk (HGO.out (inB_of ⟨by omega,by omega⟩) G g1);have HR1:=Aside0.mk (Kd.R_alloc g2 (.cells #[.int .i64 day,.int .i64 (rd_T41 es i).f1,.string (rd_T41 es i).f2,.slice A3 ls.length c3] 41));clear HG g1 g2 HSK HGO
     go_wp2_with fail
     go_loopw [38] (fun v wq=>∃ j:Int,0≤j∧j≤(ls.length:Int)∧v = .int .i64 j∧Aside0 (Below w.heap.size w wq)∧Aside0 (∃ G:Nat→Int,(∀ a,G a+basL (a:Int) d (-1) (ls.drop j.toNat)+basV (a:Int) d (-1) fr tt (es.drop (i+1).toNat)=T a)∧Kd.R (Kd.int .i64) 3 wq w.heap.size (fun _=>True) (.slice (some ⟨g,0,none⟩) N cap) (mapN N G))) (fun v _=>(ls.length - (intOf v).toNat))
     case atStart=>exact ⟨0,by omega,by omega,rfl,HBX,⟨G,fun a=>by simpa using HG1.out a,HR1.out⟩⟩
     case round =>
      clear HB HBX HR1 HG1;obtain ⟨j,hj0,hj1,rfl,HB,HG⟩:=hrel;by_cases hlj:j < (ls.length:Int)
      ·obtain ⟨ad,e0,y0,y1,y2,y3,y4⟩:=at_T67 (Kd.C_below X5.out HB.out) j hj0 hlj;cases e0;have HLF:=Aside0.mk (all_at (z:=z67) (p:=lineFine) hj0 hlj HF.out);have HLA:=all_at (z:=z67) (p:=fun x=>0≤x.f0∧x.f0 < (N:Int)) hj0 hlj HA.out;have z0:0≤(rd_T67 ls j).f0:=HLA.1;have z1:(rd_T67 ls j).f0 < (N:Int):=HLA.2;have HLD:=Aside0.mk (drop_at (l:=ls) (z:=z67) hj0 hlj);have HPB:=Aside0.mk (show -100000000000≤(rd_T67 ls j).f4∧(rd_T67 ls j).f4≤100000000000 from HLF.out.2);obtain ⟨G,g1,g2⟩:=HG.out;have HGB:=Aside0.mk (HBD.out G (ls.drop j.toNat) (fun x hx=>HF.out x (List.mem_of_mem_drop hx)) (by rw [List.length_drop];omega) g1)
       have HSL:=Aside0.mk (show ∀ s:Bool,(∀ b:Nat,selL (b:Int) d (-1) (rd_T67 ls j)=(decide (b=(rd_T67 ls j).f0.toNat) && s))→∀ a:Nat,(if s=true then (if a=(rd_T67 ls j).f0.toNat then G (rd_T67 ls j).f0.toNat+(rd_T67 ls j).f4 else G a) else G a)+basL (a:Int) d (-1) (ls.drop (j+1).toNat)+basV (a:Int) d (-1) fr tt (es.drop (i+1).toNat)=T a from fun s hs a=>by
        rw [← g1 a,HLD.out];show _=G a+((if selL (a:Int) d (-1) (rd_T67 ls j)=true then (rd_T67 ls j).f4 else 0)+basL (a:Int) d (-1) (ls.drop (j+1).toNat))+basV (a:Int) d (-1) fr tt (es.drop (i+1).toNat);rw [hs a]
        cases s <;> by_cases e:a=(rd_T67 ls j).f0.toNat <;> simp [e] <;> omega)
       obtain ⟨k0,k1⟩:=int_get g2 _ z0 z1;rw [mapN_rd z0 z1] at k0;have HR2:=Aside0.mk g2;have HSE:=Aside0.mk (fun b:Nat=>selL_acc (a:=b) (d:=d) (x:=rd_T67 ls j) z0);clear HG g1 g2;have HBX:=Aside0.mk (below_alloc HB.out (.cells #[.int .i64 (rd_T67 ls j).f0,.int .i64 (rd_T67 ls j).f1,.int .i64 (rd_T67 ls j).f2,.int .i64 (rd_T67 ls j).f3,.int .i64 (rd_T67 ls j).f4] 67));have b0:=(HGB.out (rd_T67 ls j).f0.toNat).1;have b1:=(HGB.out (rd_T67 ls j).f0.toNat).2;have b2:=HPB.out.1;have b3:=HPB.out.2;generalize hp0:(rd_T67 ls j).f0=p0 at *;generalize hp1:(rd_T67 ls j).f1=p1 at *;generalize hp4:(rd_T67 ls j).f4=p4 at *;generalize hgv:G p0.toNat=gv at *;have PP:=Aside0.mk (And.intro hp0 (And.intro hp1 (And.intro hp4 hgv)));clear hp0 hp1 hp4 hgv;by_cases hd:d = -1
       ·have hdb:(d == -1)=true:=by rw [hd];rfl
        have HD1:=Aside0.mk hd;clear hd
        go_wp2_with fail
        have u0:(wr.alloc (.cells #[.int .i64 p0,.int .i64 p1,.int .i64 (rd_T67 ls j).f2,.int .i64 (rd_T67 ls j).f3,.int .i64 p4] 67)).cell? ⟨wr.heap.size,0,none⟩=some (.int .i64 p0):=by go_simp
        have u4:(wr.alloc (.cells #[.int .i64 p0,.int .i64 p1,.int .i64 (rd_T67 ls j).f2,.int .i64 (rd_T67 ls j).f3,.int .i64 p4] 67)).cell? ⟨wr.heap.size,4,none⟩=some (.int .i64 p4):=by go_simp
        have hbl:=below_alloc (Below.refl wr.heap.size wr) (.cells #[.int .i64 p0,.int .i64 p1,.int .i64 (rd_T67 ls j).f2,.int .i64 (rd_T67 ls j).f3,.int .i64 p4] 67);replace k0:=y01 hbl k0;replace HR2:=Aside0.mk (Kd.R_below HR2.out hbl);clear hbl;replace k1:=(int_get HR2.out _ z0 z1).2;generalize wr.alloc (.cells #[.int .i64 p0,.int .i64 p1,.int .i64 (rd_T67 ls j).f2,.int .i64 (rd_T67 ls j).f3,.int .i64 p4] 67)=wq at *;generalize wr.heap.size=gx at *
        go_region
        go_wp2_with fail
        go_roundw
        case rel=>exact ⟨j+1,by omega,by omega,rfl,⟨pw_below_drewN (below_set HBX.out hg0) 1⟩,⟨_,by have:=HSL.out true (fun b=>by rw [HSE.out b];simp [HD1.out]);simpa using this,by have:=int_seg HR2.out _ z0 z1 (gv+p4);rw [mapN_set] at this;exact Kd.R_drew this⟩⟩
        case measure=>simp [intOf];omega
       ·have hdb:(d == -1)=false:=beq_eq_false_iff_ne.2 hd;have HD1:=Aside0.mk hd;clear hd;by_cases hq:p1=d
        ·have hqb:(p1 == d)=true:=by rw [hq];exact beq_self_eq_true' _
         have HD2:=Aside0.mk hq;clear hq
         go_wp2_with fail
         have u0:(wr.alloc (.cells #[.int .i64 p0,.int .i64 p1,.int .i64 (rd_T67 ls j).f2,.int .i64 (rd_T67 ls j).f3,.int .i64 p4] 67)).cell? ⟨wr.heap.size,0,none⟩=some (.int .i64 p0):=by go_simp
         have u4:(wr.alloc (.cells #[.int .i64 p0,.int .i64 p1,.int .i64 (rd_T67 ls j).f2,.int .i64 (rd_T67 ls j).f3,.int .i64 p4] 67)).cell? ⟨wr.heap.size,4,none⟩=some (.int .i64 p4):=by go_simp
         have hbl:=below_alloc (Below.refl wr.heap.size wr) (.cells #[.int .i64 p0,.int .i64 p1,.int .i64 (rd_T67 ls j).f2,.int .i64 (rd_T67 ls j).f3,.int .i64 p4] 67);replace k0:=y01 hbl k0;replace HR2:=Aside0.mk (Kd.R_below HR2.out hbl);clear hbl;replace k1:=(int_get HR2.out _ z0 z1).2;generalize wr.alloc (.cells #[.int .i64 p0,.int .i64 p1,.int .i64 (rd_T67 ls j).f2,.int .i64 (rd_T67 ls j).f3,.int .i64 p4] 67)=wq at *;generalize wr.heap.size=gx at *
         go_region
         go_wp2_with fail
         go_roundw
         case rel=>exact ⟨j+1,by omega,by omega,rfl,⟨pw_below_drewN (below_set HBX.out hg0) 1⟩,⟨_,by have:=HSL.out true (fun b=>by rw [HSE.out b];simp [HD2.out]);simpa using this,by have:=int_seg HR2.out _ z0 z1 (gv+p4);rw [mapN_set] at this;exact Kd.R_drew this⟩⟩
         case measure=>simp [intOf];omega
        ·have hqb:(p1 == d)=false:=beq_eq_false_iff_ne.2 hq;have HD2:=Aside0.mk hq;clear hq
         go_wp2_with fail
         go_roundw
         case rel=>exact ⟨j+1,by omega,by omega,rfl,HBX,⟨G,by have:=HSL.out false (fun b=>by rw [HSE.out b];simp [HD1.out,HD2.out]);simpa using this,Kd.R_alloc HR2.out _⟩⟩
         case measure=>simp [intOf];omega
      ·go_wp2_with fail
       go_roundw
       case rel =>
        obtain ⟨G,g1,g2⟩:=HG.out;exact ⟨i+1,by omega,by omega,rfl,HB,⟨G,fun a=>by have:=g1 a;rw [List.drop_of_length_le (by omega)] at this;simpa [basL] using this,g2⟩⟩
       case measure=>simp [intOf];omega
  ·go_wp2_with fail
   go_ret
   obtain ⟨G,g1,g2⟩:=HG.out;rw [show mapN N G=mapN N T from mapN_congr (fun a _=>by have:=g1 a;rw [List.drop_of_length_le (by omega)] at this;simpa [basV] using this)] at g2;exact ⟨_,rfl,g2,HB.out⟩
end Go.Proofs.YtnknanppoenigaaGreatDoor.Q
