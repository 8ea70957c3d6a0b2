/- Parts of the proof: what functions of the program and of the reference answer.
   No condition. -/
import Derived.Test.YtnknanppoenigaaGreatDoorZSpreadBooks1
import Derived.Test.YtnknanppoenigaaGreatDoorZSpreadBooks2
import Derived.Stop.LaidErr
import Derived.MakeChecks
import Derived.LaidMore
import Derived.Test.YtnknanppoenigaaGreatDoorZSpreadBooks3
namespace Go.Proofs.YtnknanppoenigaaGreatDoor.Q
open Go.RowKit Go.Proofs.YtnknanppoenigaaGreatDoorW.PrintWords Go.Proofs.YtnknanppoenigaaGreatDoorW.PrintLast Go.Proofs.YtnknanppoenigaaGreatDoorW.PrintMore
attribute [local go_sem] max2_int min2_int max_two min_two max_three min_three max_four min_four
set_option linter.unusedVariables false
set_option linter.unusedSimpArgs false
noncomputable def impl_copyBooks.f (l0_0:List (S48)) (a0_1:Int) (a0_2:Int) (l0_3:List (S41)) (a0_4:Int) (l0_5:List (S63)) (a0_6:Int) (a0_7:Int):Option ((List (S48)) × Int × Int × (List (S41)) × Int × (List (S63)) × Int × Int):=(some (([]:List (S48)):List (S48))).bind fun y37003=>(if y37003.length+l0_0.length < 4398046511104 then ((some (([]:List (S63)):List (S63))).bind fun y37009=>(if y37009.length+l0_5.length < 8796093022208 then ((impl_copyLedger.f l0_3 a0_4).bind fun bt37015=>(some ((y37003++l0_0),a0_1,a0_2,bt37015.1,bt37015.2,(y37009++l0_5),a0_6,a0_7))) else (none))) else (none))
set_option maxHeartbeats 8000000 in
set_option maxRecDepth 100000 in
theorem impl_copyBooks.calls (A0_0:Option Addr) (c0_0:Nat) (l0_0:List (S48)) (a0_1:Int) (a0_2:Int) (A0_3:Option Addr) (c0_3:Nat) (l0_3:List (S41)) (a0_4:Int) (A0_5:Option Addr) (c0_5:Nat) (l0_5:List (S63)) (a0_6:Int) (a0_7:Int) (r1:List (S48)) (r2:Int) (r3:Int) (r4:List (S41)) (r5:Int) (r6:List (S63)) (r7:Int) (r8:Int) (w:World) (hr0_0:Kd.C k48 w A0_0 l0_0.length l0_0) (hc0_0:l0_0.length≤c0_0) (hr0_3:Kd.C k41 w A0_3 l0_3.length l0_3) (hc0_3:l0_3.length≤c0_3) (hr0_5:Kd.C k63 w A0_5 l0_5.length l0_5) (hc0_5:l0_5.length≤c0_5) (h:impl_copyBooks.f l0_0 a0_1 a0_2 l0_3 a0_4 l0_5 a0_6 a0_7=some (r1,r2,r3,r4,r5,r6,r7,r8)) :
 Calls Tryz.prog 36 #[.agg #[.slice A0_0 l0_0.length c0_0,.int .i64 a0_1,.int .i64 a0_2,.slice A0_3 l0_3.length c0_3,.int .i64 a0_4,.slice A0_5 l0_5.length c0_5,.int .i64 a0_6,.int .i64 a0_7]] w fun e w'=>∃ v0_ v3_ v5_:Value,e = .returned (.agg #[v0_,.int .i64 r2,.int .i64 r3,v3_,.int .i64 r5,v5_,.int .i64 r7,.int .i64 r8])∧Kd.R k48 48 w' w.heap.size (fun _=>True) v0_ r1∧Kd.S k41 41 w' w.heap.size (fun _=>True) v3_ r4∧Kd.R k63 63 w' w.heap.size (fun _=>True) v5_ r6∧Below w.heap.size w w':=by
 have hu32:=Tryz.underlying32;have hu29:=Tryz.underlying29;have HR0_0:=Aside0.mk hr0_0;have HC0_0:=Aside0.mk hc0_0;clear hr0_0 hc0_0;have HR0_3:=Aside0.mk hr0_3;have HC0_3:=Aside0.mk hc0_3;clear hr0_3 hc0_3;have HR0_5:=Aside0.mk hr0_5;have HC0_5:=Aside0.mk hc0_5;clear hr0_5 hc0_5;have HB:=Aside0.mk (Below.refl w.heap.size w);have H:((some (([]:List (S48)):List (S48))).bind fun y37003=>(if y37003.length+l0_0.length < 4398046511104 then ((some (([]:List (S63)):List (S63))).bind fun y37009=>(if y37009.length+l0_5.length < 8796093022208 then ((impl_copyLedger.f l0_3 a0_4).bind fun bt37015=>(some ((y37003++l0_0),a0_1,a0_2,bt37015.1,bt37015.2,(y37009++l0_5),a0_6,a0_7))) else (none))) else (none)))=some (r1,r2,r3,r4,r5,r6,r7,r8):=h;clear h;obtain ⟨y37003,hy37003⟩:∃ y_:List (S48),y_=(([]:List (S48))):=⟨_,rfl⟩;replace H:(if y37003.length+l0_0.length < 4398046511104 then ((some (([]:List (S63)):List (S63))).bind fun y37009=>(if y37009.length+l0_5.length < 8796093022208 then ((impl_copyLedger.f l0_3 a0_4).bind fun bt37015=>(some ((y37003++l0_0),a0_1,a0_2,bt37015.1,bt37015.2,(y37009++l0_5),a0_6,a0_7))) else (none))) else (none))=some (r1,r2,r3,r4,r5,r6,r7,r8):=by (have H2_:=(Option.bind_some _ _).symm.trans H;rw [hy37003];with_reducible exact H2_)
 have Ny37003:=Aside0.mk hy37003;clear hy37003;by_cases c2:y37003.length+l0_0.length < 4398046511104
 ·rw [if_pos c2] at H;have LMc2:=Aside0.mk c2;clear c2;obtain ⟨y37006,hy37006⟩:∃ y_:List (S48),y_=(y37003++l0_0):=⟨_,rfl⟩;replace H:((some (([]:List (S63)):List (S63))).bind fun y37009=>(if y37009.length+l0_5.length < 8796093022208 then ((impl_copyLedger.f l0_3 a0_4).bind fun bt37015=>(some (y37006,a0_1,a0_2,bt37015.1,bt37015.2,(y37009++l0_5),a0_6,a0_7))) else (none)))=some (r1,r2,r3,r4,r5,r6,r7,r8):=by (rw [hy37006];with_reducible exact H)
  have Ny37006:=Aside0.mk hy37006;clear hy37006;obtain ⟨y37009,hy37009⟩:∃ y_:List (S63),y_=(([]:List (S63))):=⟨_,rfl⟩;replace H:(if y37009.length+l0_5.length < 8796093022208 then ((impl_copyLedger.f l0_3 a0_4).bind fun bt37015=>(some (y37006,a0_1,a0_2,bt37015.1,bt37015.2,(y37009++l0_5),a0_6,a0_7))) else (none))=some (r1,r2,r3,r4,r5,r6,r7,r8):=by (have H2_:=(Option.bind_some _ _).symm.trans H;rw [hy37009];with_reducible exact H2_)
  have Ny37009:=Aside0.mk hy37009;clear hy37009;by_cases c3:y37009.length+l0_5.length < 8796093022208
  ·rw [if_pos c3] at H;have LMc3:=Aside0.mk c3;clear c3;obtain ⟨y37012,hy37012⟩:∃ y_:List (S63),y_=(y37009++l0_5):=⟨_,rfl⟩;replace H:((impl_copyLedger.f l0_3 a0_4).bind fun bt37015=>(some (y37006,a0_1,a0_2,bt37015.1,bt37015.2,y37012,a0_6,a0_7)))=some (r1,r2,r3,r4,r5,r6,r7,r8):=by (rw [hy37012];with_reducible exact H)
   have Ny37012:=Aside0.mk hy37012;clear hy37012;replace H:=Option.bind_eq_some_iff.mp H;obtain ⟨⟨t37015,t37018⟩,A40,H⟩:=H;replace H:(some (y37006,a0_1,a0_2,t37015,t37018,y37012,a0_6,a0_7))=some (r1,r2,r3,r4,r5,r6,r7,r8):=H;have A4:=Aside0.mk A40;clear A40;simp only [Option.some.injEq,Prod.mk.injEq] at H;obtain ⟨rfl,rfl,rfl,rfl,rfl,rfl,rfl,rfl⟩:=H
   go_enter Tryz.func36,Tryz.ntmps36
   go_wp2_with (first | ((with_reducible refine gate_dst (N:=1) rfl ?_);refine box_event ?hg (N:=1) ?hd (cs:=#[.slice A0_0 l0_0.length c0_0,.int .i64 a0_1,.int .i64 a0_2,.slice A0_3 l0_3.length c0_3,.int .i64 a0_4,.slice A0_5 l0_5.length c0_5,.int .i64 a0_6,.int .i64 a0_7]) (t:=32) ?hr ?_;(case hd=>rfl);(case hg=>rfl);(case hr=>(go_simp;done));intro gb37001 hg w5 hbox hb;have n0_:=Aside0.mk (below_step HB.out hb);have n1_:=Aside0.mk (hbox);have n2_:=Aside0.mk ((by rw [hg];exact (below_size HB.out):w.heap.size≤gb37001));have n3_:=Aside0.mk ((by rw [hg];exact (below_size HB.out):w.heap.size≤gb37001));clear HB;have HB:=n0_;have BK37001:=n1_;have GW37001:=n2_;have GE37001:=n3_;clear n0_ n1_ n2_ n3_;clear hb hbox hg) | ((with_reducible refine gate_dst (N:=2) rfl ?_);refine box_event ?hg (N:=2) ?hd (cs:=#[.slice none 0 0,.int .i64 0,.int .i64 0,.slice none 0 0,.int .i64 0,.slice none 0 0,.int .i64 0,.int .i64 0]) (t:=32) ?hr ?_;(case hd=>rfl);(case hg=>rfl);(case hr=>(go_simp;done));intro gb37002 hg w6 hbox hb;have n0_:=Aside0.mk (y03 (g:=gb37001) (o:=.cells #[.slice A0_0 l0_0.length c0_0,.int .i64 a0_1,.int .i64 a0_2,.slice A0_3 l0_3.length c0_3,.int .i64 a0_4,.slice A0_5 l0_5.length c0_5,.int .i64 a0_6,.int .i64 a0_7] 32 (0,0)) BK37001.out hb);have n1_:=Aside0.mk (below_step HB.out hb);have n2_:=Aside0.mk (hbox);have n3_:=Aside0.mk ((by rw [hg];exact (below_size HB.out):w.heap.size≤gb37002));have n4_:=Aside0.mk ((by rw [hg];exact (below_size HB.out):w.heap.size≤gb37002));have n5_:=Aside0.mk ((by rw [hg];exact Nat.ne_of_lt (blk_lt (g:=gb37001) (o:=.cells #[.slice A0_0 l0_0.length c0_0,.int .i64 a0_1,.int .i64 a0_2,.slice A0_3 l0_3.length c0_3,.int .i64 a0_4,.slice A0_5 l0_5.length c0_5,.int .i64 a0_6,.int .i64 a0_7] 32 (0,0)) BK37001.out):gb37001≠gb37002));have n6_:=Aside0.mk ((by rw [hg];exact Nat.ne_of_gt (blk_lt (g:=gb37001) (o:=.cells #[.slice A0_0 l0_0.length c0_0,.int .i64 a0_1,.int .i64 a0_2,.slice A0_3 l0_3.length c0_3,.int .i64 a0_4,.slice A0_5 l0_5.length c0_5,.int .i64 a0_6,.int .i64 a0_7] 32 (0,0)) BK37001.out):gb37002≠gb37001));clear BK37001;clear HB;have BK37001:=n0_;have HB:=n1_;have BK37002:=n2_;have GW37002:=n3_;have GE37002:=n4_;have NB37001_37002:=n5_;have NB37002_37001:=n6_;clear n0_ n1_ n2_ n3_ n4_ n5_ n6_;clear hb hbox hg) | ((with_reducible refine gate_dst (N:=3) rfl ?_);refine Kd.R_lit k48 _ 48 ?hg (N:=3) ?hd (xs:=([]:List (S48))) (inner:=[]) (ok:=fun _=>True) (okp:=fun _=>True) ?hr ?hp (fun _ hk=>hk) trivial (Below.refl _ _) (Nat.le_refl _) (by simp) ?_;(case hd=>rfl);(case hg=>rfl);(case hr=>(go_simp;done));(case hp=>exact (Reps.none _ _));intro v37004 w7 ho8 hb hg_ hnew_;clear hg_ hnew_;(rw [← Ny37003.out] at ho8);have n0_:=Aside0.mk (Kd.R_lower ho8 (below_size HB.out));have n1_:=Aside0.mk (y03 (g:=gb37001) (o:=.cells #[.slice A0_0 l0_0.length c0_0,.int .i64 a0_1,.int .i64 a0_2,.slice A0_3 l0_3.length c0_3,.int .i64 a0_4,.slice A0_5 l0_5.length c0_5,.int .i64 a0_6,.int .i64 a0_7] 32 (0,0)) BK37001.out hb);have n2_:=Aside0.mk (y03 (g:=gb37002) (o:=.cells #[.slice none 0 0,.int .i64 0,.int .i64 0,.slice none 0 0,.int .i64 0,.slice none 0 0,.int .i64 0,.int .i64 0] 32 (0,0)) BK37002.out hb);have n3_:=Aside0.mk (below_step HB.out hb);clear BK37001;clear BK37002;clear HB;have HO37005:=n0_;have BK37001:=n1_;have BK37002:=n2_;have HB:=n3_;clear n0_ n1_ n2_ n3_;clear hb ho8;have hnb9:=NB37001_37002.out;have hnc9:=NB37002_37001.out;have hcz10_0:w7.cell? ⟨gb37001,0,none⟩=some (.slice A0_0 l0_0.length c0_0):=(y00 BK37001.out 0).trans rfl;have hcz10_1:w7.cell? ⟨gb37001,1,none⟩=some (.int .i64 a0_1):=(y00 BK37001.out 1).trans rfl;have hcz10_2:w7.cell? ⟨gb37001,2,none⟩=some (.int .i64 a0_2):=(y00 BK37001.out 2).trans rfl;have hcz10_3:w7.cell? ⟨gb37001,3,none⟩=some (.slice A0_3 l0_3.length c0_3):=(y00 BK37001.out 3).trans rfl;have hcz10_4:w7.cell? ⟨gb37001,4,none⟩=some (.int .i64 a0_4):=(y00 BK37001.out 4).trans rfl;have hcz10_5:w7.cell? ⟨gb37001,5,none⟩=some (.slice A0_5 l0_5.length c0_5):=(y00 BK37001.out 5).trans rfl;have hcz10_6:w7.cell? ⟨gb37001,6,none⟩=some (.int .i64 a0_6):=(y00 BK37001.out 6).trans rfl;have hcz10_7:w7.cell? ⟨gb37001,7,none⟩=some (.int .i64 a0_7):=(y00 BK37001.out 7).trans rfl;have hfz10_0:=y02 BK37001.out 0;have hfz10_1:=y02 BK37001.out 1;have hfz10_2:=y02 BK37001.out 2;have hfz10_3:=y02 BK37001.out 3;have hfz10_4:=y02 BK37001.out 4;have hfz10_5:=y02 BK37001.out 5;have hfz10_6:=y02 BK37001.out 6;have hfz10_7:=y02 BK37001.out 7) | ((with_reducible refine gate_builtin (b:=.append) (xs:=#[.tmp 3,.tmp 6]) rfl ?_);at_builtin;refine Kd.R_append_rows k48 (w0:=w) w.heap.size rfl (.tmp 3) (.tmp 6) 24 48 (.agg #[(.string ⟨#[]⟩),(.int .i64 0),(.int .i64 0)]) 32 rfl Tryz.underlying24 info48 rfl (by decide) (by omega) v37004 y37003 l0_0 _ _ _ (fun _=>True) (fun _=>False) rfl rfl ?aO ?aR (fun _ _ h=>h) (fun _ h=>h.elim) ?aF ?aB ?aS ?aL ?_;(case aR=>repeat (exact (Kd.C_below HR0_0.out HB.out)));(case aB=>exact HB.out);(case aF=>exact (fun _ _=>trivial));(case aO=>exact HO37005.out);(case aS=>exact (below_size HB.out));(case aL=>have:=LMc2.out;omega);intro v37007 w11 ho hb hg hat;rw [← Ny37006.out] at ho;have n0_:=Aside0.mk (blk_grown (g:=gb37001) (o:=.cells #[.slice A0_0 l0_0.length c0_0,.int .i64 a0_1,.int .i64 a0_2,.slice A0_3 l0_3.length c0_3,.int .i64 a0_4,.slice A0_5 l0_5.length c0_5,.int .i64 a0_6,.int .i64 a0_7] 32 (0,0)) BK37001.out hg (Kd.R_ne HO37005.out BK37001.out (by decide)));have n1_:=Aside0.mk (blk_grown (g:=gb37002) (o:=.cells #[.slice none 0 0,.int .i64 0,.int .i64 0,.slice none 0 0,.int .i64 0,.slice none 0 0,.int .i64 0,.int .i64 0] 32 (0,0)) BK37002.out hg (Kd.R_ne HO37005.out BK37002.out (by decide)));have n2_:=Aside0.mk (hb);have n3_:=Aside0.mk (ho);clear BK37001;clear BK37002;clear HB;clear HO37005;have BK37001:=n0_;have BK37002:=n1_;have HB:=n2_;have HO37008:=n3_;clear n0_ n1_ n2_ n3_;clear ho hb hg hat;obtain ⟨Ao12,co12,eo12⟩:=Kd.R_slice HO37008.out;subst eo12;have hcz13_0:w11.cell? ⟨gb37001,0,none⟩=some (.slice A0_0 l0_0.length c0_0):=(y00 BK37001.out 0).trans rfl;have hcz13_1:w11.cell? ⟨gb37001,1,none⟩=some (.int .i64 a0_1):=(y00 BK37001.out 1).trans rfl;have hcz13_2:w11.cell? ⟨gb37001,2,none⟩=some (.int .i64 a0_2):=(y00 BK37001.out 2).trans rfl;have hcz13_3:w11.cell? ⟨gb37001,3,none⟩=some (.slice A0_3 l0_3.length c0_3):=(y00 BK37001.out 3).trans rfl;have hcz13_4:w11.cell? ⟨gb37001,4,none⟩=some (.int .i64 a0_4):=(y00 BK37001.out 4).trans rfl;have hcz13_5:w11.cell? ⟨gb37001,5,none⟩=some (.slice A0_5 l0_5.length c0_5):=(y00 BK37001.out 5).trans rfl;have hcz13_6:w11.cell? ⟨gb37001,6,none⟩=some (.int .i64 a0_6):=(y00 BK37001.out 6).trans rfl;have hcz13_7:w11.cell? ⟨gb37001,7,none⟩=some (.int .i64 a0_7):=(y00 BK37001.out 7).trans rfl;have hfz13_0:=y02 BK37001.out 0;have hfz13_1:=y02 BK37001.out 1;have hfz13_2:=y02 BK37001.out 2;have hfz13_3:=y02 BK37001.out 3;have hfz13_4:=y02 BK37001.out 4;have hfz13_5:=y02 BK37001.out 5;have hfz13_6:=y02 BK37001.out 6;have hfz13_7:=y02 BK37001.out 7) | ((with_reducible refine gate_dst (N:=10) rfl ?_);refine Kd.R_lit k63 _ 63 ?hg (N:=10) ?hd (xs:=([]:List (S63))) (inner:=[]) (ok:=fun _=>True) (okp:=fun _=>True) ?hr ?hp (fun _ hk=>hk) trivial (Below.refl _ _) (Nat.le_refl _) (by simp) ?_;(case hd=>rfl);(case hg=>rfl);(case hr=>(go_simp;done));(case hp=>exact (Reps.none _ _));intro v37010 w14 ho15 hb hg_ hnew_;clear hg_ hnew_;(rw [← Ny37009.out] at ho15);have n0_:=Aside0.mk (Kd.R_below (by exact (Kd.R_mono (Kd.R_far (p:=⟨gb37001,0,none⟩) (Kd.R_types HO37008.out BK37001.out (by decide)) (fun _ hk=>hk.2) (.slice Ao12 y37006.length co12)) (fun _ h_=>h_.1))) hb);have n1_:=Aside0.mk (Kd.R_lower ho15 (below_size (by repeat ((with_reducible first | exact HB.out | refine below_set ?_ GE37001.out)))));have n2_:=Aside0.mk (y03 (g:=gb37001) (o:=.cells #[.slice Ao12 y37006.length co12,.int .i64 a0_1,.int .i64 a0_2,.slice A0_3 l0_3.length c0_3,.int .i64 a0_4,.slice A0_5 l0_5.length c0_5,.int .i64 a0_6,.int .i64 a0_7] 32 (0,0)) (by refine blk_put (cs:=#[.slice A0_0 l0_0.length c0_0,.int .i64 a0_1,.int .i64 a0_2,.slice A0_3 l0_3.length c0_3,.int .i64 a0_4,.slice A0_5 l0_5.length c0_5,.int .i64 a0_6,.int .i64 a0_7]) ?_ 0 _ rfl;exact BK37001.out) hb);have n3_:=Aside0.mk (y03 (g:=gb37002) (o:=.cells #[.slice none 0 0,.int .i64 0,.int .i64 0,.slice none 0 0,.int .i64 0,.slice none 0 0,.int .i64 0,.int .i64 0] 32 (0,0)) (by refine blk_far ?_ NB37002_37001.out _;exact BK37002.out) hb);have n4_:=Aside0.mk (below_step (by repeat ((with_reducible first | exact HB.out | refine below_set ?_ GE37001.out))) hb);clear HO37008;clear BK37001;clear BK37002;clear HB;have HO37008:=n0_;have HO37011:=n1_;have BK37001:=n2_;have BK37002:=n3_;have HB:=n4_;clear n0_ n1_ n2_ n3_ n4_;clear hb ho15;have hcz16_0:w14.cell? ⟨gb37001,0,none⟩=some (.slice Ao12 y37006.length co12):=(y00 BK37001.out 0).trans rfl;have hcz16_1:w14.cell? ⟨gb37001,1,none⟩=some (.int .i64 a0_1):=(y00 BK37001.out 1).trans rfl;have hcz16_2:w14.cell? ⟨gb37001,2,none⟩=some (.int .i64 a0_2):=(y00 BK37001.out 2).trans rfl;have hcz16_3:w14.cell? ⟨gb37001,3,none⟩=some (.slice A0_3 l0_3.length c0_3):=(y00 BK37001.out 3).trans rfl;have hcz16_4:w14.cell? ⟨gb37001,4,none⟩=some (.int .i64 a0_4):=(y00 BK37001.out 4).trans rfl;have hcz16_5:w14.cell? ⟨gb37001,5,none⟩=some (.slice A0_5 l0_5.length c0_5):=(y00 BK37001.out 5).trans rfl;have hcz16_6:w14.cell? ⟨gb37001,6,none⟩=some (.int .i64 a0_6):=(y00 BK37001.out 6).trans rfl;have hcz16_7:w14.cell? ⟨gb37001,7,none⟩=some (.int .i64 a0_7):=(y00 BK37001.out 7).trans rfl;have hfz16_0:=y02 BK37001.out 0;have hfz16_1:=y02 BK37001.out 1;have hfz16_2:=y02 BK37001.out 2;have hfz16_3:=y02 BK37001.out 3;have hfz16_4:=y02 BK37001.out 4;have hfz16_5:=y02 BK37001.out 5;have hfz16_6:=y02 BK37001.out 6;have hfz16_7:=y02 BK37001.out 7) | ((with_reducible refine gate_builtin (b:=.append) (xs:=#[.tmp 10,.tmp 12]) rfl ?_);at_builtin;refine Kd.R_append_rows k63 (w0:=w) w.heap.size rfl (.tmp 10) (.tmp 12) 30 63 (.agg #[(.int .i64 0),(.int .i64 0)]) 16 rfl Tryz.underlying30 info63 rfl (by decide) (by omega) v37010 y37009 l0_5 _ _ _ (fun _=>True) (fun _=>False) rfl rfl ?aO ?aR (fun _ _ h=>h) (fun _ h=>h.elim) ?aF ?aB ?aS ?aL ?_;(case aR=>repeat (exact (Kd.C_below HR0_5.out HB.out)));(case aB=>exact HB.out);(case aF=>exact (fun _ _=>trivial));(case aO=>exact HO37011.out);(case aS=>exact (below_size HB.out));(case aL=>have:=LMc3.out;omega);intro v37013 w17 ho hb hg hat;rw [← Ny37012.out] at ho;have n0_:=Aside0.mk (blk_grown (g:=gb37001) (o:=.cells #[.slice Ao12 y37006.length co12,.int .i64 a0_1,.int .i64 a0_2,.slice A0_3 l0_3.length c0_3,.int .i64 a0_4,.slice A0_5 l0_5.length c0_5,.int .i64 a0_6,.int .i64 a0_7] 32 (0,0)) BK37001.out hg (Kd.R_ne HO37011.out BK37001.out (by decide)));have n1_:=Aside0.mk (blk_grown (g:=gb37002) (o:=.cells #[.slice none 0 0,.int .i64 0,.int .i64 0,.slice none 0 0,.int .i64 0,.slice none 0 0,.int .i64 0,.int .i64 0] 32 (0,0)) BK37002.out hg (Kd.R_ne HO37011.out BK37002.out (by decide)));have n2_:=Aside0.mk (Kd.R_over' HO37008.out (Kd.R_typed HO37011.out) (by decide) hg);have n3_:=Aside0.mk (hb);have n4_:=Aside0.mk (ho);clear BK37001;clear BK37002;clear HO37008;clear HB;clear HO37011;have BK37001:=n0_;have BK37002:=n1_;have HO37008:=n2_;have HB:=n3_;have HO37014:=n4_;clear n0_ n1_ n2_ n3_ n4_;clear ho hb hg hat;obtain ⟨Ao18,co18,eo18⟩:=Kd.R_slice HO37014.out;subst eo18;have hcz19_0:w17.cell? ⟨gb37001,0,none⟩=some (.slice Ao12 y37006.length co12):=(y00 BK37001.out 0).trans rfl;have hcz19_1:w17.cell? ⟨gb37001,1,none⟩=some (.int .i64 a0_1):=(y00 BK37001.out 1).trans rfl;have hcz19_2:w17.cell? ⟨gb37001,2,none⟩=some (.int .i64 a0_2):=(y00 BK37001.out 2).trans rfl;have hcz19_3:w17.cell? ⟨gb37001,3,none⟩=some (.slice A0_3 l0_3.length c0_3):=(y00 BK37001.out 3).trans rfl;have hcz19_4:w17.cell? ⟨gb37001,4,none⟩=some (.int .i64 a0_4):=(y00 BK37001.out 4).trans rfl;have hcz19_5:w17.cell? ⟨gb37001,5,none⟩=some (.slice A0_5 l0_5.length c0_5):=(y00 BK37001.out 5).trans rfl;have hcz19_6:w17.cell? ⟨gb37001,6,none⟩=some (.int .i64 a0_6):=(y00 BK37001.out 6).trans rfl;have hcz19_7:w17.cell? ⟨gb37001,7,none⟩=some (.int .i64 a0_7):=(y00 BK37001.out 7).trans rfl;have hfz19_0:=y02 BK37001.out 0;have hfz19_1:=y02 BK37001.out 1;have hfz19_2:=y02 BK37001.out 2;have hfz19_3:=y02 BK37001.out 3;have hfz19_4:=y02 BK37001.out 4;have hfz19_5:=y02 BK37001.out 5;have hfz19_6:=y02 BK37001.out 6;have hfz19_7:=y02 BK37001.out 7) | ((with_reducible refine gate_callee (f:=43) rfl ?_);refine goesL_ (some 17) rfl rfl Tryz.func43 (by kernel_rfl) rfl #[.agg #[.slice A0_3 l0_3.length c0_3,.int .i64 a0_4]] rfl (by (try simp only [List.map_toArray,List.map_cons,List.map_nil]);rfl) ?_;(with_reducible refine (impl_copyLedger.calls _ _ l0_3 a0_4 t37015 t37018 _ ?side1 ?side2 A4.out).mono ?_);(case side1=>exact Kd.C_below HR0_3.out (by repeat ((with_reducible first | exact HB.out | refine below_set ?_ GE37001.out))));(case side2=>exact HC0_3.out);rintro e w20 ⟨v37016,rfl,ho0,hb⟩;refine ⟨_,rfl,?_⟩;have n0_:=Aside0.mk (Kd.R_below (by exact (Kd.R_mono (Kd.R_far (p:=⟨gb37001,5,none⟩) (Kd.R_types HO37008.out BK37001.out (by decide)) (fun _ hk=>hk.2) (.slice Ao18 y37012.length co18)) (fun _ h_=>h_.1))) hb);have n1_:=Aside0.mk (Kd.R_below (by exact (Kd.R_mono (Kd.R_far (p:=⟨gb37001,5,none⟩) (Kd.R_types HO37014.out BK37001.out (by decide)) (fun _ hk=>hk.2) (.slice Ao18 y37012.length co18)) (fun _ h_=>h_.1))) hb);have n2_:=Aside0.mk (Kd.S_lower ho0 (below_size (by repeat ((with_reducible first | exact HB.out | refine below_set ?_ GE37001.out)))));have n3_:=Aside0.mk (y03 (g:=gb37001) (o:=.cells #[.slice Ao12 y37006.length co12,.int .i64 a0_1,.int .i64 a0_2,.slice A0_3 l0_3.length c0_3,.int .i64 a0_4,.slice Ao18 y37012.length co18,.int .i64 a0_6,.int .i64 a0_7] 32 (0,0)) (by refine blk_put (cs:=#[.slice Ao12 y37006.length co12,.int .i64 a0_1,.int .i64 a0_2,.slice A0_3 l0_3.length c0_3,.int .i64 a0_4,.slice A0_5 l0_5.length c0_5,.int .i64 a0_6,.int .i64 a0_7]) ?_ 5 _ rfl;exact BK37001.out) hb);have n4_:=Aside0.mk (y03 (g:=gb37002) (o:=.cells #[.slice none 0 0,.int .i64 0,.int .i64 0,.slice none 0 0,.int .i64 0,.slice none 0 0,.int .i64 0,.int .i64 0] 32 (0,0)) (by refine blk_far ?_ NB37002_37001.out _;exact BK37002.out) hb);have n5_:=Aside0.mk (below_step (by repeat ((with_reducible first | exact HB.out | refine below_set ?_ GE37001.out))) hb);clear HO37008;clear HO37014;clear BK37001;clear BK37002;clear HB;have HO37008:=n0_;have HO37014:=n1_;have HO37017:=n2_;have BK37001:=n3_;have BK37002:=n4_;have HB:=n5_;clear n0_ n1_ n2_ n3_ n4_ n5_;(try clear hb);(try clear hb2);(try clear hk);(try clear hi);(try clear ho0);obtain ⟨Ao21,co21,eo21⟩:=Kd.S_slice HO37017.out;subst eo21;have hcz22_0:w20.cell? ⟨gb37001,0,none⟩=some (.slice Ao12 y37006.length co12):=(y00 BK37001.out 0).trans rfl;have hcz22_1:w20.cell? ⟨gb37001,1,none⟩=some (.int .i64 a0_1):=(y00 BK37001.out 1).trans rfl;have hcz22_2:w20.cell? ⟨gb37001,2,none⟩=some (.int .i64 a0_2):=(y00 BK37001.out 2).trans rfl;have hcz22_3:w20.cell? ⟨gb37001,3,none⟩=some (.slice A0_3 l0_3.length c0_3):=(y00 BK37001.out 3).trans rfl;have hcz22_4:w20.cell? ⟨gb37001,4,none⟩=some (.int .i64 a0_4):=(y00 BK37001.out 4).trans rfl;have hcz22_5:w20.cell? ⟨gb37001,5,none⟩=some (.slice Ao18 y37012.length co18):=(y00 BK37001.out 5).trans rfl;have hcz22_6:w20.cell? ⟨gb37001,6,none⟩=some (.int .i64 a0_6):=(y00 BK37001.out 6).trans rfl;have hcz22_7:w20.cell? ⟨gb37001,7,none⟩=some (.int .i64 a0_7):=(y00 BK37001.out 7).trans rfl;have hfz22_0:=y02 BK37001.out 0;have hfz22_1:=y02 BK37001.out 1;have hfz22_2:=y02 BK37001.out 2;have hfz22_3:=y02 BK37001.out 3;have hfz22_4:=y02 BK37001.out 4;have hfz22_5:=y02 BK37001.out 5;have hfz22_6:=y02 BK37001.out 6;have hfz22_7:=y02 BK37001.out 7;have hcz23_0:w20.cell? ⟨gb37002,0,none⟩=some (.slice none 0 0):=(y00 BK37002.out 0).trans rfl;have hcz23_1:w20.cell? ⟨gb37002,1,none⟩=some (.int .i64 0):=(y00 BK37002.out 1).trans rfl;have hcz23_2:w20.cell? ⟨gb37002,2,none⟩=some (.int .i64 0):=(y00 BK37002.out 2).trans rfl;have hcz23_3:w20.cell? ⟨gb37002,3,none⟩=some (.slice none 0 0):=(y00 BK37002.out 3).trans rfl;have hcz23_4:w20.cell? ⟨gb37002,4,none⟩=some (.int .i64 0):=(y00 BK37002.out 4).trans rfl;have hcz23_5:w20.cell? ⟨gb37002,5,none⟩=some (.slice none 0 0):=(y00 BK37002.out 5).trans rfl;have hcz23_6:w20.cell? ⟨gb37002,6,none⟩=some (.int .i64 0):=(y00 BK37002.out 6).trans rfl;have hcz23_7:w20.cell? ⟨gb37002,7,none⟩=some (.int .i64 0):=(y00 BK37002.out 7).trans rfl;have hfz23_0:=y02 BK37002.out 0;have hfz23_1:=y02 BK37002.out 1;have hfz23_2:=y02 BK37002.out 2;have hfz23_3:=y02 BK37002.out 3;have hfz23_4:=y02 BK37002.out 4;have hfz23_5:=y02 BK37002.out 5;have hfz23_6:=y02 BK37002.out 6;have hfz23_7:=y02 BK37002.out 7))
   refine bodyPost_ret (results_cell_row rfl _ _ gb37002 32 #[.slice Ao12 y37006.length co12,.int .i64 a0_1,.int .i64 a0_2,.slice Ao21 t37015.length co21,.int .i64 t37018,.slice Ao18 y37012.length co18,.int .i64 a0_6,.int .i64 a0_7] (0,0) _ rfl (by refine blk_put (cs:=#[.slice Ao12 y37006.length co12,.int .i64 a0_1,.int .i64 a0_2,.slice Ao21 t37015.length co21,.int .i64 t37018,.slice Ao18 y37012.length co18,.int .i64 a0_6,.int .i64 0]) ?_ 7 _ rfl;refine blk_put (cs:=#[.slice Ao12 y37006.length co12,.int .i64 a0_1,.int .i64 a0_2,.slice Ao21 t37015.length co21,.int .i64 t37018,.slice Ao18 y37012.length co18,.int .i64 0,.int .i64 0]) ?_ 6 _ rfl;refine blk_put (cs:=#[.slice Ao12 y37006.length co12,.int .i64 a0_1,.int .i64 a0_2,.slice Ao21 t37015.length co21,.int .i64 t37018,.slice none 0 0,.int .i64 0,.int .i64 0]) ?_ 5 _ rfl;refine blk_put (cs:=#[.slice Ao12 y37006.length co12,.int .i64 a0_1,.int .i64 a0_2,.slice Ao21 t37015.length co21,.int .i64 0,.slice none 0 0,.int .i64 0,.int .i64 0]) ?_ 4 _ rfl;refine blk_put (cs:=#[.slice Ao12 y37006.length co12,.int .i64 a0_1,.int .i64 a0_2,.slice none 0 0,.int .i64 0,.slice none 0 0,.int .i64 0,.int .i64 0]) ?_ 3 _ rfl;refine blk_put (cs:=#[.slice Ao12 y37006.length co12,.int .i64 a0_1,.int .i64 0,.slice none 0 0,.int .i64 0,.slice none 0 0,.int .i64 0,.int .i64 0]) ?_ 2 _ rfl;refine blk_put (cs:=#[.slice Ao12 y37006.length co12,.int .i64 0,.int .i64 0,.slice none 0 0,.int .i64 0,.slice none 0 0,.int .i64 0,.int .i64 0]) ?_ 1 _ rfl;refine blk_put (cs:=#[.slice none 0 0,.int .i64 0,.int .i64 0,.slice none 0 0,.int .i64 0,.slice none 0 0,.int .i64 0,.int .i64 0]) ?_ 0 _ rfl;refine blk_far ?_ NB37002_37001.out _;refine blk_far ?_ NB37002_37001.out _;exact BK37002.out) Tryz.underlying32 rfl (by kernel_rfl)) rfl ?_;exact ⟨_,_,_,by first | rfl | (simp [errW_none,errW_some] <;> rfl) | (simp [*,errW_none,errW_some] <;> rfl),by exact Kd.R_mono (Kd.R_far (p:=⟨gb37002,7,none⟩) (Kd.R_far (p:=⟨gb37002,6,none⟩) (Kd.R_far (p:=⟨gb37002,5,none⟩) (Kd.R_far (p:=⟨gb37002,4,none⟩) (Kd.R_far (p:=⟨gb37002,3,none⟩) (Kd.R_far (p:=⟨gb37002,2,none⟩) (Kd.R_far (p:=⟨gb37002,1,none⟩) (Kd.R_far (p:=⟨gb37002,0,none⟩) (Kd.R_far (p:=⟨gb37001,4,none⟩) (Kd.R_far (p:=⟨gb37001,3,none⟩) (Kd.R_types (Kd.R_types HO37008.out BK37001.out (by decide)) BK37002.out (by decide)) (fun _ hk=>hk.1.2) (.slice Ao21 t37015.length co21)) (fun _ hk=>hk.1.2) (.int .i64 t37018)) (fun _ hk=>hk.2) (.slice Ao12 y37006.length co12)) (fun _ hk=>hk.2) (.int .i64 a0_1)) (fun _ hk=>hk.2) (.int .i64 a0_2)) (fun _ hk=>hk.2) (.slice Ao21 t37015.length co21)) (fun _ hk=>hk.2) (.int .i64 t37018)) (fun _ hk=>hk.2) (.slice Ao18 y37012.length co18)) (fun _ hk=>hk.2) (.int .i64 a0_6)) (fun _ hk=>hk.2) (.int .i64 a0_7)) (fun _ hk=>trivial),by exact Kd.S_mono (Kd.S_far (p:=⟨gb37002,7,none⟩) (Kd.S_far (p:=⟨gb37002,6,none⟩) (Kd.S_far (p:=⟨gb37002,5,none⟩) (Kd.S_far (p:=⟨gb37002,4,none⟩) (Kd.S_far (p:=⟨gb37002,3,none⟩) (Kd.S_far (p:=⟨gb37002,2,none⟩) (Kd.S_far (p:=⟨gb37002,1,none⟩) (Kd.S_far (p:=⟨gb37002,0,none⟩) (Kd.S_far (p:=⟨gb37001,4,none⟩) (Kd.S_far (p:=⟨gb37001,3,none⟩) (Kd.S_types (Kd.S_types HO37017.out BK37001.out (by decide)) BK37002.out (by decide)) (fun _ hk=>hk.1.2) (.slice Ao21 t37015.length co21)) (fun _ hk=>hk.1.2) (.int .i64 t37018)) (fun _ hk=>hk.2) (.slice Ao12 y37006.length co12)) (fun _ hk=>hk.2) (.int .i64 a0_1)) (fun _ hk=>hk.2) (.int .i64 a0_2)) (fun _ hk=>hk.2) (.slice Ao21 t37015.length co21)) (fun _ hk=>hk.2) (.int .i64 t37018)) (fun _ hk=>hk.2) (.slice Ao18 y37012.length co18)) (fun _ hk=>hk.2) (.int .i64 a0_6)) (fun _ hk=>hk.2) (.int .i64 a0_7)) (fun _ hk=>trivial),by exact Kd.R_mono (Kd.R_far (p:=⟨gb37002,7,none⟩) (Kd.R_far (p:=⟨gb37002,6,none⟩) (Kd.R_far (p:=⟨gb37002,5,none⟩) (Kd.R_far (p:=⟨gb37002,4,none⟩) (Kd.R_far (p:=⟨gb37002,3,none⟩) (Kd.R_far (p:=⟨gb37002,2,none⟩) (Kd.R_far (p:=⟨gb37002,1,none⟩) (Kd.R_far (p:=⟨gb37002,0,none⟩) (Kd.R_far (p:=⟨gb37001,4,none⟩) (Kd.R_far (p:=⟨gb37001,3,none⟩) (Kd.R_types (Kd.R_types HO37014.out BK37001.out (by decide)) BK37002.out (by decide)) (fun _ hk=>hk.1.2) (.slice Ao21 t37015.length co21)) (fun _ hk=>hk.1.2) (.int .i64 t37018)) (fun _ hk=>hk.2) (.slice Ao12 y37006.length co12)) (fun _ hk=>hk.2) (.int .i64 a0_1)) (fun _ hk=>hk.2) (.int .i64 a0_2)) (fun _ hk=>hk.2) (.slice Ao21 t37015.length co21)) (fun _ hk=>hk.2) (.int .i64 t37018)) (fun _ hk=>hk.2) (.slice Ao18 y37012.length co18)) (fun _ hk=>hk.2) (.int .i64 a0_6)) (fun _ hk=>hk.2) (.int .i64 a0_7)) (fun _ hk=>trivial),by repeat ((with_reducible first | exact HB.out | refine below_set ?_ GE37001.out | refine below_set ?_ GE37002.out))⟩
  ·rw [if_neg c3] at H;exact absurd H (by simp)
 ·rw [if_neg c2] at H;exact absurd H (by simp)
end Go.Proofs.YtnknanppoenigaaGreatDoor.Q
namespace Go.Proofs.YtnknanppoenigaaGreatDoor.Q
open Go.RowKit Go.Proofs.YtnknanppoenigaaGreatDoorW.PrintWords Go.Proofs.YtnknanppoenigaaGreatDoorW.PrintLast Go.Proofs.YtnknanppoenigaaGreatDoorW.PrintMore
set_option linter.unusedVariables false
set_option linter.unusedSimpArgs false
noncomputable def spec_l2Leap.f (a0:Int):Option (Bool):=if (Int.tmod a0 4)=0 then (if (Int.tmod a0 100)=0 then (some ((Int.tmod a0 400) == 0)) else (some true)) else (some ((Int.tmod a0 400) == 0))
set_option maxHeartbeats 8000000 in
set_option maxRecDepth 100000 in
theorem spec_l2Leap.calls (a0:Int) (r:Bool) (w:World) (h:spec_l2Leap.f a0=some r) :
 Calls Tryz.prog 87 #[.int .i64 a0] w fun e w'=>e = .returned (.bool r)∧Drawn0 w w':=by
 have H:(if (Int.tmod a0 4)=0 then (if (Int.tmod a0 100)=0 then (some ((Int.tmod a0 400) == 0)) else (some true)) else (some ((Int.tmod a0 400) == 0)))=some r:=h;clear h;by_cases c2:(Int.tmod a0 4)=0
 ·rw [if_pos c2] at H;have c2b0:((Int.tmod a0 4) == 0)=true:=beq_iff_eq.mpr c2;have c2b1:((Int.tmod a0 4) != 0)=false:=bne_eq_false_iff_eq.mpr c2;clear c2;by_cases c3:(Int.tmod a0 100)=0
  ·rw [if_pos c3] at H;have c3b0:((Int.tmod a0 100) == 0)=true:=beq_iff_eq.mpr c3;have c3b1:((Int.tmod a0 100) != 0)=false:=bne_eq_false_iff_eq.mpr c3;clear c3;obtain rfl:=Option.some.inj H
   go_enter Tryz.func87,Tryz.ntmps87
   go_wp2
   go_ret
   exact ⟨by first | rfl | (simp;done) | (simp [*];done),by repeat (exact Drawn0.refl _)⟩
  ·rw [if_neg c3] at H;have c3b0:((Int.tmod a0 100) == 0)=false:=beq_eq_false_iff_ne.mpr c3;have c3b1:((Int.tmod a0 100) != 0)=true:=bne_iff_ne.mpr c3;obtain rfl:=Option.some.inj H
   go_enter Tryz.func87,Tryz.ntmps87
   go_wp2
   go_ret
   exact ⟨by first | rfl | (simp;done) | (simp [*];done),by repeat (exact Drawn0.refl _)⟩
 ·rw [if_neg c2] at H;have c2b0:((Int.tmod a0 4) == 0)=false:=beq_eq_false_iff_ne.mpr c2;have c2b1:((Int.tmod a0 4) != 0)=true:=bne_iff_ne.mpr c2;obtain rfl:=Option.some.inj H
  go_enter Tryz.func87,Tryz.ntmps87
  go_wp2
  go_ret
  exact ⟨by first | rfl | (simp;done) | (simp [*];done),by repeat (exact Drawn0.refl _)⟩
noncomputable def spec_l2Long.f (a0:Int) (a1:Int):Option (Int):=if a1=2 then ((spec_l2Leap.f a0).bind fun t85001=>(if t85001=true then (some 29) else (some 28))) else (if a1=4 then (some 30) else (if a1=6 then (some 30) else (if a1=9 then (some 30) else (if a1=11 then (some 30) else (some 31)))))
set_option maxHeartbeats 8000000 in
set_option maxRecDepth 100000 in
theorem spec_l2Long.calls (a0:Int) (a1:Int) (r:Int) (w:World) (h:spec_l2Long.f a0 a1=some r) :
 Calls Tryz.prog 84 #[.int .i64 a0,.int .i64 a1] w fun e w'=>e = .returned (.int .i64 r)∧Drawn0 w w':=by
 have H:(if a1=2 then ((spec_l2Leap.f a0).bind fun t85001=>(if t85001=true then (some 29) else (some 28))) else (if a1=4 then (some 30) else (if a1=6 then (some 30) else (if a1=9 then (some 30) else (if a1=11 then (some 30) else (some 31))))))=some r:=h;clear h;by_cases c3:a1=2
 ·rw [if_pos c3] at H;have c3b0:(a1 == 2)=true:=beq_iff_eq.mpr c3;have c3b1:(a1 != 2)=false:=bne_eq_false_iff_eq.mpr c3;clear c3;replace H:=Option.bind_eq_some_iff.mp H;obtain ⟨t85001,A40,H⟩:=H;replace H:(if t85001=true then (some 29) else (some 28))=some r:=H;have A4:=Aside0.mk A40;clear A40;by_cases c5:t85001=true
  ·subst c5;have H1:(some 29)=some r:=by rw [if_pos rfl] at H;exact H
   clear H;have H:=H1;clear H1;obtain rfl:=Option.some.inj H
   go_enter Tryz.func84,Tryz.ntmps84
   go_wp2_with (((with_reducible refine gate_callee (f:=87) rfl ?_);refine goesL_ (some 9) rfl rfl Tryz.func87 (by kernel_rfl) rfl #[.int .i64 a0] rfl (by (try simp only [List.map_toArray,List.map_cons,List.map_nil]);rfl) ?_;(with_reducible refine (spec_l2Leap.calls a0 true _ A4.out).mono ?_);rintro e w' ⟨rfl,⟨nd,rfl⟩⟩;refine ⟨_,rfl,?_⟩))
   go_ret
   exact ⟨by first | rfl | (simp;done) | (simp [*];done),by repeat (first | exact Drawn0.refl _ | apply Drawn0.step)⟩
  ·replace c5:=Bool.eq_false_iff.mpr c5;subst c5;have H1:(some 28)=some r:=by rw [if_neg (show ¬ (false=true) by decide)] at H;exact H
   clear H;have H:=H1;clear H1;obtain rfl:=Option.some.inj H
   go_enter Tryz.func84,Tryz.ntmps84
   go_wp2_with (((with_reducible refine gate_callee (f:=87) rfl ?_);refine goesL_ (some 9) rfl rfl Tryz.func87 (by kernel_rfl) rfl #[.int .i64 a0] rfl (by (try simp only [List.map_toArray,List.map_cons,List.map_nil]);rfl) ?_;(with_reducible refine (spec_l2Leap.calls a0 false _ A4.out).mono ?_);rintro e w' ⟨rfl,⟨nd,rfl⟩⟩;refine ⟨_,rfl,?_⟩))
   go_ret
   exact ⟨by first | rfl | (simp;done) | (simp [*];done),by repeat (first | exact Drawn0.refl _ | apply Drawn0.step)⟩
 ·rw [if_neg c3] at H;have c3b0:(a1 == 2)=false:=beq_eq_false_iff_ne.mpr c3;have c3b1:(a1 != 2)=true:=bne_iff_ne.mpr c3;by_cases c6:a1=4
  ·rw [if_pos c6] at H;have c6b0:(a1 == 4)=true:=beq_iff_eq.mpr c6;have c6b1:(a1 != 4)=false:=bne_eq_false_iff_eq.mpr c6;clear c6;obtain rfl:=Option.some.inj H
   go_enter Tryz.func84,Tryz.ntmps84
   go_wp2
   go_ret
   exact ⟨by first | rfl | (simp;done) | (simp [*];done),by repeat (exact Drawn0.refl _)⟩
  ·rw [if_neg c6] at H;have c6b0:(a1 == 4)=false:=beq_eq_false_iff_ne.mpr c6;have c6b1:(a1 != 4)=true:=bne_iff_ne.mpr c6;by_cases c7:a1=6
   ·rw [if_pos c7] at H;have c7b0:(a1 == 6)=true:=beq_iff_eq.mpr c7;have c7b1:(a1 != 6)=false:=bne_eq_false_iff_eq.mpr c7;clear c7;obtain rfl:=Option.some.inj H
    go_enter Tryz.func84,Tryz.ntmps84
    go_wp2
    go_ret
    exact ⟨by first | rfl | (simp;done) | (simp [*];done),by repeat (exact Drawn0.refl _)⟩
   ·rw [if_neg c7] at H;have c7b0:(a1 == 6)=false:=beq_eq_false_iff_ne.mpr c7;have c7b1:(a1 != 6)=true:=bne_iff_ne.mpr c7;by_cases c8:a1=9
    ·rw [if_pos c8] at H;have c8b0:(a1 == 9)=true:=beq_iff_eq.mpr c8;have c8b1:(a1 != 9)=false:=bne_eq_false_iff_eq.mpr c8;clear c8;obtain rfl:=Option.some.inj H
     go_enter Tryz.func84,Tryz.ntmps84
     go_wp2
     go_ret
     exact ⟨by first | rfl | (simp;done) | (simp [*];done),by repeat (exact Drawn0.refl _)⟩
    ·rw [if_neg c8] at H;have c8b0:(a1 == 9)=false:=beq_eq_false_iff_ne.mpr c8;have c8b1:(a1 != 9)=true:=bne_iff_ne.mpr c8;by_cases c9:a1=11
     ·rw [if_pos c9] at H;have c9b0:(a1 == 11)=true:=beq_iff_eq.mpr c9;have c9b1:(a1 != 11)=false:=bne_eq_false_iff_eq.mpr c9;clear c9;obtain rfl:=Option.some.inj H
      go_enter Tryz.func84,Tryz.ntmps84
      go_wp2
      go_ret
      exact ⟨by first | rfl | (simp;done) | (simp [*];done),by repeat (exact Drawn0.refl _)⟩
     ·rw [if_neg c9] at H;have c9b0:(a1 == 11)=false:=beq_eq_false_iff_ne.mpr c9;have c9b1:(a1 != 11)=true:=bne_iff_ne.mpr c9;obtain rfl:=Option.some.inj H
      go_enter Tryz.func84,Tryz.ntmps84
      go_wp2
      go_ret
      exact ⟨by first | rfl | (simp;done) | (simp [*];done),by repeat (exact Drawn0.refl _)⟩
noncomputable def spec_DateOf.l0:Nat→Int→Int→Int→Option (Int × Int × Int)
 | 0,_,_,_=>none
 | k+1,x0,x3,x4=>(spec_l2Long.f x3 x4).bind fun t73003=>(if x0 ≥ t73003 then ((spec_l2Long.f x3 x4).bind fun t73004=>(if (wrap64 (x4+1))=13 then (spec_DateOf.l0 k (wrap64 (x0 - t73004)) (wrap64 (x3+1)) 1) else (spec_DateOf.l0 k (wrap64 (x0 - t73004)) x3 (wrap64 (x4+1))))) else (some (x3,x4,wrap64 (x0+1))))
noncomputable def spec_DateOf.f (k:Nat) (a0:Int):Option (Int × Int × Int):=(spec_l2Day.f a0).bind fun t73002=>(if t73002=true then (spec_DateOf.l0 k a0 2000 1) else (some (0,0,0)))
set_option maxHeartbeats 8000000 in
set_option maxRecDepth 100000 in
theorem spec_DateOf.calls (k:Nat) (a0:Int) (r1:Int) (r2:Int) (r3:Int) (w:World) (h:spec_DateOf.f k a0=some (r1,r2,r3)) :
 Calls Tryz.prog 72 #[.int .i64 a0] w fun e w'=>e = .returned (.agg #[.int .i64 r1,.int .i64 r2,.int .i64 r3])∧Below w.heap.size w w':=by
 have hu122:=Tryz.underlying122;have HB:=Aside0.mk (Below.refl w.heap.size w);have H:((spec_l2Day.f a0).bind fun t73002=>(if t73002=true then (spec_DateOf.l0 k a0 2000 1) else (some (0,0,0))))=some (r1,r2,r3):=h;clear h;replace H:=Option.bind_eq_some_iff.mp H;obtain ⟨t73002,A20,H⟩:=H;replace H:(if t73002=true then (spec_DateOf.l0 k a0 2000 1) else (some (0,0,0)))=some (r1,r2,r3):=H;have A2:=Aside0.mk A20;clear A20;by_cases c3:t73002=true
 ·subst c3;have H1:(spec_DateOf.l0 k a0 2000 1)=some (r1,r2,r3):=by rw [if_pos rfl] at H;exact H
  clear H;have H:=H1;clear H1;have H':=Aside0.mk H;clear H
  go_enter Tryz.func72,Tryz.ntmps72
  go_wp2_with (first | ((with_reducible refine gate_dst (N:=2) rfl ?_);refine box_event ?hg (N:=2) ?hd (cs:=#[.int .i64 0,.int .i64 0,.int .i64 0]) (t:=122) ?hr ?_;(case hd=>rfl);(case hg=>rfl);(case hr=>(go_simp;done));intro gb73001 hg w4 hbox hb;have n0_:=Aside0.mk (below_step HB.out hb);have n1_:=Aside0.mk (hbox);have n2_:=Aside0.mk ((by rw [hg];exact (below_size HB.out):w.heap.size≤gb73001));have n3_:=Aside0.mk ((by rw [hg];exact (below_size HB.out):w.heap.size≤gb73001));clear HB;have HB:=n0_;have BK73001:=n1_;have GW73001:=n2_;have GE73001:=n3_;clear n0_ n1_ n2_ n3_;clear hb hbox hg) | ((with_reducible refine gate_callee (f:=31) rfl ?_);refine goesL_ (some 6) rfl rfl Tryz.func31 (by kernel_rfl) rfl #[.int .i64 a0] rfl (by (try simp only [List.map_toArray,List.map_cons,List.map_nil]);rfl) ?_;(with_reducible refine (spec_l2Day.calls a0 true _ A2.out).mono ?_);rintro e w' ⟨rfl,⟨nd,rfl⟩⟩;refine ⟨_,rfl,?_⟩))
  go_loopg [0,3,4] k (fun kq v0 v3 v4 w'=>∃ (x0_1:Int) (x3_1:Int) (x4_1:Int),v0 = .int .i64 x0_1∧v3 = .int .i64 x3_1∧v4 = .int .i64 x4_1∧Aside0 (spec_DateOf.l0 kq x0_1 x3_1 x4_1=some (r1,r2,r3))∧Aside0 (kq≤k)∧Aside0 (w'.heap[gb73001]?=some (.cells #[.int .i64 0,.int .i64 0,.int .i64 0] 122 (0,0)))∧Aside0 (Below w.heap.size w w'))
  case atStart=>exact ⟨(a0),(2000),(1),(by rfl),(by rfl),(by rfl),H',⟨Nat.le_refl _⟩,⟨by (with_reducible repeat (refine blk_drewN ?_ _));exact BK73001.out⟩,⟨by repeat ((with_reducible first | exact HB.out | apply pw_below_drewN))⟩⟩
  case round =>
   clear H';(try clear p2);(try clear c3);obtain ⟨x0_1,x3_1,x4_1,rfl,rfl,rfl,HA,HK1,BK73001,HB⟩:=hrel;cases gk with
   | zero=>exact absurd HA.out (by simp [spec_DateOf.l0])
   | succ k1 =>
    have H:=HA.out;clear HA;simp only [spec_DateOf.l0] at H;replace H:=Option.bind_eq_some_iff.mp H;obtain ⟨t73003,A50,H⟩:=H;replace H:(if x0_1 ≥ t73003 then ((spec_l2Long.f x3_1 x4_1).bind fun t73004=>(if (wrap64 (x4_1+1))=13 then (spec_DateOf.l0 k1 (wrap64 (x0_1 - t73004)) (wrap64 (x3_1+1)) 1) else (spec_DateOf.l0 k1 (wrap64 (x0_1 - t73004)) x3_1 (wrap64 (x4_1+1))))) else (some (x3_1,x4_1,wrap64 (x0_1+1))))=some (r1,r2,r3):=H;have A5:=Aside0.mk A50;clear A50;by_cases c6:x0_1 ≥ t73003
    ·rw [if_pos c6] at H;have c6b0:decide (t73003≤x0_1)=true:=decide_eq_true c6;clear c6;replace H:=Option.bind_eq_some_iff.mp H;obtain ⟨t73004,A70,H⟩:=H;replace H:(if (wrap64 (x4_1+1))=13 then (spec_DateOf.l0 k1 (wrap64 (x0_1 - t73004)) (wrap64 (x3_1+1)) 1) else (spec_DateOf.l0 k1 (wrap64 (x0_1 - t73004)) x3_1 (wrap64 (x4_1+1))))=some (r1,r2,r3):=H;have A7:=Aside0.mk A70;clear A70;by_cases c8:(wrap64 (x4_1+1))=13
     ·rw [if_pos c8] at H;have c8b0:((wrap64 (x4_1+1)) == 13)=true:=beq_iff_eq.mpr c8;have c8b1:((wrap64 (x4_1+1)) != 13)=false:=bne_eq_false_iff_eq.mpr c8;clear c8;have H':=Aside0.mk H;clear H
      go_wp2_with (first | ((with_reducible refine gate_callee (f:=84) rfl ?_);refine goesL_ (some 12) rfl rfl Tryz.func84 (by kernel_rfl) rfl #[.int .i64 x3_1,.int .i64 x4_1] rfl (by (try simp only [List.map_toArray,List.map_cons,List.map_nil]);rfl) ?_;(with_reducible refine (spec_l2Long.calls x3_1 x4_1 t73003 _ A5.out).mono ?_);rintro e w' ⟨rfl,⟨nd,rfl⟩⟩;refine ⟨_,rfl,?_⟩) | ((with_reducible refine gate_callee (f:=84) rfl ?_);refine goesL_ (some 17) rfl rfl Tryz.func84 (by kernel_rfl) rfl #[.int .i64 x3_1,.int .i64 x4_1] rfl (by (try simp only [List.map_toArray,List.map_cons,List.map_nil]);rfl) ?_;(with_reducible refine (spec_l2Long.calls x3_1 x4_1 t73004 _ A7.out).mono ?_);rintro e w' ⟨rfl,⟨nd,rfl⟩⟩;refine ⟨_,rfl,?_⟩))
      go_roundg k1
      case measure=>have:=HK1.out;omega
      case rel=>exact ⟨(wrap64 (x0_1 - t73004)),(wrap64 (x3_1+1)),(1),(by rfl),(by rfl),(by rfl),H',⟨by have:=HK1.out;omega⟩,⟨by (with_reducible repeat (refine blk_drewN ?_ _));exact BK73001.out⟩,⟨by repeat ((with_reducible first | exact HB.out | apply pw_below_drewN))⟩⟩
     ·rw [if_neg c8] at H;have c8b0:((wrap64 (x4_1+1)) == 13)=false:=beq_eq_false_iff_ne.mpr c8;have c8b1:((wrap64 (x4_1+1)) != 13)=true:=bne_iff_ne.mpr c8;have H':=Aside0.mk H;clear H
      go_wp2_with (first | ((with_reducible refine gate_callee (f:=84) rfl ?_);refine goesL_ (some 12) rfl rfl Tryz.func84 (by kernel_rfl) rfl #[.int .i64 x3_1,.int .i64 x4_1] rfl (by (try simp only [List.map_toArray,List.map_cons,List.map_nil]);rfl) ?_;(with_reducible refine (spec_l2Long.calls x3_1 x4_1 t73003 _ A5.out).mono ?_);rintro e w' ⟨rfl,⟨nd,rfl⟩⟩;refine ⟨_,rfl,?_⟩) | ((with_reducible refine gate_callee (f:=84) rfl ?_);refine goesL_ (some 17) rfl rfl Tryz.func84 (by kernel_rfl) rfl #[.int .i64 x3_1,.int .i64 x4_1] rfl (by (try simp only [List.map_toArray,List.map_cons,List.map_nil]);rfl) ?_;(with_reducible refine (spec_l2Long.calls x3_1 x4_1 t73004 _ A7.out).mono ?_);rintro e w' ⟨rfl,⟨nd,rfl⟩⟩;refine ⟨_,rfl,?_⟩))
      go_roundg k1
      case measure=>have:=HK1.out;omega
      case rel=>exact ⟨(wrap64 (x0_1 - t73004)),(x3_1),(wrap64 (x4_1+1)),(by rfl),(by rfl),(by rfl),H',⟨by have:=HK1.out;omega⟩,⟨by (with_reducible repeat (refine blk_drewN ?_ _));exact BK73001.out⟩,⟨by repeat ((with_reducible first | exact HB.out | apply pw_below_drewN))⟩⟩
    ·rw [if_neg c6] at H;have c6b0:decide (t73003≤x0_1)=false:=decide_eq_false c6;clear c6;simp only [Option.some.injEq,Prod.mk.injEq] at H;obtain ⟨rfl,rfl,rfl⟩:=H
     go_wp2_with (((with_reducible refine gate_callee (f:=84) rfl ?_);refine goesL_ (some 12) rfl rfl Tryz.func84 (by kernel_rfl) rfl #[.int .i64 x3_1,.int .i64 x4_1] rfl (by (try simp only [List.map_toArray,List.map_cons,List.map_nil]);rfl) ?_;(with_reducible refine (spec_l2Long.calls x3_1 x4_1 t73003 _ A5.out).mono ?_);rintro e w' ⟨rfl,⟨nd,rfl⟩⟩;refine ⟨_,rfl,?_⟩;(try (rw [drewN_self wr];generalize hq_:World.drewN wr _=wr;have n0_:Aside0 (wr.heap[gb73001]?=some (.cells #[.int .i64 0,.int .i64 0,.int .i64 0] 122 (0,0))):=⟨by rw [← hq_];exact (by (with_reducible repeat (refine blk_drewN ?_ _));exact BK73001.out)⟩;have n1_:Aside0 (Below w.heap.size w wr):=⟨by rw [← hq_];exact (by repeat ((with_reducible first | exact HB.out | apply pw_below_drewN)))⟩;clear BK73001 HB hq_;have BK73001:=n0_;have HB:=n1_;clear n0_ n1_));have hcz9_0:wr.cell? ⟨gb73001,0,none⟩=some (.int .i64 0):=(y00 BK73001.out 0).trans rfl;have hcz9_1:wr.cell? ⟨gb73001,1,none⟩=some (.int .i64 0):=(y00 BK73001.out 1).trans rfl;have hcz9_2:wr.cell? ⟨gb73001,2,none⟩=some (.int .i64 0):=(y00 BK73001.out 2).trans rfl;have hfz9_0:=y02 BK73001.out 0;have hfz9_1:=y02 BK73001.out 1;have hfz9_2:=y02 BK73001.out 2))
     refine bodyPost_ret (results_cell_row rfl _ _ gb73001 122 #[.int .i64 x3_1,.int .i64 x4_1,.int .i64 (wrap64 (x0_1+1))] (0,0) _ rfl (by refine blk_put (cs:=#[.int .i64 x3_1,.int .i64 x4_1,.int .i64 0]) ?_ 2 _ rfl;refine blk_put (cs:=#[.int .i64 x3_1,.int .i64 0,.int .i64 0]) ?_ 1 _ rfl;refine blk_put (cs:=#[.int .i64 0,.int .i64 0,.int .i64 0]) ?_ 0 _ rfl;exact BK73001.out) Tryz.underlying122 rfl (by kernel_rfl)) rfl ?_;exact ⟨by first | rfl | (simp [errW_none,errW_some] <;> rfl) | (simp [*,errW_none,errW_some] <;> rfl),by repeat ((with_reducible first | exact HB.out | refine below_set ?_ GE73001.out))⟩
 ·replace c3:=Bool.eq_false_iff.mpr c3;subst c3;have H1:(some (0,0,0))=some (r1,r2,r3):=by rw [if_neg (show ¬ (false=true) by decide)] at H;exact H
  clear H;have H:=H1;clear H1;simp only [Option.some.injEq,Prod.mk.injEq] at H;obtain ⟨rfl,rfl,rfl⟩:=H
  go_enter Tryz.func72,Tryz.ntmps72
  go_wp2_with (first | ((with_reducible refine gate_dst (N:=2) rfl ?_);refine box_event ?hg (N:=2) ?hd (cs:=#[.int .i64 0,.int .i64 0,.int .i64 0]) (t:=122) ?hr ?_;(case hd=>rfl);(case hg=>rfl);(case hr=>(go_simp;done));intro gb73001 hg w10 hbox hb;have n0_:=Aside0.mk (below_step HB.out hb);have n1_:=Aside0.mk (hbox);have n2_:=Aside0.mk ((by rw [hg];exact (below_size HB.out):w.heap.size≤gb73001));have n3_:=Aside0.mk ((by rw [hg];exact (below_size HB.out):w.heap.size≤gb73001));clear HB;have HB:=n0_;have BK73001:=n1_;have GW73001:=n2_;have GE73001:=n3_;clear n0_ n1_ n2_ n3_;clear hb hbox hg) | ((with_reducible refine gate_callee (f:=31) rfl ?_);refine goesL_ (some 6) rfl rfl Tryz.func31 (by kernel_rfl) rfl #[.int .i64 a0] rfl (by (try simp only [List.map_toArray,List.map_cons,List.map_nil]);rfl) ?_;(with_reducible refine (spec_l2Day.calls a0 false _ A2.out).mono ?_);rintro e w' ⟨rfl,⟨nd,rfl⟩⟩;refine ⟨_,rfl,?_⟩;(try (rw [drewN_self w10];generalize hq_:World.drewN w10 _=w10;have n0_:Aside0 (w10.heap[gb73001]?=some (.cells #[.int .i64 0,.int .i64 0,.int .i64 0] 122 (0,0))):=⟨by rw [← hq_];exact (by (with_reducible repeat (refine blk_drewN ?_ _));exact BK73001.out)⟩;have n1_:Aside0 (Below w.heap.size w w10):=⟨by rw [← hq_];exact (by repeat ((with_reducible first | exact HB.out | apply pw_below_drewN)))⟩;clear BK73001 HB hq_;have BK73001:=n0_;have HB:=n1_;clear n0_ n1_));have hcz11_0:w10.cell? ⟨gb73001,0,none⟩=some (.int .i64 0):=(y00 BK73001.out 0).trans rfl;have hcz11_1:w10.cell? ⟨gb73001,1,none⟩=some (.int .i64 0):=(y00 BK73001.out 1).trans rfl;have hcz11_2:w10.cell? ⟨gb73001,2,none⟩=some (.int .i64 0):=(y00 BK73001.out 2).trans rfl;have hfz11_0:=y02 BK73001.out 0;have hfz11_1:=y02 BK73001.out 1;have hfz11_2:=y02 BK73001.out 2))
  refine bodyPost_ret (results_cell_row rfl _ _ gb73001 122 #[.int .i64 0,.int .i64 0,.int .i64 0] (0,0) _ rfl (by refine blk_put (cs:=#[.int .i64 0,.int .i64 0,.int .i64 0]) ?_ 2 _ rfl;refine blk_put (cs:=#[.int .i64 0,.int .i64 0,.int .i64 0]) ?_ 1 _ rfl;refine blk_put (cs:=#[.int .i64 0,.int .i64 0,.int .i64 0]) ?_ 0 _ rfl;exact BK73001.out) Tryz.underlying122 rfl (by kernel_rfl)) rfl ?_;exact ⟨by first | rfl | (simp [errW_none,errW_some] <;> rfl) | (simp [*,errW_none,errW_some] <;> rfl),by repeat ((with_reducible first | exact HB.out | refine below_set ?_ GE73001.out))⟩
mutual
noncomputable def spec_DayOf.j0:Nat→Bool→Int→Int→Int→Option (Int)
 | 0,_,_,_,_=>none
 | k+1,x26,x86002000,x86002001,x86002002=>if x26=true then (some (-1)) else (spec_DayOf.l0 k (wrap64 (x86002002 - 1)) 2000 x86002000 x86002001 x86002002)
noncomputable def spec_DayOf.l0:Nat→Int→Int→Int→Int→Int→Option (Int)
 | 0,_,_,_,_,_=>none
 | k+1,x3,x4,x86002000,x86002001,x86002002=>if x4 < x86002000 then ((spec_l2Leap.f x4).bind fun t86006=>(if t86006=true then (spec_DayOf.l0 k (wrap64 ((wrap64 (x3+365))+1)) (wrap64 (x4+1)) x86002000 x86002001 x86002002) else (spec_DayOf.l0 k (wrap64 (x3+365)) (wrap64 (x4+1)) x86002000 x86002001 x86002002))) else (spec_DayOf.l1 k x3 1 x86002000 x86002001 x86002002)
noncomputable def spec_DayOf.l1:Nat→Int→Int→Int→Int→Int→Option (Int)
 | 0,_,_,_,_,_=>none
 | k+1,x3,x5,x86002000,x86002001,x86002002=>if x5 < x86002001 then ((spec_l2Long.f x86002000 x5).bind fun t86007=>(spec_DayOf.l1 k (wrap64 (x3+t86007)) (wrap64 (x5+1)) x86002000 x86002001 x86002002)) else ((spec_l2Day.f x3).bind fun t86008=>(if t86008=true then (some x3) else (some (-1))))
end
noncomputable def spec_DayOf.f (k:Nat) (a0_0:Int) (a0_1:Int) (a0_2:Int):Option (Int):=(spec_l1In.f a0_0 2000 2200).bind fun t86002=>(if t86002=true then ((spec_l1In.f a0_1 1 12).bind fun t86003=>(if t86003=true then ((spec_l2Long.f a0_0 a0_1).bind fun t86004=>((spec_l1In.f a0_2 1 t86004).bind fun t86005=>(spec_DayOf.j0 k (!t86005) a0_0 a0_1 a0_2))) else (spec_DayOf.j0 k true a0_0 a0_1 a0_2))) else (spec_DayOf.j0 k true a0_0 a0_1 a0_2))
set_option maxHeartbeats 8000000 in
set_option maxRecDepth 100000 in
theorem spec_DayOf.calls (k:Nat) (a0_0:Int) (a0_1:Int) (a0_2:Int) (r:Int) (w:World) (h:spec_DayOf.f k a0_0 a0_1 a0_2=some r) :
 Calls Tryz.prog 85 #[.agg #[.int .i64 a0_0,.int .i64 a0_1,.int .i64 a0_2]] w fun e w'=>e = .returned (.int .i64 r)∧Below w.heap.size w w':=by
 have hu122:=Tryz.underlying122;have HB:=Aside0.mk (Below.refl w.heap.size w);have H:((spec_l1In.f a0_0 2000 2200).bind fun t86002=>(if t86002=true then ((spec_l1In.f a0_1 1 12).bind fun t86003=>(if t86003=true then ((spec_l2Long.f a0_0 a0_1).bind fun t86004=>((spec_l1In.f a0_2 1 t86004).bind fun t86005=>(spec_DayOf.j0 k (!t86005) a0_0 a0_1 a0_2))) else (spec_DayOf.j0 k true a0_0 a0_1 a0_2))) else (spec_DayOf.j0 k true a0_0 a0_1 a0_2)))=some r:=h;clear h;have HC2:=Aside0.mk H;clear H
 go_enter Tryz.func85,Tryz.ntmps85
 go_upto_region 1 with (((with_reducible refine gate_dst (N:=1) rfl ?_);refine box_event ?hg (N:=1) ?hd (cs:=#[.int .i64 a0_0,.int .i64 a0_1,.int .i64 a0_2]) (t:=122) ?hr ?_;(case hd=>rfl);(case hg=>rfl);(case hr=>(go_simp;done));intro gb86001 hg w3 hbox hb;have n0_:=Aside0.mk (below_step HB.out hb);have n1_:=Aside0.mk (hbox);have n2_:=Aside0.mk ((by rw [hg];exact (below_size HB.out):w.heap.size≤gb86001));have n3_:=Aside0.mk ((by rw [hg];exact (below_size HB.out):w.heap.size≤gb86001));clear HB;have HB:=n0_;have BK86001:=n1_;have GW86001:=n2_;have GE86001:=n3_;clear n0_ n1_ n2_ n3_;clear hb hbox hg))
 repeat (go_quiet (fail);go_upto_region 1 with (fail))
 (try simp only [Act.put,List.setIfInBounds_toArray,List.set_cons_zero,List.set_cons_succ])
 go_cut [26] (fun v26 wc=>∃ (kq:Nat) (x26_1:Bool),v26 = .bool x26_1∧Aside0 (spec_DayOf.j0 kq x26_1 a0_0 a0_1 a0_2=some r)∧Aside0 (kq≤k)∧Aside0 (wc.heap[gb86001]?=some (.cells #[.int .i64 a0_0,.int .i64 a0_1,.int .i64 a0_2] 122 (0,0)))∧Aside0 (Below w.heap.size w wc))
 case first =>
  have H:=HC2.out;clear HC2;replace H:=Option.bind_eq_some_iff.mp H;obtain ⟨t86002,A40,H⟩:=H;replace H:(if t86002=true then ((spec_l1In.f a0_1 1 12).bind fun t86003=>(if t86003=true then ((spec_l2Long.f a0_0 a0_1).bind fun t86004=>((spec_l1In.f a0_2 1 t86004).bind fun t86005=>(spec_DayOf.j0 k (!t86005) a0_0 a0_1 a0_2))) else (spec_DayOf.j0 k true a0_0 a0_1 a0_2))) else (spec_DayOf.j0 k true a0_0 a0_1 a0_2))=some r:=H;have A4:=Aside0.mk A40;clear A40;by_cases c5:t86002=true
  ·subst c5;have H1:((spec_l1In.f a0_1 1 12).bind fun t86003=>(if t86003=true then ((spec_l2Long.f a0_0 a0_1).bind fun t86004=>((spec_l1In.f a0_2 1 t86004).bind fun t86005=>(spec_DayOf.j0 k (!t86005) a0_0 a0_1 a0_2))) else (spec_DayOf.j0 k true a0_0 a0_1 a0_2)))=some r:=by rw [if_pos rfl] at H;exact H
   clear H;have H:=H1;clear H1;replace H:=Option.bind_eq_some_iff.mp H;obtain ⟨t86003,A60,H⟩:=H;replace H:(if t86003=true then ((spec_l2Long.f a0_0 a0_1).bind fun t86004=>((spec_l1In.f a0_2 1 t86004).bind fun t86005=>(spec_DayOf.j0 k (!t86005) a0_0 a0_1 a0_2))) else (spec_DayOf.j0 k true a0_0 a0_1 a0_2))=some r:=H;have A6:=Aside0.mk A60;clear A60;by_cases c7:t86003=true
   ·subst c7;have H1:((spec_l2Long.f a0_0 a0_1).bind fun t86004=>((spec_l1In.f a0_2 1 t86004).bind fun t86005=>(spec_DayOf.j0 k (!t86005) a0_0 a0_1 a0_2)))=some r:=by rw [if_pos rfl] at H;exact H
    clear H;have H:=H1;clear H1;replace H:=Option.bind_eq_some_iff.mp H;obtain ⟨t86004,A80,H⟩:=H;replace H:((spec_l1In.f a0_2 1 t86004).bind fun t86005=>(spec_DayOf.j0 k (!t86005) a0_0 a0_1 a0_2))=some r:=H;have A8:=Aside0.mk A80;clear A80;replace H:=Option.bind_eq_some_iff.mp H;obtain ⟨t86005,A90,H⟩:=H;replace H:(spec_DayOf.j0 k (!t86005) a0_0 a0_1 a0_2)=some r:=H;have A9:=Aside0.mk A90;clear A90;have H':=Aside0.mk H;clear H;have hcz10_0:w3.cell? ⟨gb86001,0,none⟩=some (.int .i64 a0_0):=(y00 BK86001.out 0).trans rfl;have hcz10_1:w3.cell? ⟨gb86001,1,none⟩=some (.int .i64 a0_1):=(y00 BK86001.out 1).trans rfl;have hcz10_2:w3.cell? ⟨gb86001,2,none⟩=some (.int .i64 a0_2):=(y00 BK86001.out 2).trans rfl;have hfz10_0:=y02 BK86001.out 0;have hfz10_1:=y02 BK86001.out 1;have hfz10_2:=y02 BK86001.out 2
    go_wp2_with (fail)
    repeat (go_quiet (first | (go_at_call 23;(with_reducible refine (spec_l1In.calls a0_0 2000 2200 true _ A4.out).mono ?_);rintro e w' ⟨rfl,⟨nd,rfl⟩⟩;(try exact ⟨rfl,_,World.drewN_drewN _ _ _⟩)) | (go_at_call 23;(with_reducible refine (spec_l1In.calls a0_1 1 12 true _ A6.out).mono ?_);rintro e w' ⟨rfl,⟨nd,rfl⟩⟩;(try exact ⟨rfl,_,World.drewN_drewN _ _ _⟩)) | (go_at_call 84;(with_reducible refine (spec_l2Long.calls a0_0 a0_1 t86004 _ A8.out).mono ?_);rintro e w' ⟨rfl,⟨nd,rfl⟩⟩;(try exact ⟨rfl,_,World.drewN_drewN _ _ _⟩)) | (go_at_call 23;(with_reducible refine (spec_l1In.calls a0_2 1 t86004 t86005 _ A9.out).mono ?_);rintro e w' ⟨rfl,⟨nd,rfl⟩⟩;(try exact ⟨rfl,_,World.drewN_drewN _ _ _⟩)));try go_wp2_with (fail))
    go_meet
    case rel=>exact ⟨_,(!t86005),(by rfl),H',⟨by omega⟩,⟨by (with_reducible repeat (refine blk_drewN ?_ _));exact BK86001.out⟩,⟨by repeat ((with_reducible first | exact HB.out | apply pw_below_drewN))⟩⟩
   ·replace c7:=Bool.eq_false_iff.mpr c7;subst c7;have H1:(spec_DayOf.j0 k true a0_0 a0_1 a0_2)=some r:=by rw [if_neg (show ¬ (false=true) by decide)] at H;exact H
    clear H;have H:=H1;clear H1;have H':=Aside0.mk H;clear H;have hcz11_0:w3.cell? ⟨gb86001,0,none⟩=some (.int .i64 a0_0):=(y00 BK86001.out 0).trans rfl;have hcz11_1:w3.cell? ⟨gb86001,1,none⟩=some (.int .i64 a0_1):=(y00 BK86001.out 1).trans rfl;have hcz11_2:w3.cell? ⟨gb86001,2,none⟩=some (.int .i64 a0_2):=(y00 BK86001.out 2).trans rfl;have hfz11_0:=y02 BK86001.out 0;have hfz11_1:=y02 BK86001.out 1;have hfz11_2:=y02 BK86001.out 2
    go_wp2_with (fail)
    repeat (go_quiet (first | (go_at_call 23;(with_reducible refine (spec_l1In.calls a0_0 2000 2200 true _ A4.out).mono ?_);rintro e w' ⟨rfl,⟨nd,rfl⟩⟩;(try exact ⟨rfl,_,World.drewN_drewN _ _ _⟩)) | (go_at_call 23;(with_reducible refine (spec_l1In.calls a0_1 1 12 false _ A6.out).mono ?_);rintro e w' ⟨rfl,⟨nd,rfl⟩⟩;(try exact ⟨rfl,_,World.drewN_drewN _ _ _⟩)));try go_wp2_with (fail))
    go_meet
    case rel=>exact ⟨_,(true),(by rfl),H',⟨by omega⟩,⟨by (with_reducible repeat (refine blk_drewN ?_ _));exact BK86001.out⟩,⟨by repeat ((with_reducible first | exact HB.out | apply pw_below_drewN))⟩⟩
  ·replace c5:=Bool.eq_false_iff.mpr c5;subst c5;have H1:(spec_DayOf.j0 k true a0_0 a0_1 a0_2)=some r:=by rw [if_neg (show ¬ (false=true) by decide)] at H;exact H
   clear H;have H:=H1;clear H1;have H':=Aside0.mk H;clear H;have hcz12_0:w3.cell? ⟨gb86001,0,none⟩=some (.int .i64 a0_0):=(y00 BK86001.out 0).trans rfl;have hcz12_1:w3.cell? ⟨gb86001,1,none⟩=some (.int .i64 a0_1):=(y00 BK86001.out 1).trans rfl;have hcz12_2:w3.cell? ⟨gb86001,2,none⟩=some (.int .i64 a0_2):=(y00 BK86001.out 2).trans rfl;have hfz12_0:=y02 BK86001.out 0;have hfz12_1:=y02 BK86001.out 1;have hfz12_2:=y02 BK86001.out 2
   go_wp2_with (fail)
   repeat (go_quiet ((go_at_call 23;(with_reducible refine (spec_l1In.calls a0_0 2000 2200 false _ A4.out).mono ?_);rintro e w' ⟨rfl,⟨nd,rfl⟩⟩;(try exact ⟨rfl,_,World.drewN_drewN _ _ _⟩)));try go_wp2_with (fail))
   go_meet
   case rel=>exact ⟨_,(true),(by rfl),H',⟨by omega⟩,⟨by (with_reducible repeat (refine blk_drewN ?_ _));exact BK86001.out⟩,⟨by repeat ((with_reducible first | exact HB.out | apply pw_below_drewN))⟩⟩
 case rest =>
  clear HC2;(try clear p2);(try clear c5);(try clear c7);(try clear c8);(try clear hcz10_0);(try clear hcz10_1);(try clear hcz10_2);(try clear hcz11_0);(try clear hcz11_1);(try clear hcz11_2);(try clear hcz12_0);(try clear hcz12_1);(try clear hcz12_2);(try clear hfz10_0);(try clear hfz10_1);(try clear hfz10_2);(try clear hfz11_0);(try clear hfz11_1);(try clear hfz11_2);(try clear hfz12_0);(try clear hfz12_1);(try clear hfz12_2);obtain ⟨kq,x26_1,rfl,HA,HJ1,BK86001,HB⟩:=hcut;cases kq with
  | zero=>exact absurd HA.out (by simp [spec_DayOf.j0])
  | succ kj1 =>
   have H:=HA.out;clear HA;simp only [spec_DayOf.j0] at H;by_cases c13:x26_1=true
   ·subst c13;have H1:(some (-1))=some r:=by rw [if_pos rfl] at H;exact H
    clear H;have H:=H1;clear H1;obtain rfl:=Option.some.inj H
    go_wp2
    repeat (go_quiet (fail);try go_wp2)
    go_ret
    exact ⟨by first | rfl | (simp [errW_none,errW_some] <;> rfl) | (simp [*,errW_none,errW_some] <;> rfl),by exact HB.out⟩
   ·replace c13:=Bool.eq_false_iff.mpr c13;subst c13;have H1:(spec_DayOf.l0 kj1 (wrap64 (a0_2 - 1)) 2000 a0_0 a0_1 a0_2)=some r:=by rw [if_neg (show ¬ (false=true) by decide)] at H;exact H
    clear H;have H:=H1;clear H1;have H':=Aside0.mk H;clear H;have hcz14_0:wc.cell? ⟨gb86001,0,none⟩=some (.int .i64 a0_0):=(y00 BK86001.out 0).trans rfl;have hcz14_1:wc.cell? ⟨gb86001,1,none⟩=some (.int .i64 a0_1):=(y00 BK86001.out 1).trans rfl;have hcz14_2:wc.cell? ⟨gb86001,2,none⟩=some (.int .i64 a0_2):=(y00 BK86001.out 2).trans rfl;have hfz14_0:=y02 BK86001.out 0;have hfz14_1:=y02 BK86001.out 1;have hfz14_2:=y02 BK86001.out 2
    go_wp2
    repeat (go_quiet (fail);try go_wp2)
    go_loopg [3,4] kj1 (fun kq v3 v4 w'=>∃ (x3_2:Int) (x4_2:Int),v3 = .int .i64 x3_2∧v4 = .int .i64 x4_2∧Aside0 (spec_DayOf.l0 kq x3_2 x4_2 a0_0 a0_1 a0_2=some r)∧Aside0 (kq≤kj1)∧Aside0 (w'.heap[gb86001]?=some (.cells #[.int .i64 a0_0,.int .i64 a0_1,.int .i64 a0_2] 122 (0,0)))∧Aside0 (Below w.heap.size w w'))
    case atStart=>exact ⟨(wrap64 (a0_2 - 1)),(2000),(by rfl),(by rfl),H',⟨Nat.le_refl _⟩,⟨BK86001.out⟩,⟨HB.out⟩⟩
    case round =>
     clear H';(try clear c1);(try clear p2);(try clear c5);(try clear p6);(try clear c7);(try clear c8);(try clear c13);(try clear hcz10_0);(try clear hcz10_1);(try clear hcz10_2);(try clear hcz11_0);(try clear hcz11_1);(try clear hcz11_2);(try clear hcz12_0);(try clear hcz12_1);(try clear hcz12_2);(try clear hcz14_0);(try clear hcz14_1);(try clear hcz14_2);(try clear hfz10_0);(try clear hfz10_1);(try clear hfz10_2);(try clear hfz11_0);(try clear hfz11_1);(try clear hfz11_2);(try clear hfz12_0);(try clear hfz12_1);(try clear hfz12_2);(try clear hfz14_0);(try clear hfz14_1);(try clear hfz14_2);(try clear p2);obtain ⟨x3_2,x4_2,rfl,rfl,HA,HK2,BK86001,HB⟩:=hrel;cases gk with
     | zero=>exact absurd HA.out (by simp [spec_DayOf.l0])
     | succ k2 =>
      have H:=HA.out;clear HA;simp only [spec_DayOf.l0] at H;by_cases c15:x4_2 < a0_0
      ·rw [if_pos c15] at H;have c15b0:decide (x4_2 < a0_0)=true:=decide_eq_true c15;clear c15;replace H:=Option.bind_eq_some_iff.mp H;obtain ⟨t86006,A160,H⟩:=H;replace H:(if t86006=true then (spec_DayOf.l0 k2 (wrap64 ((wrap64 (x3_2+365))+1)) (wrap64 (x4_2+1)) a0_0 a0_1 a0_2) else (spec_DayOf.l0 k2 (wrap64 (x3_2+365)) (wrap64 (x4_2+1)) a0_0 a0_1 a0_2))=some r:=H;have A16:=Aside0.mk A160;clear A160;by_cases c17:t86006=true
       ·subst c17;have H1:(spec_DayOf.l0 k2 (wrap64 ((wrap64 (x3_2+365))+1)) (wrap64 (x4_2+1)) a0_0 a0_1 a0_2)=some r:=by rw [if_pos rfl] at H;exact H
        clear H;have H:=H1;clear H1;have H':=Aside0.mk H;clear H;have hcz18_0:wr.cell? ⟨gb86001,0,none⟩=some (.int .i64 a0_0):=(y00 BK86001.out 0).trans rfl;have hcz18_1:wr.cell? ⟨gb86001,1,none⟩=some (.int .i64 a0_1):=(y00 BK86001.out 1).trans rfl;have hcz18_2:wr.cell? ⟨gb86001,2,none⟩=some (.int .i64 a0_2):=(y00 BK86001.out 2).trans rfl;have hfz18_0:=y02 BK86001.out 0;have hfz18_1:=y02 BK86001.out 1;have hfz18_2:=y02 BK86001.out 2
        go_wp2_with ((go_at_call 87;(with_reducible refine (spec_l2Leap.calls x4_2 true _ A16.out).mono ?_);rintro e w' ⟨rfl,⟨nd,rfl⟩⟩;(try fail)))
        repeat (go_quiet (fail);try go_wp2_with (fail))
        go_roundg k2
        case measure=>have:=HJ1.out;have:=HK2.out;omega
        case rel=>exact ⟨(wrap64 ((wrap64 (x3_2+365))+1)),(wrap64 (x4_2+1)),(by rfl),(by rfl),H',⟨by have:=HJ1.out;have:=HK2.out;omega⟩,⟨by (with_reducible repeat (refine blk_drewN ?_ _));exact BK86001.out⟩,⟨by repeat ((with_reducible first | exact HB.out | apply pw_below_drewN))⟩⟩
       ·replace c17:=Bool.eq_false_iff.mpr c17;subst c17;have H1:(spec_DayOf.l0 k2 (wrap64 (x3_2+365)) (wrap64 (x4_2+1)) a0_0 a0_1 a0_2)=some r:=by rw [if_neg (show ¬ (false=true) by decide)] at H;exact H
        clear H;have H:=H1;clear H1;have H':=Aside0.mk H;clear H;have hcz19_0:wr.cell? ⟨gb86001,0,none⟩=some (.int .i64 a0_0):=(y00 BK86001.out 0).trans rfl;have hcz19_1:wr.cell? ⟨gb86001,1,none⟩=some (.int .i64 a0_1):=(y00 BK86001.out 1).trans rfl;have hcz19_2:wr.cell? ⟨gb86001,2,none⟩=some (.int .i64 a0_2):=(y00 BK86001.out 2).trans rfl;have hfz19_0:=y02 BK86001.out 0;have hfz19_1:=y02 BK86001.out 1;have hfz19_2:=y02 BK86001.out 2
        go_wp2_with ((go_at_call 87;(with_reducible refine (spec_l2Leap.calls x4_2 false _ A16.out).mono ?_);rintro e w' ⟨rfl,⟨nd,rfl⟩⟩;(try fail)))
        repeat (go_quiet (fail);try go_wp2_with (fail))
        go_roundg k2
        case measure=>have:=HJ1.out;have:=HK2.out;omega
        case rel=>exact ⟨(wrap64 (x3_2+365)),(wrap64 (x4_2+1)),(by rfl),(by rfl),H',⟨by have:=HJ1.out;have:=HK2.out;omega⟩,⟨by (with_reducible repeat (refine blk_drewN ?_ _));exact BK86001.out⟩,⟨by repeat ((with_reducible first | exact HB.out | apply pw_below_drewN))⟩⟩
      ·rw [if_neg c15] at H;have c15b0:decide (x4_2 < a0_0)=false:=decide_eq_false c15;clear c15;have H':=Aside0.mk H;clear H;have hcz20_0:wr.cell? ⟨gb86001,0,none⟩=some (.int .i64 a0_0):=(y00 BK86001.out 0).trans rfl;have hcz20_1:wr.cell? ⟨gb86001,1,none⟩=some (.int .i64 a0_1):=(y00 BK86001.out 1).trans rfl;have hcz20_2:wr.cell? ⟨gb86001,2,none⟩=some (.int .i64 a0_2):=(y00 BK86001.out 2).trans rfl;have hfz20_0:=y02 BK86001.out 0;have hfz20_1:=y02 BK86001.out 1;have hfz20_2:=y02 BK86001.out 2
       go_wp2
       repeat (go_quiet (fail);try go_wp2)
       go_loopg [3,5] k2 (fun kq v3 v5 w'=>∃ (x3_3:Int) (x5_3:Int),v3 = .int .i64 x3_3∧v5 = .int .i64 x5_3∧Aside0 (spec_DayOf.l1 kq x3_3 x5_3 a0_0 a0_1 a0_2=some r)∧Aside0 (kq≤k2)∧Aside0 (w'.heap[gb86001]?=some (.cells #[.int .i64 a0_0,.int .i64 a0_1,.int .i64 a0_2] 122 (0,0)))∧Aside0 (Below w.heap.size w w'))
       case atStart=>exact ⟨(x3_2),(1),(by rfl),(by rfl),H',⟨Nat.le_refl _⟩,⟨BK86001.out⟩,⟨HB.out⟩⟩
       case round =>
        clear H';(try clear c1);(try clear p2);(try clear c5);(try clear p6);(try clear c7);(try clear c8);(try clear c13);(try clear c15);(try clear c15b0);(try clear c17);(try clear hcz10_0);(try clear hcz10_1);(try clear hcz10_2);(try clear hcz11_0);(try clear hcz11_1);(try clear hcz11_2);(try clear hcz12_0);(try clear hcz12_1);(try clear hcz12_2);(try clear hcz14_0);(try clear hcz14_1);(try clear hcz14_2);(try clear hcz18_0);(try clear hcz18_1);(try clear hcz18_2);(try clear hcz19_0);(try clear hcz19_1);(try clear hcz19_2);(try clear hcz20_0);(try clear hcz20_1);(try clear hcz20_2);(try clear hfz10_0);(try clear hfz10_1);(try clear hfz10_2);(try clear hfz11_0);(try clear hfz11_1);(try clear hfz11_2);(try clear hfz12_0);(try clear hfz12_1);(try clear hfz12_2);(try clear hfz14_0);(try clear hfz14_1);(try clear hfz14_2);(try clear hfz18_0);(try clear hfz18_1);(try clear hfz18_2);(try clear hfz19_0);(try clear hfz19_1);(try clear hfz19_2);(try clear hfz20_0);(try clear hfz20_1);(try clear hfz20_2);(try clear p2);(try clear p6);obtain ⟨x3_3,x5_3,rfl,rfl,HA,HK3,BK86001,HB⟩:=hrel;cases gk with
        | zero=>exact absurd HA.out (by simp [spec_DayOf.l1])
        | succ k3 =>
         have H:=HA.out;clear HA;simp only [spec_DayOf.l1] at H;by_cases c21:x5_3 < a0_1
         ·rw [if_pos c21] at H;have c21b0:decide (x5_3 < a0_1)=true:=decide_eq_true c21;clear c21;replace H:=Option.bind_eq_some_iff.mp H;obtain ⟨t86007,A220,H⟩:=H;replace H:(spec_DayOf.l1 k3 (wrap64 (x3_3+t86007)) (wrap64 (x5_3+1)) a0_0 a0_1 a0_2)=some r:=H;have A22:=Aside0.mk A220;clear A220;have H':=Aside0.mk H;clear H;have hcz23_0:wr.cell? ⟨gb86001,0,none⟩=some (.int .i64 a0_0):=(y00 BK86001.out 0).trans rfl;have hcz23_1:wr.cell? ⟨gb86001,1,none⟩=some (.int .i64 a0_1):=(y00 BK86001.out 1).trans rfl;have hcz23_2:wr.cell? ⟨gb86001,2,none⟩=some (.int .i64 a0_2):=(y00 BK86001.out 2).trans rfl;have hfz23_0:=y02 BK86001.out 0;have hfz23_1:=y02 BK86001.out 1;have hfz23_2:=y02 BK86001.out 2
          go_wp2_with ((go_at_call 84;(with_reducible refine (spec_l2Long.calls a0_0 x5_3 t86007 _ A22.out).mono ?_);rintro e w' ⟨rfl,⟨nd,rfl⟩⟩;(try fail)))
          repeat (go_quiet (fail);try go_wp2_with (fail))
          go_roundg k3
          case measure=>have:=HJ1.out;have:=HK2.out;have:=HK3.out;omega
          case rel=>exact ⟨(wrap64 (x3_3+t86007)),(wrap64 (x5_3+1)),(by rfl),(by rfl),H',⟨by have:=HJ1.out;have:=HK2.out;have:=HK3.out;omega⟩,⟨by (with_reducible repeat (refine blk_drewN ?_ _));exact BK86001.out⟩,⟨by repeat ((with_reducible first | exact HB.out | apply pw_below_drewN))⟩⟩
         ·rw [if_neg c21] at H;have c21b0:decide (x5_3 < a0_1)=false:=decide_eq_false c21;clear c21;replace H:=Option.bind_eq_some_iff.mp H;obtain ⟨t86008,A240,H⟩:=H;replace H:(if t86008=true then (some x3_3) else (some (-1)))=some r:=H;have A24:=Aside0.mk A240;clear A240;by_cases c25:t86008=true
          ·subst c25;have H1:(some x3_3)=some r:=by rw [if_pos rfl] at H;exact H
           clear H;have H:=H1;clear H1;obtain rfl:=Option.some.inj H;have hcz26_0:wr.cell? ⟨gb86001,0,none⟩=some (.int .i64 a0_0):=(y00 BK86001.out 0).trans rfl;have hcz26_1:wr.cell? ⟨gb86001,1,none⟩=some (.int .i64 a0_1):=(y00 BK86001.out 1).trans rfl;have hcz26_2:wr.cell? ⟨gb86001,2,none⟩=some (.int .i64 a0_2):=(y00 BK86001.out 2).trans rfl;have hfz26_0:=y02 BK86001.out 0;have hfz26_1:=y02 BK86001.out 1;have hfz26_2:=y02 BK86001.out 2
           go_wp2_with ((go_at_call 31;(with_reducible refine (spec_l2Day.calls x3_3 true _ A24.out).mono ?_);rintro e w' ⟨rfl,⟨nd,rfl⟩⟩;(try fail)))
           repeat (go_quiet (fail);try go_wp2_with (fail))
           go_ret
           exact ⟨by first | rfl | (simp [errW_none,errW_some] <;> rfl) | (simp [*,errW_none,errW_some] <;> rfl),by repeat ((with_reducible first | exact HB.out | apply pw_below_drewN))⟩
          ·replace c25:=Bool.eq_false_iff.mpr c25;subst c25;have H1:(some (-1))=some r:=by rw [if_neg (show ¬ (false=true) by decide)] at H;exact H
           clear H;have H:=H1;clear H1;obtain rfl:=Option.some.inj H;have hcz27_0:wr.cell? ⟨gb86001,0,none⟩=some (.int .i64 a0_0):=(y00 BK86001.out 0).trans rfl;have hcz27_1:wr.cell? ⟨gb86001,1,none⟩=some (.int .i64 a0_1):=(y00 BK86001.out 1).trans rfl;have hcz27_2:wr.cell? ⟨gb86001,2,none⟩=some (.int .i64 a0_2):=(y00 BK86001.out 2).trans rfl;have hfz27_0:=y02 BK86001.out 0;have hfz27_1:=y02 BK86001.out 1;have hfz27_2:=y02 BK86001.out 2
           go_wp2_with ((go_at_call 31;(with_reducible refine (spec_l2Day.calls x3_3 false _ A24.out).mono ?_);rintro e w' ⟨rfl,⟨nd,rfl⟩⟩;(try fail)))
           repeat (go_quiet (fail);try go_wp2_with (fail))
           go_ret
           exact ⟨by first | rfl | (simp [errW_none,errW_some] <;> rfl) | (simp [*,errW_none,errW_some] <;> rfl),by repeat ((with_reducible first | exact HB.out | apply pw_below_drewN))⟩
noncomputable def spec_MonthEnd.f (k:Nat) (a0:Int):Option (Int):=(spec_l2Day.f a0).bind fun t74001=>(if t74001=true then ((spec_DateOf.f k a0).bind fun bt74002=>((spec_l2Long.f bt74002.1 bt74002.2.1).bind fun t74006=>((spec_DayOf.f k bt74002.1 bt74002.2.1 t74006).bind fun t74007=>(some t74007)))) else (some (-1)))
def spec_MonthEnd.T4:Bool × List (List Nat × List Nat):=(true,[([],[]),([0],[0]),([],[]),([2],[2]),([],[]),([4],[4]),([],[]),([6],[6]),([5,7],[5,7]),([1,3,8],[1,3,8]),([9,8],[9]),([10,10,0,1,2,3,4,5,6,7,8,9,10],[10])])
def spec_MonthEnd.B4:List Nat:=[0,1,0,4,0,16,0,64,240,511,1023,2047]
theorem spec_MonthEnd.tab4:rtab .any (opsOf Tryz.f73 4)=spec_MonthEnd.T4:=by kernel_rfl
theorem spec_MonthEnd.bits4:waitsOk spec_MonthEnd.T4.2 spec_MonthEnd.B4=true:=by kernel_rfl
set_option maxHeartbeats 8000000 in
set_option maxRecDepth 100000 in
theorem spec_MonthEnd.calls (k:Nat) (a0:Int) (r:Int) (w:World) (h:spec_MonthEnd.f k a0=some r) :
 Calls Tryz.prog 73 #[.int .i64 a0] w fun e w'=>e = .returned (.int .i64 r)∧Below w.heap.size w w':=by
 have hu122:=Tryz.underlying122;have HB:=Aside0.mk (Below.refl w.heap.size w);have H:((spec_l2Day.f a0).bind fun t74001=>(if t74001=true then ((spec_DateOf.f k a0).bind fun bt74002=>((spec_l2Long.f bt74002.1 bt74002.2.1).bind fun t74006=>((spec_DayOf.f k bt74002.1 bt74002.2.1 t74006).bind fun t74007=>(some t74007)))) else (some (-1))))=some r:=h;clear h;replace H:=Option.bind_eq_some_iff.mp H;obtain ⟨t74001,A20,H⟩:=H;replace H:(if t74001=true then ((spec_DateOf.f k a0).bind fun bt74002=>((spec_l2Long.f bt74002.1 bt74002.2.1).bind fun t74006=>((spec_DayOf.f k bt74002.1 bt74002.2.1 t74006).bind fun t74007=>(some t74007)))) else (some (-1)))=some r:=H;have A2:=Aside0.mk A20;clear A20;by_cases c3:t74001=true
 ·subst c3;have H1:((spec_DateOf.f k a0).bind fun bt74002=>((spec_l2Long.f bt74002.1 bt74002.2.1).bind fun t74006=>((spec_DayOf.f k bt74002.1 bt74002.2.1 t74006).bind fun t74007=>(some t74007))))=some r:=by rw [if_pos rfl] at H;exact H
  clear H;have H:=H1;clear H1;replace H:=Option.bind_eq_some_iff.mp H;obtain ⟨⟨t74002,t74003,t74004⟩,A40,H⟩:=H;replace H:((spec_l2Long.f t74002 t74003).bind fun t74006=>((spec_DayOf.f k t74002 t74003 t74006).bind fun t74007=>(some t74007)))=some r:=H;have A4:=Aside0.mk A40;clear A40;replace H:=Option.bind_eq_some_iff.mp H;obtain ⟨t74006,A50,H⟩:=H;replace H:((spec_DayOf.f k t74002 t74003 t74006).bind fun t74007=>(some t74007))=some r:=H;have A5:=Aside0.mk A50;clear A50;replace H:=Option.bind_eq_some_iff.mp H;obtain ⟨t74007,A60,H⟩:=H;replace H:(some t74007)=some r:=H;have A6:=Aside0.mk A60;clear A60;obtain rfl:=Option.some.inj H
  go_enter Tryz.func73,Tryz.ntmps73
  try go_wp2_with (first | ((with_reducible refine gate_callee (f:=31) rfl ?_);refine goesL_ (some 5) rfl rfl Tryz.func31 (by kernel_rfl) rfl #[.int .i64 a0] rfl (by (try simp only [List.map_toArray,List.map_cons,List.map_nil]);rfl) ?_;(with_reducible refine (spec_l2Day.calls a0 true _ A2.out).mono ?_);rintro e w' ⟨rfl,⟨nd,rfl⟩⟩;refine ⟨_,rfl,?_⟩) | ((with_reducible refine gate_callee (f:=72) rfl ?_);refine goesL_ (some 8) rfl rfl Tryz.func72 (by kernel_rfl) rfl #[.int .i64 a0] rfl (by (try simp only [List.map_toArray,List.map_cons,List.map_nil]);rfl) ?_;(with_reducible refine (spec_DateOf.calls k a0 t74002 t74003 t74004 _ A4.out).mono ?_);rintro e w7 ⟨rfl,hb⟩;refine ⟨_,rfl,?_⟩;have n0_:=Aside0.mk (below_step (by repeat ((with_reducible first | exact HB.out | apply pw_below_drewN))) hb);clear HB;have HB:=n0_;clear n0_;(try clear hb);(try clear hb2);(try clear hk);(try clear hi)) | ((with_reducible refine gate_dst (N:=3) rfl ?_);refine box_event ?hg (N:=3) ?hd (cs:=#[.int .i64 0,.int .i64 0,.int .i64 0]) (t:=122) ?hr ?_;(case hd=>rfl);(case hg=>rfl);(case hr=>(go_simp;done));intro gb74005 hg w8 hbox hb;have n0_:=Aside0.mk (below_step HB.out hb);have n1_:=Aside0.mk (hbox);have n2_:=Aside0.mk ((by rw [hg];exact (below_size HB.out):w.heap.size≤gb74005));have n3_:=Aside0.mk ((by rw [hg];exact (below_size HB.out):w.heap.size≤gb74005));clear HB;have HB:=n0_;have BK74005:=n1_;have GW74005:=n2_;have GE74005:=n3_;clear n0_ n1_ n2_ n3_;clear hb hbox hg;have hcz9_0:w8.cell? ⟨gb74005,0,none⟩=some (.int .i64 0):=(y00 BK74005.out 0).trans rfl;have hcz9_1:w8.cell? ⟨gb74005,1,none⟩=some (.int .i64 0):=(y00 BK74005.out 1).trans rfl;have hcz9_2:w8.cell? ⟨gb74005,2,none⟩=some (.int .i64 0):=(y00 BK74005.out 2).trans rfl;have hfz9_0:=y02 BK74005.out 0;have hfz9_1:=y02 BK74005.out 1;have hfz9_2:=y02 BK74005.out 2))
  have n0_:Aside0 ((((w8.setCell ⟨gb74005,0,none⟩ (.int .i64 t74002)).setCell ⟨gb74005,1,none⟩ (.int .i64 t74003)).setCell ⟨gb74005,2,none⟩ (.int .i64 t74004)).heap[gb74005]?=some (.cells #[.int .i64 t74002,.int .i64 t74003,.int .i64 t74004] 122 (0,0))):=⟨by refine blk_put (cs:=#[.int .i64 t74002,.int .i64 t74003,.int .i64 0]) ?_ 2 _ rfl;refine blk_put (cs:=#[.int .i64 t74002,.int .i64 0,.int .i64 0]) ?_ 1 _ rfl;refine blk_put (cs:=#[.int .i64 0,.int .i64 0,.int .i64 0]) ?_ 0 _ rfl;exact BK74005.out⟩;have n1_:Aside0 (Below w.heap.size w (((w8.setCell ⟨gb74005,0,none⟩ (.int .i64 t74002)).setCell ⟨gb74005,1,none⟩ (.int .i64 t74003)).setCell ⟨gb74005,2,none⟩ (.int .i64 t74004))):=⟨by repeat ((with_reducible first | exact HB.out | refine below_set ?_ GE74005.out))⟩;(try clear BK74005);(try clear HB);generalize (((w8.setCell ⟨gb74005,0,none⟩ (.int .i64 t74002)).setCell ⟨gb74005,1,none⟩ (.int .i64 t74003)).setCell ⟨gb74005,2,none⟩ (.int .i64 t74004))=w10 at n0_ n1_ ⊢;have BK74005:=n0_;have HB:=n1_;clear n0_ n1_;have n0_:=Aside0.mk (blk_drew BK74005.out);have n1_:=Aside0.mk (below_drew1 HB.out);clear BK74005 HB;have BK74005:=n0_;have HB:=n1_;clear n0_ n1_;refine start_ (n:=12) (S:=fun w'=>w'.cell? ⟨gb74005,0,none⟩=some (.int .i64 t74002)∧w'.cell? ⟨gb74005,1,none⟩=some (.int .i64 t74003)∧w'.cell? ⟨gb74005,2,none⟩=some (.int .i64 t74004)) (ds:=[]) #[false,false,false,false,false,false,false,false,false,false,false,false] (by kernel_rfl) rfl rfl ⟨(y00 BK74005.out 0).trans rfl,(y00 BK74005.out 1).trans rfl,(y00 BK74005.out 2).trans rfl⟩ (fun hHeld=>?_);refine with_tabW spec_MonthEnd.tab4 spec_MonthEnd.bits4 (fun HT_ HW_=>?_);generalize w10.drew=w11 at BK74005 HB hHeld ⊢;refine pa_ 0 9 HT_ ?_;refine pa_ 2 11 HT_ ?_;refine pa_ 4 13 HT_ ?_;refine pa_ 6 15 HT_ ?_;refine take_ (i:=1) (N:=some 10) (v:=?_) (a':=?_) #[true,true,true,false,true,false,true,false,false,false,false,false] rfl rfl (take_ofW HT_.out HW_.out (by kernel_rfl)) (fun _ _ _ h=>h) (Or.inl ⟨by rfl,?_⟩) hHeld ?_ ?_;rotate_left
  ·rintro w' ⟨s0,s1,s2⟩
   go_simp;with_reducible rfl
  rotate_left
  ·simp only [Act.put,List.setIfInBounds_toArray,List.set_cons_zero,List.set_cons_succ,i64_w,i32_w];rfl
  refine take_ (i:=3) (N:=some 12) (v:=?_) (a':=?_) #[true,true,true,true,true,false,true,false,false,false,false,false] rfl rfl (take_ofW HT_.out HW_.out (by kernel_rfl)) (fun _ _ _ h=>h) (Or.inl ⟨by rfl,?_⟩) hHeld ?_ ?_;rotate_left
  ·rintro w' ⟨s0,s1,s2⟩
   go_simp;with_reducible rfl
  rotate_left
  ·simp only [Act.put,List.setIfInBounds_toArray,List.set_cons_zero,List.set_cons_succ,i64_w,i32_w];rfl
  refine take_ (i:=5) (N:=some 14) (v:=?_) (a':=?_) #[true,true,true,true,true,true,true,false,false,false,false,false] rfl rfl (take_ofW HT_.out HW_.out (by kernel_rfl)) (fun _ _ _ h=>h) (Or.inl ⟨by rfl,?_⟩) hHeld ?_ ?_;rotate_left
  ·rintro w' ⟨s0,s1,s2⟩
   go_simp;with_reducible rfl
  rotate_left
  ·simp only [Act.put,List.setIfInBounds_toArray,List.set_cons_zero,List.set_cons_succ,i64_w,i32_w];rfl
  refine take_ (i:=7) (N:=some 16) (v:=?_) (a':=?_) #[true,true,true,true,true,true,true,true,false,false,false,false] rfl rfl (take_ofW HT_.out HW_.out (by kernel_rfl)) (fun _ _ _ h=>h) (Or.inl ⟨by rfl,?_⟩) hHeld ?_ ?_;rotate_left
  ·rintro w' ⟨s0,s1,s2⟩
   go_simp;with_reducible rfl
  rotate_left
  ·simp only [Act.put,List.setIfInBounds_toArray,List.set_cons_zero,List.set_cons_succ,i64_w,i32_w];rfl
  refine one_ (i:=8) (N:=some 17) #[true,true,true,true,true,true,true,true,true,false,false,false] rfl rfl (one_of HT_.out (by kernel_rfl)) (by decide) (fun K hK=>?_);refine goes_ Tryz.func84 (by kernel_rfl) rfl #[.int .i64 t74002,.int .i64 t74003] (by rfl) rfl rfl (by (try simp only [List.map_toArray,List.map_cons,List.map_nil]);rfl) ?_
  with_reducible refine (spec_l2Long.calls t74002 t74003 t74006 _ A5.out).mono ?_
  rintro e w' ⟨rfl,⟨nd,rfl⟩⟩;refine ⟨_,rfl,?_⟩;refine hK.out _ _ ⟨(y00 BK74005.out 0).trans rfl,(y00 BK74005.out 1).trans rfl,(y00 BK74005.out 2).trans rfl⟩ (fun hHeld=>?_);clear hK K;refine norm_ (a':=?_) ?_ ?_;rotate_left
  ·show Act.put _ (some 17) _=_;simp only [Act.put,List.setIfInBounds_toArray,List.set_cons_zero,List.set_cons_succ,i64_w,i32_w];rfl
  refine pa_ 9 18 HT_ ?_;refine one_ (i:=10) (N:=some 19) #[true,true,true,true,true,true,true,true,true,true,true,false] rfl rfl (one_of HT_.out (by kernel_rfl)) (by decide) (fun K hK=>?_);refine goes_ Tryz.func85 (by kernel_rfl) rfl #[.agg #[.int .i64 t74002,.int .i64 t74003,.int .i64 t74006]] (by rfl) rfl rfl (by (try simp only [List.map_toArray,List.map_cons,List.map_nil]);rfl) ?_
  with_reducible refine (spec_DayOf.calls k t74002 t74003 t74006 t74007 _ A6.out).mono ?_
  rintro e w12 ⟨rfl,hb⟩;refine ⟨_,rfl,?_⟩;have n0_:=Aside0.mk (y03 (g:=gb74005) (o:=.cells #[.int .i64 t74002,.int .i64 t74003,.int .i64 t74004] 122 (0,0)) (by (with_reducible repeat (refine blk_drewN ?_ _));exact BK74005.out) hb);have n1_:=Aside0.mk (below_step (by repeat ((with_reducible first | exact HB.out | apply pw_below_drewN))) hb);clear BK74005 HB;have BK74005:=n0_;have HB:=n1_;clear n0_ n1_;(try clear hb);(try clear hb2);(try clear hk);(try clear hi);refine hK.out _ _ ⟨(y00 BK74005.out 0).trans rfl,(y00 BK74005.out 1).trans rfl,(y00 BK74005.out 2).trans rfl⟩ (fun hHeld=>?_);clear hK K;refine norm_ (a':=?_) ?_ ?_;rotate_left
  ·show Act.put _ (some 19) _=_;simp only [Act.put,List.setIfInBounds_toArray,List.set_cons_zero,List.set_cons_succ,i64_w,i32_w];rfl
  refine pa_ 11 2 HT_ ?_;refine done_ (done_of HT_.out (by kernel_rfl)) ?_
  try go_wp2
  go_ret
  exact ⟨by first | rfl | (simp [errW_none,errW_some] <;> rfl) | (simp [*,errW_none,errW_some] <;> rfl),by exact HB.out⟩
 ·replace c3:=Bool.eq_false_iff.mpr c3;subst c3;have H1:(some (-1))=some r:=by rw [if_neg (show ¬ (false=true) by decide)] at H;exact H
  clear H;have H:=H1;clear H1;obtain rfl:=Option.some.inj H
  go_enter Tryz.func73,Tryz.ntmps73
  go_wp2_with (((with_reducible refine gate_callee (f:=31) rfl ?_);refine goesL_ (some 5) rfl rfl Tryz.func31 (by kernel_rfl) rfl #[.int .i64 a0] rfl (by (try simp only [List.map_toArray,List.map_cons,List.map_nil]);rfl) ?_;(with_reducible refine (spec_l2Day.calls a0 false _ A2.out).mono ?_);rintro e w' ⟨rfl,⟨nd,rfl⟩⟩;refine ⟨_,rfl,?_⟩))
  go_ret
  exact ⟨by first | rfl | (simp [errW_none,errW_some] <;> rfl) | (simp [*,errW_none,errW_some] <;> rfl),by repeat ((with_reducible first | exact HB.out | apply pw_below_drewN))⟩
theorem basV_from {a d c fr fr' tt:Int} {es:List Ent} (h:∀ e∈es,fr≤e.f0∧fr'≤e.f0):basV a d c fr tt es=basV a d c fr' tt es:=by
 induction es with
 | nil=>rfl
 | cons e l ih =>
  have h1:=h e List.mem_cons_self;simp only [basV];rw [ih (fun x hx=>h x (List.mem_cons_of_mem _ hx))];have:inB e.f0 fr tt=inB e.f0 fr' tt:=by unfold inB;rw [decide_eq_true h1.1,decide_eq_true h1.2]
  rw [this]
theorem basV_zero {a d c fr tt:Int} {es:List Ent} (h:∀ e∈es,basL a d c e.f3=0):basV a d c fr tt es=0:=by
 induction es with
 | nil=>rfl
 | cons e l ih=>rw [basV,h e List.mem_cons_self,ih (fun y hy=>h y (List.mem_cons_of_mem _ hy))];split <;> rfl
theorem laid_sentinels5 {P:Program} {n0 n1 n2 n3 n4 nm:String} {x0 x1 x2 x3 x4:List UInt8} {W:World} {g0 g1 g2 g3 g4:Nat} {ti tp te ts:TypeId} {ms:Array (String × TypeId)} {f:Field}
 (h:laidMet P [(n0,.iface nm (.ptr (.agg [.lit (.string x0)]))),(n1,.iface nm (.ptr (.agg [.lit (.string x1)]))),(n2,.iface nm (.ptr (.agg [.lit (.string x2)]))),(n3,.iface nm (.ptr (.agg [.lit (.string x3)]))),(n4,.iface nm (.ptr (.agg [.lit (.string x4)])))] W)
 (hg0:P.globalNamed n0=some g0) (ht0:(P.globals[g0]?).map (·.type)=some ti) (hg1:P.globalNamed n1=some g1) (ht1:(P.globals[g1]?).map (·.type)=some ti) (hg2:P.globalNamed n2=some g2) (ht2:(P.globals[g2]?).map (·.type)=some ti) (hg3:P.globalNamed n3=some g3) (ht3:(P.globals[g3]?).map (·.type)=some ti) (hg4:P.globalNamed n4=some g4) (ht4:(P.globals[g4]?).map (·.type)=some ti)
 (hi:P.underlying ti=some (.interface ms)) (hrow:∀ u,P.typeName? 3 u=some nm→u=tp) (hp:P.underlying tp=some (.pointer te)) (he:P.underlying te=some (.struct #[f])) (hft:f.type=ts) (hfo:f.offset=0) (hs:P.underlying ts=some .string) (hc:P.cellsOf te=1) (hcs:P.cellsOf ts=1) :
 ∃ (a0 a1 a2 a3 a4:Addr) (c0 c1 c2 c3 c4:Array Value) (t0 t1 t2 t3 t4:TypeId),W.var? P n0=some #[.iface tp (.pointer (some a0))]∧W.var? P n1=some #[.iface tp (.pointer (some a1))]∧W.var? P n2=some #[.iface tp (.pointer (some a2))]∧W.var? P n3=some #[.iface tp (.pointer (some a3))]∧W.var? P n4=some #[.iface tp (.pointer (some a4))]∧W.heap[a0.block]?=some (.cells c0 t0 (0,0))∧W.heap[a1.block]?=some (.cells c1 t1 (0,0))∧W.heap[a2.block]?=some (.cells c2 t2 (0,0))∧W.heap[a3.block]?=some (.cells c3 t3 (0,0))∧W.heap[a4.block]?=some (.cells c4 t4 (0,0))∧a0≠a1∧a0≠a2∧a0≠a3∧a0≠a4∧a1≠a2∧a1≠a3∧a1≠a4∧a2≠a3∧a2≠a4∧a3≠a4:=by
 obtain ⟨ps,⟨g0',t0',cs0,f0,p0,q0,hg0',ht0',hv0,hd0,⟨g1',t1',cs1,f1,p1,q1,hg1',ht1',hv1,hd1,⟨g2',t2',cs2,f2,p2,q2,hg2',ht2',hv2,hd2,⟨g3',t3',cs3,f3,p3,q3,hg3',ht3',hv3,hd3,⟨g4',t4',cs4,f4,p4,q4,hg4',ht4',hv4,hd4,e_,e4⟩,e3⟩,e2⟩,e1⟩,e0⟩,hnd,hrows⟩:=h;obtain rfl:=Option.some.inj (hg0.symm.trans hg0');obtain rfl:=Option.some.inj (ht0.symm.trans ht0');obtain rfl:=Option.some.inj (hg1.symm.trans hg1');obtain rfl:=Option.some.inj (ht1.symm.trans ht1');obtain rfl:=Option.some.inj (hg2.symm.trans hg2');obtain rfl:=Option.some.inj (ht2.symm.trans ht2');obtain rfl:=Option.some.inj (hg3.symm.trans hg3');obtain rfl:=Option.some.inj (ht3.symm.trans ht3');obtain rfl:=Option.some.inj (hg4.symm.trans hg4');obtain rfl:=Option.some.inj (ht4.symm.trans ht4');subst e_;subst e4;subst e3;subst e2;subst e1;subst e0;obtain ⟨l0⟩:=cs0;obtain ⟨l1⟩:=cs1;obtain ⟨l2⟩:=cs2;obtain ⟨l3⟩:=cs3;obtain ⟨l4⟩:=cs4
 have ok0:∀ u v,l0=[.iface u v]→Value.okWide P W .any 0 u v:=fun u v e=>by
  subst e;exact (hrows g0 0 (by simp [MemPlace.row])).2 u v (by simpa using World.var?_cell hg0' hv0 0)
 have ok1:∀ u v,l1=[.iface u v]→Value.okWide P W .any 0 u v:=fun u v e=>by
  subst e;exact (hrows g1 0 (by simp [MemPlace.row])).2 u v (by simpa using World.var?_cell hg1' hv1 0)
 have ok2:∀ u v,l2=[.iface u v]→Value.okWide P W .any 0 u v:=fun u v e=>by
  subst e;exact (hrows g2 0 (by simp [MemPlace.row])).2 u v (by simpa using World.var?_cell hg2' hv2 0)
 have ok3:∀ u v,l3=[.iface u v]→Value.okWide P W .any 0 u v:=fun u v e=>by
  subst e;exact (hrows g3 0 (by simp [MemPlace.row])).2 u v (by simpa using World.var?_cell hg3' hv3 0)
 have ok4:∀ u v,l4=[.iface u v]→Value.okWide P W .any 0 u v:=fun u v e=>by
  subst e;exact (hrows g4 0 (by simp [MemPlace.row])).2 u v (by simpa using World.var?_cell hg4' hv4 0)
 obtain ⟨a0,s0,rfl,hc0,hs0,hz0,rfl⟩:=errorString_of_trod hi hrow hp he hft hfo hs hc hcs hd0 ok0;obtain ⟨a1,s1,rfl,hc1,hs1,hz1,rfl⟩:=errorString_of_trod hi hrow hp he hft hfo hs hc hcs hd1 ok1;obtain ⟨a2,s2,rfl,hc2,hs2,hz2,rfl⟩:=errorString_of_trod hi hrow hp he hft hfo hs hc hcs hd2 ok2;obtain ⟨a3,s3,rfl,hc3,hs3,hz3,rfl⟩:=errorString_of_trod hi hrow hp he hft hfo hs hc hcs hd3 ok3;obtain ⟨a4,s4,rfl,hc4,hs4,hz4,rfl⟩:=errorString_of_trod hi hrow hp he hft hfo hs hc hcs hd4 ok4;obtain ⟨c0,t0,hb0⟩:=(hrows a0.block a0.off (by simp [MemPlace.row])).1;obtain ⟨c1,t1,hb1⟩:=(hrows a1.block a1.off (by simp [MemPlace.row])).1;obtain ⟨c2,t2,hb2⟩:=(hrows a2.block a2.off (by simp [MemPlace.row])).1;obtain ⟨c3,t3,hb3⟩:=(hrows a3.block a3.off (by simp [MemPlace.row])).1;obtain ⟨c4,t4,hb4⟩:=(hrows a4.block a4.off (by simp [MemPlace.row])).1;refine ⟨a0,a1,a2,a3,a4,c0,c1,c2,c3,c4,t0,t1,t2,t3,t4,hv0,hv1,hv2,hv3,hv4,hb0,hb1,hb2,hb3,hb4,?_,?_,?_,?_,?_,?_,?_,?_,?_,?_⟩
 all_goals (rintro rfl;simp [MemPlace.row] at hnd)
theorem lz_g0:Tryz.prog.globalNamed "loop.example/g00040/impl.errBad" = some 0:=by kernel_rfl
theorem lz_t0:(Tryz.prog.globals[0]?).map (·.type)=some 70:=by kernel_rfl
theorem lz_g1:Tryz.prog.globalNamed "loop.example/g00040/impl.errEntry" = some 1:=by kernel_rfl
theorem lz_t1:(Tryz.prog.globals[1]?).map (·.type)=some 70:=by kernel_rfl
theorem lz_g2:Tryz.prog.globalNamed "loop.example/g00040/impl.errNone" = some 2:=by kernel_rfl
theorem lz_t2:(Tryz.prog.globals[2]?).map (·.type)=some 70:=by kernel_rfl
theorem lz_g3:Tryz.prog.globalNamed "loop.example/g00040/impl.errShut" = some 3:=by kernel_rfl
theorem lz_t3:(Tryz.prog.globals[3]?).map (·.type)=some 70:=by kernel_rfl
theorem lz_g4:Tryz.prog.globalNamed "loop.example/g00040/impl.errFull" = some 4:=by kernel_rfl
theorem lz_t4:(Tryz.prog.globals[4]?).map (·.type)=some 70:=by kernel_rfl
theorem lz_star: "*"++ "errors.errorString" = "*errors.errorString":=by decide
theorem lz_row (u:TypeId) (h:Tryz.prog.typeName? 3 u=some "*errors.errorString"):u=155 :=
 typeName_ptr_named (nm:= "errors.errorString") (by rw [lz_star];kernel_rfl) (by kernel_rfl) (by decide) u (by rw [lz_star];exact h)
theorem lz_cellsE:Tryz.prog.cellsOf 181=1:=by kernel_rfl
theorem lz_cellsS:Tryz.prog.cellsOf 9=1:=by kernel_rfl
def pick5 (a0 a1 a2 a3 a4:Addr):Nat→Addr
 | 0=>a0
 | 1=>a1
 | 2=>a2
 | 3=>a3
 | _=>a4
theorem sents_of_laid {W:World} {x0 x1 x2 x3 x4:List UInt8} (h:laidMet Tryz.prog [("loop.example/g00040/impl.errBad",.iface "*errors.errorString" (.ptr (.agg [.lit (.string x0)]))),("loop.example/g00040/impl.errEntry",.iface "*errors.errorString" (.ptr (.agg [.lit (.string x1)]))),("loop.example/g00040/impl.errNone",.iface "*errors.errorString" (.ptr (.agg [.lit (.string x2)]))),("loop.example/g00040/impl.errShut",.iface "*errors.errorString" (.ptr (.agg [.lit (.string x3)]))),("loop.example/g00040/impl.errFull",.iface "*errors.errorString" (.ptr (.agg [.lit (.string x4)])))] W) :
 ∃ A:Nat→Addr,Sent W A∧W.var? Tryz.prog "loop.example/g00040/impl.errBad" = some #[.iface 155 (.pointer (some (A 0)))]∧W.var? Tryz.prog "loop.example/g00040/impl.errEntry" = some #[.iface 155 (.pointer (some (A 1)))]∧W.var? Tryz.prog "loop.example/g00040/impl.errNone" = some #[.iface 155 (.pointer (some (A 2)))]∧W.var? Tryz.prog "loop.example/g00040/impl.errShut" = some #[.iface 155 (.pointer (some (A 3)))]∧W.var? Tryz.prog "loop.example/g00040/impl.errFull" = some #[.iface 155 (.pointer (some (A 4)))]:=by
 obtain ⟨a0,a1,a2,a3,a4,c0,c1,c2,c3,c4,t0,t1,t2,t3,t4,hv0,hv1,hv2,hv3,hv4,hb0,hb1,hb2,hb3,hb4,n01,n02,n03,n04,n12,n13,n14,n23,n24,n34⟩:=laid_sentinels5 h lz_g0 lz_t0 lz_g1 lz_t1 lz_g2 lz_t2 lz_g3 lz_t3 lz_g4 lz_t4 Tryz.underlying70 lz_row Tryz.underlying155 Tryz.underlying181 rfl rfl Tryz.underlying9 lz_cellsE lz_cellsS;refine ⟨pick5 a0 a1 a2 a3 a4,⟨fun i hi=>?_,fun i hi=>?_,fun i j hi hj hne=>?_⟩,hv0,hv1,hv2,hv3,hv4⟩
 ·match i,hi with
  | 0,_=>simpa [pick5] using World.var?_cell lz_g0 hv0 0
  | 1,_=>simpa [pick5] using World.var?_cell lz_g1 hv1 0
  | 2,_=>simpa [pick5] using World.var?_cell lz_g2 hv2 0
  | 3,_=>simpa [pick5] using World.var?_cell lz_g3 hv3 0
  | 4,_=>simpa [pick5] using World.var?_cell lz_g4 hv4 0
 ·match i,hi with
  | 0,_=>exact ⟨c0,t0,hb0⟩
  | 1,_=>exact ⟨c1,t1,hb1⟩
  | 2,_=>exact ⟨c2,t2,hb2⟩
  | 3,_=>exact ⟨c3,t3,hb3⟩
  | 4,_=>exact ⟨c4,t4,hb4⟩
 ·match i,j,hi,hj,hne with
  | 0,0,_,_,hne=>exact absurd rfl hne
  | 0,1,_,_,hne=>exact n01
  | 0,2,_,_,hne=>exact n02
  | 0,3,_,_,hne=>exact n03
  | 0,4,_,_,hne=>exact n04
  | 1,0,_,_,hne=>exact Ne.symm n01
  | 1,1,_,_,hne=>exact absurd rfl hne
  | 1,2,_,_,hne=>exact n12
  | 1,3,_,_,hne=>exact n13
  | 1,4,_,_,hne=>exact n14
  | 2,0,_,_,hne=>exact Ne.symm n02
  | 2,1,_,_,hne=>exact Ne.symm n12
  | 2,2,_,_,hne=>exact absurd rfl hne
  | 2,3,_,_,hne=>exact n23
  | 2,4,_,_,hne=>exact n24
  | 3,0,_,_,hne=>exact Ne.symm n03
  | 3,1,_,_,hne=>exact Ne.symm n13
  | 3,2,_,_,hne=>exact Ne.symm n23
  | 3,3,_,_,hne=>exact absurd rfl hne
  | 3,4,_,_,hne=>exact n34
  | 4,0,_,_,hne=>exact Ne.symm n04
  | 4,1,_,_,hne=>exact Ne.symm n14
  | 4,2,_,_,hne=>exact Ne.symm n24
  | 4,3,_,_,hne=>exact Ne.symm n34
  | 4,4,_,_,hne=>exact absurd rfl hne
theorem vars_read5 {H:Type} (enc:TypeId × Value→H) {W:World} {x0 x1 x2 x3 x4:Value} (h0:W.var? Tryz.prog "loop.example/g00040/impl.errBad" = some #[x0]) (h1:W.var? Tryz.prog "loop.example/g00040/impl.errEntry" = some #[x1]) (h2:W.var? Tryz.prog "loop.example/g00040/impl.errNone" = some #[x2]) (h3:W.var? Tryz.prog "loop.example/g00040/impl.errShut" = some #[x3]) (h4:W.var? Tryz.prog "loop.example/g00040/impl.errFull" = some #[x4]) (i0:IsIface x0) (i1:IsIface x1) (i2:IsIface x2) (i3:IsIface x3) (i4:IsIface x4) (sp:Nat→Bool) :
 DataW.TrodVars enc Tryz.prog W sp ["loop.example/g00040/impl.errBad","loop.example/g00040/impl.errEntry","loop.example/g00040/impl.errNone","loop.example/g00040/impl.errShut","loop.example/g00040/impl.errFull"] [tok enc x0,tok enc x1,tok enc x2,tok enc x3,tok enc x4] [.cell 0 0,.cell 1 0,.cell 2 0,.cell 3 0,.cell 4 0] :=
 ⟨0,70,#[x0],1,[],[.cell 1 0,.cell 2 0,.cell 3 0,.cell 4 0],lz_g0,lz_t0,h0,trod_held Tryz.underlying70 i0 0,⟨1,70,#[x1],1,[],[.cell 2 0,.cell 3 0,.cell 4 0],lz_g1,lz_t1,h1,trod_held Tryz.underlying70 i1 0,⟨2,70,#[x2],1,[],[.cell 3 0,.cell 4 0],lz_g2,lz_t2,h2,trod_held Tryz.underlying70 i2 0,⟨3,70,#[x3],1,[],[.cell 4 0],lz_g3,lz_t3,h3,trod_held Tryz.underlying70 i3 0,⟨4,70,#[x4],1,[],[],lz_g4,lz_t4,h4,trod_held Tryz.underlying70 i4 0,rfl,rfl⟩,rfl⟩,rfl⟩,rfl⟩,rfl⟩
theorem var_below {W W':World} {n:String} {g:Nat} {cs:Array Value} (hg:Tryz.prog.globalNamed n=some g) (h:W.var? Tryz.prog n=some cs) (hb:Below W.heap.size W W'):W'.var? Tryz.prog n=some cs:=by
 unfold World.var? at h ⊢;rw [hg] at h ⊢;simp only [Option.bind_some] at h ⊢
 have hlt:g < W.heap.size:=by
  cases hh:W.heap[g]? with
  | none=>rw [hh] at h;cases h
  | some o=>exact (Array.getElem?_eq_some_iff.1 hh).1
 rw [hb.block g hlt];exact h
end Go.Proofs.YtnknanppoenigaaGreatDoor.Q
namespace Go.Proofs.YtnknanppoenigaaGreatDoor.Q
open Go.RowKit Go.Proofs.YtnknanppoenigaaGreatDoorW.PrintWords Go.Proofs.YtnknanppoenigaaGreatDoorW.PrintLast Go.Proofs.YtnknanppoenigaaGreatDoorW.PrintMore
attribute [local go_sem] max2_int min2_int max_two min_two max_three min_three max_four min_four
set_option linter.unusedVariables false
set_option linter.unusedSimpArgs false
set_option maxHeartbeats 4000000 in
set_option maxRecDepth 100000 in
theorem spec_Leaf.to (A0:Option Addr) (c0:Nat) (l0:List Acc) (a:Int) (w:World) (hr0:Kd.C k48 w A0 l0.length l0) (hs:∀ x∈l0,x.f0.size≤maxLen) :
 Calls Tryz.prog 24 #[.slice A0 l0.length c0,.int .i64 a] w fun e w'=>e = .returned (.bool (chartOk l0 && leafB l0 a))∧Below w.heap.size w w':=by
 have hl:=hr0.2.1;have H0:=Aside0.mk hr0;clear hr0
 go_enter Tryz.func24,Tryz.ntmps24
 go_wp2_with fail
 refine (spec_ChartOk.to A0 c0 l0 _ H0.out hs).mono ?_;rintro e w1 ⟨rfl,hb⟩;have HB:=Aside0.mk hb;clear hb;cases hc:chartOk l0 with
 | false =>
  go_wp2_with fail
  go_ret
  exact ⟨ret_bool (by rw [hc];rfl),HB.out⟩
 | true =>
  have HCH:=Aside0.mk hc;have HC:=Aside0.mk (chartOk_iff.1 hc);clear hc;have h1:=HC.out.1
  go_wp2_with fail
  refine (spec_l1In.to _ _ _ _).mono ?_;rintro e w' ⟨rfl,rfl⟩;cases hi:inB a 0 ((l0.length:Int) - 1) with
  | false =>
   have HI:=Aside0.mk (inB_false.1 hi);clear hi
   go_wp2_with fail
   go_ret
   exact ⟨ret_bool (by rw [HCH.out,leafB_not (fun q=>HI.out ⟨q.1,by have:=q.2.1;omega⟩)];rfl),HB.out⟩
  | true =>
   have HI:=Aside0.mk (inB_true.1 hi);clear hi;have ha0:0≤a:=HI.out.1;have ha1:a < (l0.length:Int):=by have:=HI.out.2;omega
   go_wp2_with fail
   go_loop [5] (fun v=>∃ i:Int,0≤i∧i≤(l0.length:Int)∧v = .int .i64 i∧Aside0 (∀ j:Int,0≤j→j < i→par l0 j≠a)) (fun v=>(l0.length - (intOf v).toNat))
   case atStart=>exact ⟨0,by omega,by omega,rfl,⟨fun j h0 h1=>by omega⟩⟩
   case round =>
    obtain ⟨i,hi0,hi1,rfl,HT⟩:=hrel;by_cases hlt:i < (l0.length:Int)
    ·obtain ⟨ad,e0,x0,x1,x2⟩:=at_T48 (Kd.C_below H0.out HB.out) i hi0 hlt;cases e0;by_cases he:(rd_T48 l0 i).f1=a
     ·have heb:((rd_T48 l0 i).f1 == a)=true:=beq_iff_eq.2 he;have HE:=Aside0.mk (show par l0 i=a from he);clear he
      go_wp2_with fail
      go_ret
      exact ⟨ret_bool (by rw [HCH.out,leafB_not (fun q=>(leaf_iff HC.out.2.2 ha0 ha1).2 q i hi0 hlt HE.out)];rfl),HB.out⟩
     ·have heb:((rd_T48 l0 i).f1 == a)=false:=beq_eq_false_iff_ne.2 he;have HE:=Aside0.mk (show par l0 i≠a from he);clear he
      go_wp2_with fail
      go_round
      case rel=>exact ⟨i+1,by omega,by omega,rfl,⟨fun j j0 j1=>by
       by_cases e:j=i
       ·subst e;exact HE.out
       ·exact HT.out j j0 (by omega)⟩⟩
      case measure=>simp [intOf];omega
    ·go_wp2_with fail
     go_ret
     exact ⟨ret_bool (by rw [HCH.out,leafB_of ((leaf_iff HC.out.2.2 ha0 ha1).1 (fun j j0 j1=>HT.out j j0 (by omega)))];rfl),HB.out⟩
open Classical in
noncomputable def spec_Leaf.f (l0:List Acc) (a1:Int):Option Bool:=if (∀ x∈l0,x.f0.size≤maxLen) then some (chartOk l0 && leafB l0 a1) else none
theorem spec_Leaf.calls (A0:Option Addr) (c0:Nat) (l0:List Acc) (a:Int) (r:Bool) (w:World) (hr0:Kd.C k48 w A0 l0.length l0) (hc0:l0.length≤c0) (hf:spec_Leaf.f l0 a=some r) :
 Calls Tryz.prog 24 #[.slice A0 l0.length c0,.int .i64 a] w fun e w'=>e = .returned (.bool r)∧Below w.heap.size w w':=by
 unfold spec_Leaf.f at hf
 split at hf
 ·rename_i q
  cases hf;exact spec_Leaf.to A0 c0 l0 a w hr0 q
 ·cases hf
end Go.Proofs.YtnknanppoenigaaGreatDoor.Q
