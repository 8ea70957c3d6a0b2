/- Parts of the proof: what functions of the program and of the reference answer.
   No condition. -/
import Derived.Test.YtcblmhpebijmaaaDoorZDues1
import Derived.Test.YtcblmhpebijmaaaDoorZDues4
import Derived.Test.YtcblmhpebijmaaaDoorZDues6
namespace Go.Proofs.YtcblmhpebijmaaaDoor.Q
open Go.RowKit Go.Proofs.YtcblmhpebijmaaaDoorW.PrintWords Go.Proofs.YtcblmhpebijmaaaDoorW.PrintLast Go.Proofs.YtcblmhpebijmaaaDoorW.PrintMore
set_option linter.unusedVariables false
set_option linter.unusedSimpArgs false
set_option maxHeartbeats 1000000 in
set_option maxRecDepth 100000 in
theorem laws_szCal.calls (off:Int) (A0:Option Addr) (c0:Nat) (l0:List Int) (a1:Int) (w:World) (hr0:Kd.C (Kd.int .i64) w A0 l0.length l0) (h0:0≤a1) (h1:a1≤1048576) (hw:∀ y∈l0,(Lit.int .i64 y).wf=true) :
 Calls Tryd.prog 5 #[.agg #[.int .i64 off,.slice A0 l0.length c0],.int .i64 a1] w (SzPost w a1 (l0.length≤1048576)):=by
 have HR:=Aside0.mk (Kd.C_alloc hr0 (.cells #[.int .i64 off,.slice A0 l0.length c0] 25 (0,0)));have HB:=Aside0.mk (y02 (Below.refl w.heap.size w) (.cells #[.int .i64 off,.slice A0 l0.length c0] 25 (0,0)))
 go_enter Tryd.func5,Tryd.ntmps5
 go_wp2_with fail
 refine (laws_szIntS.calls A0 c0 l0 a1 _ HR.out h0 h1 hw).mono ?_;rintro e w2 ⟨r,rfl,hr1,hr2,hr3,hb⟩;have HP:=Aside0.mk hr3;have HB2:=Aside0.mk (below_step HB.out hb);clear hr3 hb;by_cases hr:r < 0
 ·go_wp2_with fail
  go_ret
  exact ⟨-1,rfl,by omega,by omega,fun h=>absurd h (by omega),HB2.out⟩
 ·go_wp2_with fail
  go_ret
  exact ⟨r,rfl,by omega,by omega,HP.out,HB2.out⟩
set_option maxHeartbeats 1000000 in
set_option maxRecDepth 100000 in
theorem laws_eqCal.at (off:Int) (A0:Option Addr) (c0:Nat) (l:List Int) (A1:Option Addr) (c1:Nat) (w:World) (hl:l.length≤1048576) (hr0:Kd.C (Kd.int .i64) w A0 l.length l) (hc0:l.length≤c0) (hr1:Kd.C (Kd.int .i64) w A1 l.length l) (hc1:l.length≤c1) :
 Calls Tryd.prog 12 #[.agg #[.int .i64 off,.slice A0 l.length c0],.agg #[.int .i64 off,.slice A1 l.length c1]] w fun e w'=>e = .returned (.bool true)∧Below w.heap.size w w':=by
 have HR0:=Aside0.mk (fun o1 o2:Obj=>Kd.C_alloc (Kd.C_alloc hr0 o1) o2);have HR1:=Aside0.mk (fun o1 o2:Obj=>Kd.C_alloc (Kd.C_alloc hr1 o1) o2);have HE:=Aside0.mk (laws_eqIntS_same l hl 1048577 (by omega))
 go_enter Tryd.func12,Tryd.ntmps12
 go_wp2_with fail
 refine (laws_eqIntS.calls 1048577 A0 c0 l A1 c1 l true _ (HR0.out _ _) hc0 (HR1.out _ _) hc1 HE.out).mono ?_;rintro e w2 ⟨rfl,⟨n,rfl⟩⟩
 go_wp2_with fail
 go_ret
 exact ⟨rfl,y00 (below_two _ _ _) _⟩
end Go.Proofs.YtcblmhpebijmaaaDoor.Q
namespace Go.Proofs.YtcblmhpebijmaaaDoor.Q
open Go.RowKit Go.Proofs.YtcblmhpebijmaaaDoorW.PrintWords Go.Proofs.YtcblmhpebijmaaaDoorW.PrintLast Go.Proofs.YtcblmhpebijmaaaDoorW.PrintMore
attribute [local go_sem] max2_int min2_int max_two min_two max_three min_three max_four min_four
set_option linter.unusedVariables false
set_option linter.unusedSimpArgs false
mutual
noncomputable def impl_CalOk.j0:Nat→Bool→Int→List Int→Option (Bool)
 | 0,_,_,_=>none
 | k+1,x14,x52002000,x52002001=>if x14=true then (some false) else (impl_CalOk.l0 k x52002001 (x52002001.length:Int) 0 x52002000 x52002001)
noncomputable def impl_CalOk.l0:Nat→List Int→Int→Int→Int→List Int→Option (Bool)
 | 0,_,_,_,_,_=>none
 | k+1,x16,x17,x18,x52002000,x52002001=>if x18 < x17 then (if 0≤x18 then (if x18 < (x16.length:Int) then ((impl_isDay.f (rd x16 x18)).bind fun t52004=>(if t52004=true then (if x18 > 0 then (if 0≤(wrap64 (x18 - 1)) then (if (wrap64 (x18 - 1)) < (x52002001.length:Int) then (if (rd x52002001 (wrap64 (x18 - 1))) ≥ (rd x16 x18) then (some false) else (impl_CalOk.l0 k x16 x17 (wrap64 (x18+1)) x52002000 x52002001)) else (none)) else (none)) else (impl_CalOk.l0 k x16 x17 (wrap64 (x18+1)) x52002000 x52002001)) else (some false))) else (none)) else (none)) else (some true)
end
noncomputable def impl_CalOk.f (k:Nat) (a0_0:Int) (l0_1:List Int):Option (Bool):=(impl_between.f a0_0 0 126).bind fun t52002=>(if t52002=true then (impl_CalOk.j0 k (decide ((l0_1.length:Int) > 400)) a0_0 l0_1) else (impl_CalOk.j0 k true a0_0 l0_1))
set_option maxHeartbeats 8000000 in
set_option maxRecDepth 100000 in
theorem impl_CalOk.calls (k:Nat) (a0_0:Int) (A0_1:Option Addr) (c0_1:Nat) (l0_1:List Int) (r:Bool) (w:World) (hr0_1:Kd.C (Kd.int .i64) w A0_1 l0_1.length l0_1) (hc0_1:l0_1.length≤c0_1) (h:impl_CalOk.f k a0_0 l0_1=some r) :
 Calls Tryd.prog 51 #[.agg #[.int .i64 a0_0,.slice A0_1 l0_1.length c0_1]] w fun e w'=>e = .returned (.bool r)∧Below w.heap.size w w':=by
 have hu32:=Tryd.underlying32;have HR0_1:=Aside0.mk hr0_1;have HC0_1:=Aside0.mk hc0_1;clear hr0_1 hc0_1;have HB:=Aside0.mk (Below.refl w.heap.size w);have H:((impl_between.f a0_0 0 126).bind fun t52002=>(if t52002=true then (impl_CalOk.j0 k (decide ((l0_1.length:Int) > 400)) a0_0 l0_1) else (impl_CalOk.j0 k true a0_0 l0_1)))=some r:=h;clear h;have HC2:=Aside0.mk H;clear H
 go_enter Tryd.func51,Tryd.ntmps51
 go_upto_region 1 with (first | ((with_reducible refine gate_dst (N:=1) rfl ?_);(try (refine gate_guard (by rfl) ?_;dsimp only));refine box_event ?hg (N:=1) ?hd (cs:=#[.int .i64 a0_0,.slice A0_1 l0_1.length c0_1]) (t:=32) ?hr ?_;(case hd=>rfl);(case hg=>rfl);(case hr=>first | (go_simp;done) | (go_simp;rfl));intro gb52001 hg w3 hbox hb;have n0_:=Aside0.mk (below_step (by repeat (first | (with_reducible first | exact HB.out | apply y02 | apply y00 | apply y01) | exact HB.out)) hb);have n1_:=Aside0.mk (hbox);have n2_:=Aside0.mk ((by rw [hg];exact (below_size (by repeat (first | (with_reducible first | exact HB.out | apply y02 | apply y00 | apply y01) | exact HB.out))):w.heap.size≤gb52001));have n3_:=Aside0.mk ((by rw [hg];exact (below_size (by repeat (first | (with_reducible first | exact HB.out | apply y02 | apply y00 | apply y01) | exact HB.out))):w.heap.size≤gb52001));clear HB;have HB:=n0_;have BK52001:=n1_;have GW52001:=n2_;have GE52001:=n3_;clear n0_ n1_ n2_ n3_;clear hb hbox hg))
 (try simp only [Act.put,List.setIfInBounds_toArray,List.set_cons_zero,List.set_cons_succ])
 go_cut [14] (fun v14 wc=>∃ (kq:Nat) (x14_1:Bool),v14 = .bool x14_1∧Aside0 (impl_CalOk.j0 kq x14_1 a0_0 l0_1=some r)∧Aside0 (kq≤k)∧Aside0 (wc.heap[gb52001]?=some (.cells #[.int .i64 a0_0,(.slice A0_1 l0_1.length c0_1)] 32 (0,0)))∧Aside0 (Below w.heap.size w wc))
 case first =>
  have H:=HC2.out;clear HC2;replace H:=Option.bind_eq_some_iff.mp H;obtain ⟨t52002,A40,H⟩:=H;replace H:(if t52002=true then (impl_CalOk.j0 k (decide ((l0_1.length:Int) > 400)) a0_0 l0_1) else (impl_CalOk.j0 k true a0_0 l0_1))=some r:=H;have A4:=Aside0.mk A40;clear A40;by_cases c5:t52002=true
  ·subst c5;have H1:(impl_CalOk.j0 k (decide ((l0_1.length:Int) > 400)) a0_0 l0_1)=some r:=by rw [if_pos rfl] at H;exact H
   clear H;have H:=H1;clear H1;have H':=Aside0.mk H;clear H;have hcz6_0:w3.cell? ⟨gb52001,0,none⟩=some (.int .i64 a0_0):=(blk_cell BK52001.out 0).trans rfl;have hcz6_1:w3.cell? ⟨gb52001,1,none⟩=some (.slice A0_1 l0_1.length c0_1):=(blk_cell BK52001.out 1).trans rfl;have hfz6_0:=y04 BK52001.out 0;have hfz6_1:=y04 BK52001.out 1
   go_wp2_with (first | ((with_reducible refine gate_callee (f:=26) rfl ?_);refine goesL_ (some 7) rfl rfl Tryd.func26 (by kernel_rfl) rfl #[.int .i64 a0_0,.int .i64 0,.int .i64 126] rfl (by (try simp only [List.map_toArray,List.map_cons,List.map_nil]);first | done | rfl | (simp only [List.length_drop,List.length_take];rfl)) ?_;(with_reducible refine (impl_between.calls a0_0 0 126 true _ A4.out).mono ?_);rintro e w' ⟨rfl,⟨nd,rfl⟩⟩;refine ⟨_,rfl,?_⟩))
   go_meet
   case rel=>exact ⟨_,(decide ((l0_1.length:Int) > 400)),(by first | rfl | (simp;done) | (simp [*];done)),H',⟨by first | omega | exact Nat.le_refl _⟩,⟨by (with_reducible repeat (first | refine y06 ?_ _ | refine blk_drew ?_ | refine y05 ?_ _));exact BK52001.out⟩,⟨by repeat (first | (with_reducible first | exact HB.out | apply y02 | apply y00 | apply y01 | refine y03 ?_ GE52001.out) | exact HB.out)⟩⟩
  ·replace c5:=Bool.eq_false_iff.mpr c5;subst c5;have H1:(impl_CalOk.j0 k true a0_0 l0_1)=some r:=by rw [if_neg (show ¬ (false=true) by decide)] at H;exact H
   clear H;have H:=H1;clear H1;have H':=Aside0.mk H;clear H;have hcz7_0:w3.cell? ⟨gb52001,0,none⟩=some (.int .i64 a0_0):=(blk_cell BK52001.out 0).trans rfl;have hcz7_1:w3.cell? ⟨gb52001,1,none⟩=some (.slice A0_1 l0_1.length c0_1):=(blk_cell BK52001.out 1).trans rfl;have hfz7_0:=y04 BK52001.out 0;have hfz7_1:=y04 BK52001.out 1
   go_wp2_with (first | ((with_reducible refine gate_callee (f:=26) rfl ?_);refine goesL_ (some 7) rfl rfl Tryd.func26 (by kernel_rfl) rfl #[.int .i64 a0_0,.int .i64 0,.int .i64 126] rfl (by (try simp only [List.map_toArray,List.map_cons,List.map_nil]);first | done | rfl | (simp only [List.length_drop,List.length_take];rfl)) ?_;(with_reducible refine (impl_between.calls a0_0 0 126 false _ A4.out).mono ?_);rintro e w' ⟨rfl,⟨nd,rfl⟩⟩;refine ⟨_,rfl,?_⟩))
   go_meet
   case rel=>exact ⟨_,(true),(by first | rfl | (simp;done) | (simp [*];done)),H',⟨by first | omega | exact Nat.le_refl _⟩,⟨by (with_reducible repeat (first | refine y06 ?_ _ | refine blk_drew ?_ | refine y05 ?_ _));exact BK52001.out⟩,⟨by repeat (first | (with_reducible first | exact HB.out | apply y02 | apply y00 | apply y01 | refine y03 ?_ GE52001.out) | exact HB.out)⟩⟩
 case rest =>
  clear HC2;(try clear c2);(try clear p2);(try clear c5);(try clear hcz6_0);(try clear hcz6_1);(try clear hcz7_0);(try clear hcz7_1);(try clear hfz6_0);(try clear hfz6_1);(try clear hfz7_0);(try clear hfz7_1);obtain ⟨kq,x14_1,rfl,HA,HJ1,BK52001,HB⟩:=hcut;cases kq with
  | zero=>exact absurd HA.out (by simp [impl_CalOk.j0])
  | succ kj1 =>
   have H:=HA.out;clear HA;simp only [impl_CalOk.j0] at H;by_cases c8:x14_1=true
   ·subst c8;have H1:(some false)=some r:=by rw [if_pos rfl] at H;exact H
    clear H;have H:=H1;clear H1;obtain rfl:=Option.some.inj H
    go_wp2
    go_ret
    exact ⟨by first | rfl | (simp [errW_none,errW_some] <;> rfl) | (simp [*,errW_none,errW_some] <;> rfl),by repeat (first | (with_reducible first | exact HB.out | apply y02 | apply y00 | apply y01 | refine y03 ?_ GE52001.out) | exact HB.out)⟩
   ·replace c8:=Bool.eq_false_iff.mpr c8;subst c8;have H1:(impl_CalOk.l0 kj1 l0_1 (l0_1.length:Int) 0 a0_0 l0_1)=some r:=by rw [if_neg (show ¬ (false=true) by decide)] at H;exact H
    clear H;have H:=H1;clear H1;have H':=Aside0.mk H;clear H;have hcz9_0:wc.cell? ⟨gb52001,0,none⟩=some (.int .i64 a0_0):=(blk_cell BK52001.out 0).trans rfl;have hcz9_1:wc.cell? ⟨gb52001,1,none⟩=some (.slice A0_1 l0_1.length c0_1):=(blk_cell BK52001.out 1).trans rfl;have hfz9_0:=y04 BK52001.out 0;have hfz9_1:=y04 BK52001.out 1
    go_wp2
    go_loopg [18] kj1 (fun kq v18 w'=>∃ (x18_2:Int),v18 = .int .i64 x18_2∧Aside0 (impl_CalOk.l0 kq l0_1 (l0_1.length:Int) x18_2 a0_0 l0_1=some r)∧Aside0 (kq≤kj1)∧Aside0 (w'.heap[gb52001]?=some (.cells #[.int .i64 a0_0,(.slice A0_1 l0_1.length c0_1)] 32 (0,0)))∧Aside0 (Below w.heap.size w w'))
    case atStart=>exact ⟨(0),(by first | rfl | (simp;done) | (simp [*];done)),H',⟨Nat.le_refl _⟩,⟨by (with_reducible repeat (first | refine y06 ?_ _ | refine blk_drew ?_ | refine y05 ?_ _));exact BK52001.out⟩,⟨by repeat (first | (with_reducible first | exact HB.out | apply y02 | apply y00 | apply y01 | refine y03 ?_ GE52001.out) | exact HB.out)⟩⟩
    case round =>
     clear H';(try clear c2);(try clear p2);(try clear c5);(try clear c8);(try clear hcz6_0);(try clear hcz6_1);(try clear hcz7_0);(try clear hcz7_1);(try clear hcz9_0);(try clear hcz9_1);(try clear hfz6_0);(try clear hfz6_1);(try clear hfz7_0);(try clear hfz7_1);(try clear hfz9_0);(try clear hfz9_1);(try clear p2);obtain ⟨x18_2,rfl,HA,HK2,BK52001,HB⟩:=hrel;cases gk with
     | zero=>exact absurd HA.out (by simp [impl_CalOk.l0])
     | succ k2 =>
      have H:=HA.out;clear HA;simp only [impl_CalOk.l0] at H;by_cases c10:x18_2 < (l0_1.length:Int)
      ·rw [if_pos c10] at H;have c10b0:decide (x18_2 < (l0_1.length:Int))=true:=decide_eq_true c10;clear c10;by_cases c11:0≤x18_2
       ·rw [if_pos c11] at H;have c11b0:decide (0≤x18_2)=true:=decide_eq_true c11;clear c11;by_cases c12:x18_2 < (l0_1.length:Int)
        ·rw [if_pos c12] at H;have c12b0:decide (x18_2 < (l0_1.length:Int))=true:=decide_eq_true c12;clear c12;replace H:=Option.bind_eq_some_iff.mp H;obtain ⟨t52004,A130,H⟩:=H;replace H:(if t52004=true then (if x18_2 > 0 then (if 0≤(wrap64 (x18_2 - 1)) then (if (wrap64 (x18_2 - 1)) < (l0_1.length:Int) then (if (rd l0_1 (wrap64 (x18_2 - 1))) ≥ (rd l0_1 x18_2) then (some false) else (impl_CalOk.l0 k2 l0_1 (l0_1.length:Int) (wrap64 (x18_2+1)) a0_0 l0_1)) else (none)) else (none)) else (impl_CalOk.l0 k2 l0_1 (l0_1.length:Int) (wrap64 (x18_2+1)) a0_0 l0_1)) else (some false))=some r:=H;have A13:=Aside0.mk A130;clear A130;by_cases c14:t52004=true
         ·subst c14;have H1:(if x18_2 > 0 then (if 0≤(wrap64 (x18_2 - 1)) then (if (wrap64 (x18_2 - 1)) < (l0_1.length:Int) then (if (rd l0_1 (wrap64 (x18_2 - 1))) ≥ (rd l0_1 x18_2) then (some false) else (impl_CalOk.l0 k2 l0_1 (l0_1.length:Int) (wrap64 (x18_2+1)) a0_0 l0_1)) else (none)) else (none)) else (impl_CalOk.l0 k2 l0_1 (l0_1.length:Int) (wrap64 (x18_2+1)) a0_0 l0_1))=some r:=by rw [if_pos rfl] at H;exact H
          clear H;have H:=H1;clear H1;by_cases c15:x18_2 > 0
          ·rw [if_pos c15] at H;have c15b0:decide (0 < x18_2)=true:=decide_eq_true c15;clear c15;obtain ⟨ji16,hji16⟩:∃ j_:Int,(wrap64 (x18_2 - 1))=j_:=⟨_,rfl⟩;replace H:(if 0≤(ji16) then (if (ji16) < (l0_1.length:Int) then (if (rd l0_1 (ji16)) ≥ (rd l0_1 x18_2) then (some false) else (impl_CalOk.l0 k2 l0_1 (l0_1.length:Int) (wrap64 (x18_2+1)) a0_0 l0_1)) else (none)) else (none))=some r:=by first | (rw [hji16] at H;exact H) | (simp only [hji16] at H ⊢;exact H)
           (try rw [hji16] at A13);have hji16w:(IntKind.i64.wrap (x18_2 - 1))=ji16:=(i64_w _).trans hji16;by_cases c17:0≤(ji16)
           ·rw [if_pos c17] at H;have c17b0:decide (0≤(ji16))=true:=decide_eq_true c17;clear c17;by_cases c18:(ji16) < (l0_1.length:Int)
            ·rw [if_pos c18] at H;have c18b0:decide ((ji16) < (l0_1.length:Int))=true:=decide_eq_true c18;clear c18;by_cases c19:(rd l0_1 (ji16)) ≥ (rd l0_1 x18_2)
             ·rw [if_pos c19] at H;have c19b0:decide ((rd l0_1 x18_2)≤(rd l0_1 (ji16)))=true:=decide_eq_true c19;clear c19;obtain rfl:=Option.some.inj H;have p52003:0≤(x18_2:Int):=of_decide_eq_true (by first | (with_reducible assumption) | assumption);have q52003:x18_2 < (l0_1.length:Int):=of_decide_eq_true (by first | (with_reducible assumption) | assumption);obtain ⟨ad52003,e52003,hx52003_0⟩:=Kd.at_int HR0_1.out x18_2 p52003 q52003;cases e52003;replace hx52003_0:=(HB.out.cell (World.block_lt_of_cell? w _ hx52003_0)).trans hx52003_0;replace p52003:=eq_true p52003;replace q52003:=eq_true q52003
              go_wp2_with (first | ((with_reducible refine gate_callee (f:=52) rfl ?_);refine goesL_ (some 24) rfl rfl Tryd.func52 (by kernel_rfl) rfl #[.int .i64 (rd l0_1 x18_2)] rfl (by (try simp only [List.map_toArray,List.map_cons,List.map_nil]);first | done | rfl | (simp only [List.length_drop,List.length_take];rfl)) ?_;(with_reducible refine (impl_isDay.calls (rd l0_1 x18_2) true _ A13.out).mono ?_);rintro e w' ⟨rfl,⟨nd,rfl⟩⟩;refine ⟨_,rfl,?_⟩;have hcz20_0:wr.cell? ⟨gb52001,0,none⟩=some (.int .i64 a0_0):=(blk_cell BK52001.out 0).trans rfl;have hcz20_1:wr.cell? ⟨gb52001,1,none⟩=some (.slice (some ad52003) l0_1.length c0_1):=(blk_cell BK52001.out 1).trans rfl;have hfz20_0:=y04 BK52001.out 0;have hfz20_1:=y04 BK52001.out 1;have p52005:0≤((ji16):Int):=of_decide_eq_true (by first | (with_reducible assumption) | assumption);have q52005:(ji16) < (l0_1.length:Int):=of_decide_eq_true (by first | (with_reducible assumption) | assumption);obtain ⟨ad52005,e52005,hx52005_0⟩:=Kd.at_int HR0_1.out (ji16) p52005 q52005;obtain rfl:ad52003=ad52005:=(by injection e52005);replace hx52005_0:=(HB.out.cell (World.block_lt_of_cell? w _ hx52005_0)).trans hx52005_0;replace p52005:=eq_true p52005;replace q52005:=eq_true q52005))
              go_ret
              exact ⟨by first | rfl | (simp [errW_none,errW_some] <;> rfl) | (simp only [← hji16];first | rfl | (simp [errW_none,errW_some] <;> rfl)) | (simp [*,errW_none,errW_some] <;> rfl),by repeat (first | (with_reducible first | exact HB.out | apply y02 | apply y00 | apply y01 | refine y03 ?_ GE52001.out) | exact HB.out)⟩
             ·rw [if_neg c19] at H;have c19b0:decide ((rd l0_1 x18_2)≤(rd l0_1 (ji16)))=false:=decide_eq_false c19;clear c19;have H':=Aside0.mk H;clear H;have p52003:0≤(x18_2:Int):=of_decide_eq_true (by first | (with_reducible assumption) | assumption);have q52003:x18_2 < (l0_1.length:Int):=of_decide_eq_true (by first | (with_reducible assumption) | assumption);obtain ⟨ad52003,e52003,hx52003_0⟩:=Kd.at_int HR0_1.out x18_2 p52003 q52003;cases e52003;replace hx52003_0:=(HB.out.cell (World.block_lt_of_cell? w _ hx52003_0)).trans hx52003_0;replace p52003:=eq_true p52003;replace q52003:=eq_true q52003
              go_wp2_with (first | ((with_reducible refine gate_callee (f:=52) rfl ?_);refine goesL_ (some 24) rfl rfl Tryd.func52 (by kernel_rfl) rfl #[.int .i64 (rd l0_1 x18_2)] rfl (by (try simp only [List.map_toArray,List.map_cons,List.map_nil]);first | done | rfl | (simp only [List.length_drop,List.length_take];rfl)) ?_;(with_reducible refine (impl_isDay.calls (rd l0_1 x18_2) true _ A13.out).mono ?_);rintro e w' ⟨rfl,⟨nd,rfl⟩⟩;refine ⟨_,rfl,?_⟩;have hcz21_0:wr.cell? ⟨gb52001,0,none⟩=some (.int .i64 a0_0):=(blk_cell BK52001.out 0).trans rfl;have hcz21_1:wr.cell? ⟨gb52001,1,none⟩=some (.slice (some ad52003) l0_1.length c0_1):=(blk_cell BK52001.out 1).trans rfl;have hfz21_0:=y04 BK52001.out 0;have hfz21_1:=y04 BK52001.out 1;have p52005:0≤((ji16):Int):=of_decide_eq_true (by first | (with_reducible assumption) | assumption);have q52005:(ji16) < (l0_1.length:Int):=of_decide_eq_true (by first | (with_reducible assumption) | assumption);obtain ⟨ad52005,e52005,hx52005_0⟩:=Kd.at_int HR0_1.out (ji16) p52005 q52005;obtain rfl:ad52003=ad52005:=(by injection e52005);replace hx52005_0:=(HB.out.cell (World.block_lt_of_cell? w _ hx52005_0)).trans hx52005_0;replace p52005:=eq_true p52005;replace q52005:=eq_true q52005))
              go_roundg k2
              case measure=>have:=HJ1.out;have:=HK2.out;omega
              case rel=>exact ⟨(wrap64 (x18_2+1)),(by first | rfl | (simp;done) | (simp [*];done)),H',⟨by have:=HJ1.out;have:=HK2.out;omega⟩,⟨by (with_reducible repeat (first | refine y06 ?_ _ | refine blk_drew ?_ | refine y05 ?_ _));exact BK52001.out⟩,⟨by repeat (first | (with_reducible first | exact HB.out | apply y02 | apply y00 | apply y01 | refine y03 ?_ GE52001.out) | exact HB.out)⟩⟩
            ·rw [if_neg c18] at H;exact absurd H (by simp)
           ·rw [if_neg c17] at H;exact absurd H (by simp)
          ·rw [if_neg c15] at H;have c15b0:decide (0 < x18_2)=false:=decide_eq_false c15;clear c15;have H':=Aside0.mk H;clear H;have p52003:0≤(x18_2:Int):=of_decide_eq_true (by first | (with_reducible assumption) | assumption);have q52003:x18_2 < (l0_1.length:Int):=of_decide_eq_true (by first | (with_reducible assumption) | assumption);obtain ⟨ad52003,e52003,hx52003_0⟩:=Kd.at_int HR0_1.out x18_2 p52003 q52003;cases e52003;replace hx52003_0:=(HB.out.cell (World.block_lt_of_cell? w _ hx52003_0)).trans hx52003_0;replace p52003:=eq_true p52003;replace q52003:=eq_true q52003
           go_wp2_with (first | ((with_reducible refine gate_callee (f:=52) rfl ?_);refine goesL_ (some 24) rfl rfl Tryd.func52 (by kernel_rfl) rfl #[.int .i64 (rd l0_1 x18_2)] rfl (by (try simp only [List.map_toArray,List.map_cons,List.map_nil]);first | done | rfl | (simp only [List.length_drop,List.length_take];rfl)) ?_;(with_reducible refine (impl_isDay.calls (rd l0_1 x18_2) true _ A13.out).mono ?_);rintro e w' ⟨rfl,⟨nd,rfl⟩⟩;refine ⟨_,rfl,?_⟩))
           go_roundg k2
           case measure=>have:=HJ1.out;have:=HK2.out;omega
           case rel=>exact ⟨(wrap64 (x18_2+1)),(by first | rfl | (simp;done) | (simp [*];done)),H',⟨by have:=HJ1.out;have:=HK2.out;omega⟩,⟨by (with_reducible repeat (first | refine y06 ?_ _ | refine blk_drew ?_ | refine y05 ?_ _));exact BK52001.out⟩,⟨by repeat (first | (with_reducible first | exact HB.out | apply y02 | apply y00 | apply y01 | refine y03 ?_ GE52001.out) | exact HB.out)⟩⟩
         ·replace c14:=Bool.eq_false_iff.mpr c14;subst c14;have H1:(some false)=some r:=by rw [if_neg (show ¬ (false=true) by decide)] at H;exact H
          clear H;have H:=H1;clear H1;obtain rfl:=Option.some.inj H;have p52003:0≤(x18_2:Int):=of_decide_eq_true (by first | (with_reducible assumption) | assumption);have q52003:x18_2 < (l0_1.length:Int):=of_decide_eq_true (by first | (with_reducible assumption) | assumption);obtain ⟨ad52003,e52003,hx52003_0⟩:=Kd.at_int HR0_1.out x18_2 p52003 q52003;cases e52003;replace hx52003_0:=(HB.out.cell (World.block_lt_of_cell? w _ hx52003_0)).trans hx52003_0;replace p52003:=eq_true p52003;replace q52003:=eq_true q52003
          go_wp2_with (first | ((with_reducible refine gate_callee (f:=52) rfl ?_);refine goesL_ (some 24) rfl rfl Tryd.func52 (by kernel_rfl) rfl #[.int .i64 (rd l0_1 x18_2)] rfl (by (try simp only [List.map_toArray,List.map_cons,List.map_nil]);first | done | rfl | (simp only [List.length_drop,List.length_take];rfl)) ?_;(with_reducible refine (impl_isDay.calls (rd l0_1 x18_2) false _ A13.out).mono ?_);rintro e w' ⟨rfl,⟨nd,rfl⟩⟩;refine ⟨_,rfl,?_⟩))
          go_ret
          exact ⟨by first | rfl | (simp [errW_none,errW_some] <;> rfl) | (simp [*,errW_none,errW_some] <;> rfl),by repeat (first | (with_reducible first | exact HB.out | apply y02 | apply y00 | apply y01 | refine y03 ?_ GE52001.out) | exact HB.out)⟩
        ·rw [if_neg c12] at H;exact absurd H (by simp)
       ·rw [if_neg c11] at H;exact absurd H (by simp)
      ·rw [if_neg c10] at H;have c10b0:decide (x18_2 < (l0_1.length:Int))=false:=decide_eq_false c10;clear c10;obtain rfl:=Option.some.inj H
       go_wp2
       go_ret
       exact ⟨by first | rfl | (simp [errW_none,errW_some] <;> rfl) | (simp [*,errW_none,errW_some] <;> rfl),by repeat (first | (with_reducible first | exact HB.out | apply y02 | apply y00 | apply y01 | refine y03 ?_ GE52001.out) | exact HB.out)⟩
noncomputable def impl_Weekday.f (a0:Int):Option (Int):=(impl_isDay.f a0).bind fun t60001=>(if t60001=true then (some (Int.tmod (wrap64 (a0+5)) 7)) else (some (-1)))
set_option maxHeartbeats 8000000 in
set_option maxRecDepth 100000 in
theorem impl_Weekday.calls (a0:Int) (r:Int) (w:World) (h:impl_Weekday.f a0=some r) :
 Calls Tryd.prog 59 #[.int .i64 a0] w fun e w'=>e = .returned (.int .i64 r)∧Drawn0 w w':=by
 have H:((impl_isDay.f a0).bind fun t60001=>(if t60001=true then (some (Int.tmod (wrap64 (a0+5)) 7)) else (some (-1))))=some r:=h;clear h;replace H:=Option.bind_eq_some_iff.mp H;obtain ⟨t60001,A20,H⟩:=H;replace H:(if t60001=true then (some (Int.tmod (wrap64 (a0+5)) 7)) else (some (-1)))=some r:=H;have A2:=Aside0.mk A20;clear A20;by_cases c3:t60001=true
 ·subst c3;have H1:(some (Int.tmod (wrap64 (a0+5)) 7))=some r:=by rw [if_pos rfl] at H;exact H
  clear H;have H:=H1;clear H1;obtain rfl:=Option.some.inj H
  go_enter Tryd.func59,Tryd.ntmps59
  go_wp2_with (first | ((with_reducible refine gate_callee (f:=52) rfl ?_);refine goesL_ (some 4) rfl rfl Tryd.func52 (by kernel_rfl) rfl #[.int .i64 a0] rfl (by (try simp only [List.map_toArray,List.map_cons,List.map_nil]);first | done | rfl | (simp only [List.length_drop,List.length_take];rfl)) ?_;(with_reducible refine (impl_isDay.calls a0 true _ A2.out).mono ?_);rintro e w' ⟨rfl,⟨nd,rfl⟩⟩;refine ⟨_,rfl,?_⟩))
  go_ret
  exact ⟨by first | rfl | (simp;done) | (simp [*];done),by repeat (first | exact Drawn0.refl _ | apply Drawn0.step)⟩
 ·replace c3:=Bool.eq_false_iff.mpr c3;subst c3;have H1:(some (-1))=some r:=by rw [if_neg (show ¬ (false=true) by decide)] at H;exact H
  clear H;have H:=H1;clear H1;obtain rfl:=Option.some.inj H
  go_enter Tryd.func59,Tryd.ntmps59
  go_wp2_with (first | ((with_reducible refine gate_callee (f:=52) rfl ?_);refine goesL_ (some 4) rfl rfl Tryd.func52 (by kernel_rfl) rfl #[.int .i64 a0] rfl (by (try simp only [List.map_toArray,List.map_cons,List.map_nil]);first | done | rfl | (simp only [List.length_drop,List.length_take];rfl)) ?_;(with_reducible refine (impl_isDay.calls a0 false _ A2.out).mono ?_);rintro e w' ⟨rfl,⟨nd,rfl⟩⟩;refine ⟨_,rfl,?_⟩))
  go_ret
  exact ⟨by first | rfl | (simp;done) | (simp [*];done),by repeat (first | exact Drawn0.refl _ | apply Drawn0.step)⟩
end Go.Proofs.YtcblmhpebijmaaaDoor.Q
