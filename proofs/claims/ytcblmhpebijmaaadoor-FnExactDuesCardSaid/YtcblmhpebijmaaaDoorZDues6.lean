/- Parts of the proof: what functions of the program and of the reference answer.
   No condition. -/
import Derived.Test.YtcblmhpebijmaaaDoorZDues1
import Derived.Test.YtcblmhpebijmaaaDoorZDues4
namespace Go.Proofs.YtcblmhpebijmaaaDoor.Q
open Go.RowKit Go.Proofs.YtcblmhpebijmaaaDoorW.PrintWords Go.Proofs.YtcblmhpebijmaaaDoorW.PrintLast Go.Proofs.YtcblmhpebijmaaaDoorW.PrintMore
attribute [local go_sem] max2_int min2_int max_two min_two max_three min_three max_four min_four
set_option linter.unusedVariables false
set_option linter.unusedSimpArgs false
noncomputable def laws_toPayPartS.l0:Nat→List (S52)→List (S43)→Int→Option ((List (S43)))
 | 0,_,_,_=>none
 | k+1,x0,x3,x4=>if x4 < (x0.length:Int) then (if 0≤x4 then ((laws_toPayPart.f ((rd_T52 x0 x4).f0) ((rd_T52 x0 x4).f1) ((rd_T52 x0 x4).f2) ((rd_T52 x0 x4).f3)).bind fun bt8005=>(if x4 < (x3.length:Int) then (laws_toPayPartS.l0 k x0 (x3.set (x4:Int).toNat (⟨bt8005.1,bt8005.2.1,bt8005.2.2.1,bt8005.2.2.2⟩:S43)) (wrap64 (x4+1))) else (none))) else (none)) else (some x3)
noncomputable def laws_toPayPartS.f (k:Nat) (l0:List (S52)):Option ((List (S43))):=if 0≤(l0.length:Int) then (if ((l0.length:Int):Int).toNat≤8796093022208 then (laws_toPayPartS.l0 k l0 (List.replicate ((l0.length:Int):Int).toNat z43) 0) else (none)) else (none)
set_option maxHeartbeats 8000000 in
set_option maxRecDepth 100000 in
theorem laws_toPayPartS.calls (k:Nat) (A0:Option Addr) (c0:Nat) (l0:List (S52)) (r:List (S43)) (w:World) (hr0:Kd.C k52 w A0 l0.length l0) (hc0:l0.length≤c0) (h:laws_toPayPartS.f k l0=some r) :
 Calls Tryd.prog 7 #[.slice A0 l0.length c0] w fun e w'=>∃ v0_:Value,e = .returned (v0_)∧Kd.R k43 43 w' w.heap.size (fun _=>True) v0_ r∧Below w.heap.size w w':=by
 have hu52:=Tryd.underlying52;have hu43:=Tryd.underlying43;have HR0:=Aside0.mk hr0;have HC0:=Aside0.mk hc0;clear hr0 hc0;have HB:=Aside0.mk (Below.refl w.heap.size w);have H:(if 0≤(l0.length:Int) then (if ((l0.length:Int):Int).toNat≤8796093022208 then (laws_toPayPartS.l0 k l0 (List.replicate ((l0.length:Int):Int).toNat z43) 0) else (none)) else (none))=some r:=h;clear h;by_cases c2:0≤(l0.length:Int)
 ·rw [if_pos c2] at H;have c2b0:=eq_true c2;have c2b1:decide (0≤(l0.length:Int))=true:=decide_eq_true c2;clear c2;by_cases c3:((l0.length:Int):Int).toNat≤8796093022208
  ·rw [if_pos c3] at H;have c3b0:=eq_true c3;have c3b1:decide (((l0.length:Int):Int).toNat≤8796093022208)=true:=decide_eq_true c3;clear c3;obtain ⟨y8001,hy8001⟩:∃ y_:List (S43),y_=(List.replicate ((l0.length:Int):Int).toNat z43):=⟨_,rfl⟩;replace H:(laws_toPayPartS.l0 k l0 y8001 0)=some r:=by first | (rw [hy8001];with_reducible exact H) | (have H2_:=(Option.bind_some _ _).symm.trans H;rw [hy8001];with_reducible exact H2_) | (have H2_:=(Option.bind_some _ _).symm.trans H;with_reducible exact H2_) | with_reducible exact H | (rw [hy8001];exact H) | exact H
   have Ny8001:=Aside0.mk hy8001;clear hy8001;have H':=Aside0.mk H;clear H
   go_enter Tryd.func7,Tryd.ntmps7
   go_wp2_with (first | ((with_reducible refine gate_dst (N:=7) rfl ?_);refine Kd.R_make k43 _ 43 rfl (N:=7) rfl 30 _ _ rfl (l0.length:Int) rfl rfl Tryd.underlying30 (.agg #[(.int .i64 0),(.int .i64 0),(.bool false),(.int .i64 0)]) 32 info43 rfl (by decide) (by omega) z43 (ok:=fun _=>True) (okp:=fun _=>True) (k43_mkM _ _ _ z43 ) (fun _ hk=>hk) trivial (of_decide_eq_true (by first | (with_reducible assumption) | assumption)) (Nat.le_trans (Nat.mul_le_mul_right _ (of_decide_eq_true (by first | (with_reducible assumption) | assumption):(l0.length:Int).toNat≤8796093022208)) (by omega)) (Below.refl _ _) (Nat.le_refl _) ?_;intro v8002 w4 ho5 hb hg_ hnew_;clear hg_ hnew_;(first | rw [← Ny8001.out] at ho5 | (simp only [Int.reduceToNat] at ho5;rw [← Ny8001.out] at ho5));have n0_:=Aside0.mk (Kd.R_lower ho5 (below_size (by repeat (first | (with_reducible first | exact HB.out | apply y02 | apply y00 | apply y01) | exact HB.out))));have n1_:=Aside0.mk (below_step (by repeat (first | (with_reducible first | exact HB.out | apply y02 | apply y00 | apply y01) | exact HB.out)) hb);clear HB;have HO8003:=n0_;have HB:=n1_;clear n0_ n1_;clear hb ho5))
   go_loopg [4] k (fun kq v4 w'=>∃ (x3_1:List (S43)) (x4_1:Int),v4 = .int .i64 x4_1∧Aside0 (laws_toPayPartS.l0 kq l0 x3_1 x4_1=some r)∧Aside0 (kq≤k)∧Aside0 (Kd.R k43 43 w' w.heap.size (fun _=>True) v8002 x3_1)∧Aside0 (Below w.heap.size w w'))
   case atStart=>exact ⟨(y8001),(0),(by first | rfl | (simp;done) | (simp [*];done)),H',⟨Nat.le_refl _⟩,⟨by (with_reducible repeat (first | apply Kd.R_alloc | apply Kd.R_drewN | apply Kd.R_drew));exact HO8003.out⟩,⟨by repeat (first | (with_reducible first | exact HB.out | apply y02 | apply y00 | apply y01) | exact HB.out)⟩⟩
   case round =>
    clear H';(try clear c2);(try clear c2b0);(try clear c2b1);(try clear p2);(try clear c3);(try clear c3b0);(try clear c3b1);obtain ⟨x3_1,x4_1,rfl,HA,HK1,HO_3,HB⟩:=hrel;cases gk with
    | zero=>exact absurd HA.out (by simp [laws_toPayPartS.l0])
    | succ k1 =>
     have H:=HA.out;clear HA;simp only [laws_toPayPartS.l0] at H;by_cases c6:x4_1 < (l0.length:Int)
     ·rw [if_pos c6] at H;have c6b0:decide (x4_1 < (l0.length:Int))=true:=decide_eq_true c6;clear c6;by_cases c7:0≤x4_1
      ·rw [if_pos c7] at H;have c7b0:decide (0≤x4_1)=true:=decide_eq_true c7;clear c7;replace H:=Option.bind_eq_some_iff.mp H;obtain ⟨⟨t8005,t8006,t8007,t8008⟩,A80,H⟩:=H;replace H:(if x4_1 < (x3_1.length:Int) then (laws_toPayPartS.l0 k1 l0 (x3_1.set (x4_1:Int).toNat (⟨t8005,t8006,t8007,t8008⟩:S43)) (wrap64 (x4_1+1))) else (none))=some r:=H;have A8:=Aside0.mk A80;clear A80;by_cases c9:x4_1 < (x3_1.length:Int)
       ·rw [if_pos c9] at H;have c9b0:decide (x4_1 < (x3_1.length:Int))=true:=decide_eq_true c9;clear c9;obtain ⟨y8009,hy8009⟩:∃ y_:List (S43),y_=(x3_1.set (x4_1:Int).toNat (⟨t8005,t8006,t8007,t8008⟩:S43)):=⟨_,rfl⟩;replace H:(laws_toPayPartS.l0 k1 l0 y8009 (wrap64 (x4_1+1)))=some r:=by first | (rw [hy8009];with_reducible exact H) | (have H2_:=(Option.bind_some _ _).symm.trans H;rw [hy8009];with_reducible exact H2_) | (have H2_:=(Option.bind_some _ _).symm.trans H;with_reducible exact H2_) | with_reducible exact H | (rw [hy8009];exact H) | exact H
        have Ny8009:=Aside0.mk hy8009;clear hy8009;have H':=Aside0.mk H;clear H;have p8004:0≤(x4_1:Int):=of_decide_eq_true (by first | (with_reducible assumption) | assumption);have q8004:x4_1 < (l0.length:Int):=of_decide_eq_true (by first | (with_reducible assumption) | assumption);obtain ⟨ad8004,e8004,hx8004_0,hx8004_1,hx8004_2,hx8004_3⟩:=at_T52 HR0.out x4_1 p8004 q8004;cases e8004;replace hx8004_0:=(HB.out.cell (World.block_lt_of_cell? w _ hx8004_0)).trans hx8004_0;replace hx8004_1:=(HB.out.cell (World.block_lt_of_cell? w _ hx8004_1)).trans hx8004_1;replace hx8004_2:=(HB.out.cell (World.block_lt_of_cell? w _ hx8004_2)).trans hx8004_2;replace hx8004_3:=(HB.out.cell (World.block_lt_of_cell? w _ hx8004_3)).trans hx8004_3;replace p8004:=eq_true p8004;replace q8004:=eq_true q8004
        go_wp2_with (first | ((with_reducible refine gate_callee (f:=23) rfl ?_);refine goesL_ (some 20) rfl rfl Tryd.func23 (by kernel_rfl) rfl #[.agg #[.int .i64 ((rd_T52 l0 x4_1).f0),.int .i64 ((rd_T52 l0 x4_1).f1),.bool ((rd_T52 l0 x4_1).f2),.int .i64 ((rd_T52 l0 x4_1).f3)]] rfl (by (try simp only [List.map_toArray,List.map_cons,List.map_nil]);first | done | rfl | (simp only [List.length_drop,List.length_take];rfl)) ?_;(with_reducible refine (laws_toPayPart.calls ((rd_T52 l0 x4_1).f0) ((rd_T52 l0 x4_1).f1) ((rd_T52 l0 x4_1).f2) ((rd_T52 l0 x4_1).f3) t8005 t8006 t8007 t8008 _ A8.out).mono ?_);rintro e w11 ⟨rfl,hb⟩;refine ⟨_,rfl,?_⟩;have n0_:=Aside0.mk (Kd.R_below (by (with_reducible repeat (first | apply Kd.R_alloc | apply Kd.R_drewN | apply Kd.R_drew));exact HO_3.out) hb);have n1_:=Aside0.mk (below_step (by repeat (first | (with_reducible first | exact HB.out | apply y02 | apply y00 | apply y01) | exact HB.out)) hb);clear HO_3;clear HB;have HO_3:=n0_;have HB:=n1_;clear n0_ n1_;(try clear hb);(try clear hb2);(try clear hk);(try clear hi);have p10:0≤(x4_1:Int):=of_decide_eq_true (by first | (with_reducible assumption) | assumption);have q10:(x4_1:Int) < ((x3_1.length:Int):Int):=of_decide_eq_true (by first | (with_reducible assumption) | assumption);obtain ⟨go10,co10,eo10,gb10,gl10,cl10,HG10⟩:=Kd.R_form HO_3.out (by omega);(first | cases eo10 | (injection eo10 with ea_ en_ ec_;(first | subst ea_ | (injection ea_ with ea_;subst ea_));subst ec_;clear en_));have GB10:=Aside0.mk gb10;have GG10:=Aside0.mk HG10;clear gb10 gl10 HG10;obtain ⟨ce10,hcl10,hM10,hcc10,hfr10⟩:=Kd.R_elem HO_3.out z43 (x4_1:Int) p10 q10;obtain rfl:=k43_openM hM10;have hx10_0:w11.cell? ⟨go10,(x4_1:Int).toNat * 4,none⟩=some (.int .i64 ((rd_T43 x3_1 x4_1).f0)):=hcc10 0 _ rfl;have hx10_1:w11.cell? ⟨go10,(x4_1:Int).toNat * 4+1,none⟩=some (.int .i64 ((rd_T43 x3_1 x4_1).f1)):=hcc10 1 _ rfl;have hx10_2:w11.cell? ⟨go10,(x4_1:Int).toNat * 4+2,none⟩=some (.bool ((rd_T43 x3_1 x4_1).f2)):=hcc10 2 _ rfl;have hx10_3:w11.cell? ⟨go10,(x4_1:Int).toNat * 4+3,none⟩=some (.int .i64 ((rd_T43 x3_1 x4_1).f3)):=hcc10 3 _ rfl;have hf10_0:w11.frozen? ⟨go10,(x4_1:Int).toNat * 4,none⟩=false:=hfr10 0;have hf10_1:w11.frozen? ⟨go10,(x4_1:Int).toNat * 4+1,none⟩=false:=hfr10 1;have hf10_2:w11.frozen? ⟨go10,(x4_1:Int).toNat * 4+2,none⟩=false:=hfr10 2;have hf10_3:w11.frozen? ⟨go10,(x4_1:Int).toNat * 4+3,none⟩=false:=hfr10 3;clear hcl10 hcc10 hfr10 hM10;replace p10:=eq_true p10;replace q10:=eq_true q10;have HX12:=Aside0.mk (show Kd.R k43 43 w11 w.heap.size (fun _=>True) (.slice (some ⟨go10,0,none⟩) x3_1.length co10) x3_1 from (by (with_reducible repeat (first | apply Kd.R_alloc | apply Kd.R_drewN | apply Kd.R_drew));exact HO_3.out));obtain ⟨ce12,hcl12,hM12,hcc12,hfr12⟩:=Kd.R_elem HX12.out z43 (x4_1:Int) (of_decide_eq_true (by first | (with_reducible assumption) | assumption)) (by have h_:(x4_1:Int) < ((x3_1.length:Int):Int):=of_decide_eq_true (by first | (with_reducible assumption) | assumption);first | exact h_ | (have e_:=(Kd.R_reads' HO_3.out).1;omega) | simpa using h_);obtain rfl:=k43_openM hM12;have HP12:=Kd.R_seg HX12.out (x4_1:Int) (of_decide_eq_true (by first | (with_reducible assumption) | assumption)) (by have h_:(x4_1:Int) < ((x3_1.length:Int):Int):=of_decide_eq_true (by first | (with_reducible assumption) | assumption);first | exact h_ | (have e_:=(Kd.R_reads' HO_3.out).1;omega) | simpa using h_) (seg:=[.int .i64 t8005,.int .i64 t8006,.bool t8007,.int .i64 t8008]) (j:=0) hcl12 hcc12 (show 4≤4 from by decide) (x':=(⟨t8005,t8006,t8007,t8008⟩:S43)) (k43_mkM _ _ _ (⟨t8005,t8006,t8007,t8008⟩:S43) ) (fun _ hk=>hk);have hx12_0:=hcc12 0 _ rfl;(try simp only [show (k43).sz=4 from rfl,Nat.mul_one,Nat.add_zero] at hx12_0);have hf12_0:=hfr12 0;(try simp only [show (k43).sz=4 from rfl,Nat.mul_one,Nat.add_zero] at hf12_0);have hx12_1:=hcc12 1 _ rfl;(try simp only [show (k43).sz=4 from rfl,Nat.mul_one,Nat.add_zero] at hx12_1);have hf12_1:=hfr12 1;(try simp only [show (k43).sz=4 from rfl,Nat.mul_one,Nat.add_zero] at hf12_1);have hx12_2:=hcc12 2 _ rfl;(try simp only [show (k43).sz=4 from rfl,Nat.mul_one,Nat.add_zero] at hx12_2);have hf12_2:=hfr12 2;(try simp only [show (k43).sz=4 from rfl,Nat.mul_one,Nat.add_zero] at hf12_2);have hx12_3:=hcc12 3 _ rfl;(try simp only [show (k43).sz=4 from rfl,Nat.mul_one,Nat.add_zero] at hx12_3);have hf12_3:=hfr12 3;(try simp only [show (k43).sz=4 from rfl,Nat.mul_one,Nat.add_zero] at hf12_3);clear hcl12 hcc12 hfr12 hM12) | ((with_reducible refine gate_store (t:=43) (p:=21) rfl ?_);refine store_event (t:=43) (p:=21) (v:=?vo_w13) (w1:=((((w11.setCell ⟨go10,(x4_1:Int).toNat * 4,none⟩ (.int .i64 t8005)).setCell ⟨go10,(x4_1:Int).toNat * 4+1,none⟩ (.int .i64 t8006)).setCell ⟨go10,(x4_1:Int).toNat * 4+2,none⟩ (.bool t8007)).setCell ⟨go10,(x4_1:Int).toNat * 4+3,none⟩ (.int .i64 t8008))) ?hg ?ho ?hn ?hr ?_;(case ho=>rfl);(case hg=>rfl);(case hn=>rfl);(case hr=>first | (go_simp;done) | (go_simp;rfl));intro w13 hw;have hg:w11.grownBy w13 (some go10):=(by rw [hw];exact HP12.2);have hp_:Kd.R k43 43 w13 w.heap.size (fun _=>True) (.slice (some ⟨go10,0,none⟩) x3_1.length co10) y8009:=(by rw [hw,Ny8009.out];exact HP12.1);clear HP12;have n0_:=Aside0.mk (hp_);have n1_:=Aside0.mk ((by rw [hw];exact y03 (y03 (y03 (y03 (HB.out) GB10.out) GB10.out) GB10.out) GB10.out:Below w.heap.size w w13));clear HO_3;clear HB;have HO_3:=n0_;have HB:=n1_;clear n0_ n1_;clear hg hw hp_))
        go_roundg k1
        case measure=>have:=HK1.out;omega
        case rel=>exact ⟨(y8009),(wrap64 (x4_1+1)),(by first | rfl | (simp;done) | (simp [*];done)),H',⟨by have:=HK1.out;omega⟩,⟨by (with_reducible repeat (first | apply Kd.R_alloc | apply Kd.R_drewN | apply Kd.R_drew));exact HO_3.out⟩,⟨by repeat (first | (with_reducible first | exact HB.out | apply y02 | apply y00 | apply y01) | exact HB.out)⟩⟩
       ·rw [if_neg c9] at H;exact absurd H (by simp)
      ·rw [if_neg c7] at H;exact absurd H (by simp)
     ·rw [if_neg c6] at H;have c6b0:decide (x4_1 < (l0.length:Int))=false:=decide_eq_false c6;clear c6;obtain rfl:=Option.some.inj H
      go_wp2
      go_ret
      exact ⟨_,by first | rfl | (simp [errW_none,errW_some] <;> rfl) | (simp [*,errW_none,errW_some] <;> rfl),by (with_reducible repeat (first | apply Kd.R_alloc | apply Kd.R_drewN | apply Kd.R_drew));exact HO_3.out,by repeat (first | (with_reducible first | exact HB.out | apply y02 | apply y00 | apply y01) | exact HB.out)⟩
  ·rw [if_neg c3] at H;exact absurd H (by simp)
 ·rw [if_neg c2] at H;exact absurd H (by simp)
end Go.Proofs.YtcblmhpebijmaaaDoor.Q
namespace Go.Proofs.YtcblmhpebijmaaaDoor.Q
open Go.RowKit Go.Proofs.YtcblmhpebijmaaaDoorW.PrintWords Go.Proofs.YtcblmhpebijmaaaDoorW.PrintLast Go.Proofs.YtcblmhpebijmaaaDoorW.PrintMore
set_option linter.unusedVariables false
set_option linter.unusedSimpArgs false
theorem eqIntS_l0 (l:List Int) (hl:l.length≤1048576):∀ (n k:Nat) (i:Int),0≤i→i+n=(l.length:Int)→n < k→laws_eqIntS.l0 k l l i=some true:=by
 intro n
 induction n with
 | zero =>
  intro k i h0 hi hk;obtain ⟨k,rfl⟩:∃ j,k=j+1:=⟨k - 1,by omega⟩;simp only [laws_eqIntS.l0];rw [if_neg (by omega)]
 | succ n ih =>
  intro k i h0 hi hk;obtain ⟨k,rfl⟩:∃ j,k=j+1:=⟨k - 1,by omega⟩;simp only [laws_eqIntS.l0];rw [if_pos (by omega),if_pos h0,if_pos (by omega),if_pos trivial,wr1 h0 (by omega)];exact ih k (i+1) (by omega) (by omega) (by omega)
theorem laws_eqIntS_same (l:List Int) (hl:l.length≤1048576) (k:Nat) (hk:l.length < k):laws_eqIntS.f k l l=some true:=by
 unfold laws_eqIntS.f;rw [if_pos rfl];exact eqIntS_l0 l hl l.length k 0 (by omega) (by omega) hk
end Go.Proofs.YtcblmhpebijmaaaDoor.Q
namespace Go.Proofs.YtcblmhpebijmaaaDoor.Q
open Go.RowKit Go.Proofs.YtcblmhpebijmaaaDoorW.PrintWords Go.Proofs.YtcblmhpebijmaaaDoorW.PrintLast Go.Proofs.YtcblmhpebijmaaaDoorW.PrintMore
attribute [local go_sem] max2_int min2_int max_two min_two max_three min_three max_four min_four
set_option linter.unusedVariables false
set_option linter.unusedSimpArgs false
noncomputable def impl_isDay.f (a0:Int):Option Bool:=some (inB a0 (0) 40000)
set_option maxRecDepth 100000 in
theorem impl_isDay.to (a:Int) (w:World):Calls Tryd.prog 52 #[.int .i64 a] w fun e w'=>e = .returned (.bool (inB a (0) 40000))∧w'=w:=by
 go_enter Tryd.func52,Tryd.ntmps52
 go_wp2_with fail
 refine (impl_between.to a (0) 40000 _).mono ?_;rintro e w' ⟨rfl,rfl⟩
 go_wp2_with fail
 go_ret
 exact ⟨rfl,rfl⟩
theorem impl_isDay.calls (a0:Int) (r:Bool) (w:World) (h:impl_isDay.f a0=some r) :
 Calls Tryd.prog 52 #[.int .i64 a0] w fun e w'=>e = .returned (.bool r)∧Drawn0 w w':=by
 obtain rfl:=Option.some.inj h;exact (impl_isDay.to a0 w).mono fun e w' ⟨he,hw⟩=>⟨he,hw ▸ Drawn0.refl _⟩
noncomputable def spec_l2Day.f (a0:Int):Option Bool:=some (inB a0 (0) 40000)
set_option maxRecDepth 100000 in
theorem spec_l2Day.to (a:Int) (w:World):Calls Tryd.prog 38 #[.int .i64 a] w fun e w'=>e = .returned (.bool (inB a (0) 40000))∧w'=w:=by
 go_enter Tryd.func38,Tryd.ntmps38
 go_wp2_with fail
 refine (spec_l1In.to a (0) 40000 _).mono ?_;rintro e w' ⟨rfl,rfl⟩
 go_wp2_with fail
 go_ret
 exact ⟨rfl,rfl⟩
theorem spec_l2Day.calls (a0:Int) (r:Bool) (w:World) (h:spec_l2Day.f a0=some r) :
 Calls Tryd.prog 38 #[.int .i64 a0] w fun e w'=>e = .returned (.bool r)∧Drawn0 w w':=by
 obtain rfl:=Option.some.inj h;exact (spec_l2Day.to a0 w).mono fun e w' ⟨he,hw⟩=>⟨he,hw ▸ Drawn0.refl _⟩
noncomputable def spec_l2Long.f (a0:Int) (a1:Int):Option (Int):=if a1=2 then ((spec_l2Leap.f a0).bind fun t41001=>(if t41001=true then (some 29) else (some 28))) else (if a1=4 then (some 30) else (if a1=6 then (some 30) else (if a1=9 then (some 30) else (if a1=11 then (some 30) else (some 31)))))
set_option maxHeartbeats 8000000 in
set_option maxRecDepth 100000 in
theorem spec_l2Long.calls (a0:Int) (a1:Int) (r:Int) (w:World) (h:spec_l2Long.f a0 a1=some r) :
 Calls Tryd.prog 40 #[.int .i64 a0,.int .i64 a1] w fun e w'=>e = .returned (.int .i64 r)∧Drawn0 w w':=by
 have H:(if a1=2 then ((spec_l2Leap.f a0).bind fun t41001=>(if t41001=true then (some 29) else (some 28))) else (if a1=4 then (some 30) else (if a1=6 then (some 30) else (if a1=9 then (some 30) else (if a1=11 then (some 30) else (some 31))))))=some r:=h;clear h;by_cases c3:a1=2
 ·rw [if_pos c3] at H;have c3b0:(a1 == 2)=true:=beq_iff_eq.mpr c3;have c3b1:(a1 != 2)=false:=bne_eq_false_iff_eq.mpr c3;clear c3;replace H:=Option.bind_eq_some_iff.mp H;obtain ⟨t41001,A40,H⟩:=H;replace H:(if t41001=true then (some 29) else (some 28))=some r:=H;have A4:=Aside0.mk A40;clear A40;by_cases c5:t41001=true
  ·subst c5;have H1:(some 29)=some r:=by rw [if_pos rfl] at H;exact H
   clear H;have H:=H1;clear H1;obtain rfl:=Option.some.inj H
   go_enter Tryd.func40,Tryd.ntmps40
   go_wp2_with (first | ((with_reducible refine gate_callee (f:=54) rfl ?_);refine goesL_ (some 9) rfl rfl Tryd.func54 (by kernel_rfl) rfl #[.int .i64 a0] rfl (by (try simp only [List.map_toArray,List.map_cons,List.map_nil]);first | done | rfl | (simp only [List.length_drop,List.length_take];rfl)) ?_;(with_reducible refine (spec_l2Leap.calls a0 true _ A4.out).mono ?_);rintro e w' ⟨rfl,⟨nd,rfl⟩⟩;refine ⟨_,rfl,?_⟩))
   go_ret
   exact ⟨by first | rfl | (simp;done) | (simp [*];done),by repeat (first | exact Drawn0.refl _ | apply Drawn0.step)⟩
  ·replace c5:=Bool.eq_false_iff.mpr c5;subst c5;have H1:(some 28)=some r:=by rw [if_neg (show ¬ (false=true) by decide)] at H;exact H
   clear H;have H:=H1;clear H1;obtain rfl:=Option.some.inj H
   go_enter Tryd.func40,Tryd.ntmps40
   go_wp2_with (first | ((with_reducible refine gate_callee (f:=54) rfl ?_);refine goesL_ (some 9) rfl rfl Tryd.func54 (by kernel_rfl) rfl #[.int .i64 a0] rfl (by (try simp only [List.map_toArray,List.map_cons,List.map_nil]);first | done | rfl | (simp only [List.length_drop,List.length_take];rfl)) ?_;(with_reducible refine (spec_l2Leap.calls a0 false _ A4.out).mono ?_);rintro e w' ⟨rfl,⟨nd,rfl⟩⟩;refine ⟨_,rfl,?_⟩))
   go_ret
   exact ⟨by first | rfl | (simp;done) | (simp [*];done),by repeat (first | exact Drawn0.refl _ | apply Drawn0.step)⟩
 ·rw [if_neg c3] at H;have c3b0:(a1 == 2)=false:=beq_eq_false_iff_ne.mpr c3;have c3b1:(a1 != 2)=true:=bne_iff_ne.mpr c3;by_cases c6:a1=4
  ·rw [if_pos c6] at H;have c6b0:(a1 == 4)=true:=beq_iff_eq.mpr c6;have c6b1:(a1 != 4)=false:=bne_eq_false_iff_eq.mpr c6;clear c6;obtain rfl:=Option.some.inj H
   go_enter Tryd.func40,Tryd.ntmps40
   go_wp2
   go_ret
   exact ⟨by first | rfl | (simp;done) | (simp [*];done),by repeat (first | exact Drawn0.refl _ | apply Drawn0.step)⟩
  ·rw [if_neg c6] at H;have c6b0:(a1 == 4)=false:=beq_eq_false_iff_ne.mpr c6;have c6b1:(a1 != 4)=true:=bne_iff_ne.mpr c6;by_cases c7:a1=6
   ·rw [if_pos c7] at H;have c7b0:(a1 == 6)=true:=beq_iff_eq.mpr c7;have c7b1:(a1 != 6)=false:=bne_eq_false_iff_eq.mpr c7;clear c7;obtain rfl:=Option.some.inj H
    go_enter Tryd.func40,Tryd.ntmps40
    go_wp2
    go_ret
    exact ⟨by first | rfl | (simp;done) | (simp [*];done),by repeat (first | exact Drawn0.refl _ | apply Drawn0.step)⟩
   ·rw [if_neg c7] at H;have c7b0:(a1 == 6)=false:=beq_eq_false_iff_ne.mpr c7;have c7b1:(a1 != 6)=true:=bne_iff_ne.mpr c7;by_cases c8:a1=9
    ·rw [if_pos c8] at H;have c8b0:(a1 == 9)=true:=beq_iff_eq.mpr c8;have c8b1:(a1 != 9)=false:=bne_eq_false_iff_eq.mpr c8;clear c8;obtain rfl:=Option.some.inj H
     go_enter Tryd.func40,Tryd.ntmps40
     go_wp2
     go_ret
     exact ⟨by first | rfl | (simp;done) | (simp [*];done),by repeat (first | exact Drawn0.refl _ | apply Drawn0.step)⟩
    ·rw [if_neg c8] at H;have c8b0:(a1 == 9)=false:=beq_eq_false_iff_ne.mpr c8;have c8b1:(a1 != 9)=true:=bne_iff_ne.mpr c8;by_cases c9:a1=11
     ·rw [if_pos c9] at H;have c9b0:(a1 == 11)=true:=beq_iff_eq.mpr c9;have c9b1:(a1 != 11)=false:=bne_eq_false_iff_eq.mpr c9;clear c9;obtain rfl:=Option.some.inj H
      go_enter Tryd.func40,Tryd.ntmps40
      go_wp2
      go_ret
      exact ⟨by first | rfl | (simp;done) | (simp [*];done),by repeat (first | exact Drawn0.refl _ | apply Drawn0.step)⟩
     ·rw [if_neg c9] at H;have c9b0:(a1 == 11)=false:=beq_eq_false_iff_ne.mpr c9;have c9b1:(a1 != 11)=true:=bne_iff_ne.mpr c9;obtain rfl:=Option.some.inj H
      go_enter Tryd.func40,Tryd.ntmps40
      go_wp2
      go_ret
      exact ⟨by first | rfl | (simp;done) | (simp [*];done),by repeat (first | exact Drawn0.refl _ | apply Drawn0.step)⟩
noncomputable def spec_l1Amount.f (a0:Int):Option Bool:=some (inB a0 (-100000000000) 100000000000)
set_option maxRecDepth 100000 in
theorem spec_l1Amount.to (a:Int) (w:World):Calls Tryd.prog 35 #[.int .i64 a] w fun e w'=>e = .returned (.bool (inB a (-100000000000) 100000000000))∧w'=w:=by
 go_enter Tryd.func35,Tryd.ntmps35
 go_wp2_with fail
 refine (spec_l1In.to a (-100000000000) 100000000000 _).mono ?_;rintro e w' ⟨rfl,rfl⟩
 go_wp2_with fail
 go_ret
 exact ⟨rfl,rfl⟩
theorem spec_l1Amount.calls (a0:Int) (r:Bool) (w:World) (h:spec_l1Amount.f a0=some r) :
 Calls Tryd.prog 35 #[.int .i64 a0] w fun e w'=>e = .returned (.bool r)∧Drawn0 w w':=by
 obtain rfl:=Option.some.inj h;exact (spec_l1Amount.to a0 w).mono fun e w' ⟨he,hw⟩=>⟨he,hw ▸ Drawn0.refl _⟩
noncomputable def spec_l1Factor.f (a0:Int):Option (Bool):=(spec_l1In.f a0 0 10000000).bind fun t37001=>(some t37001)
set_option maxHeartbeats 8000000 in
set_option maxRecDepth 100000 in
theorem spec_l1Factor.calls (a0:Int) (r:Bool) (w:World) (h:spec_l1Factor.f a0=some r) :
 Calls Tryd.prog 36 #[.int .i64 a0] w fun e w'=>e = .returned (.bool r)∧Drawn0 w w':=by
 have H:((spec_l1In.f a0 0 10000000).bind fun t37001=>(some t37001))=some r:=h;clear h;replace H:=Option.bind_eq_some_iff.mp H;obtain ⟨t37001,A20,H⟩:=H;replace H:(some t37001)=some r:=H;have A2:=Aside0.mk A20;clear A20;obtain rfl:=Option.some.inj H
 go_enter Tryd.func36,Tryd.ntmps36
 go_wp2_with (first | ((with_reducible refine gate_callee (f:=19) rfl ?_);refine goesL_ (some 4) rfl rfl Tryd.func19 (by kernel_rfl) rfl #[.int .i64 a0,.int .i64 0,.int .i64 10000000] rfl (by (try simp only [List.map_toArray,List.map_cons,List.map_nil]);first | done | rfl | (simp only [List.length_drop,List.length_take];rfl)) ?_;(with_reducible refine (spec_l1In.calls a0 0 10000000 t37001 _ A2.out).mono ?_);rintro e w' ⟨rfl,⟨nd,rfl⟩⟩;refine ⟨_,rfl,?_⟩))
 go_ret
 exact ⟨by first | rfl | (simp;done) | (simp [*];done),by repeat (first | exact Drawn0.refl _ | apply Drawn0.step)⟩
end Go.Proofs.YtcblmhpebijmaaaDoor.Q
namespace Go.Proofs.YtcblmhpebijmaaaDoor.Q
open Go.RowKit Go.Proofs.YtcblmhpebijmaaaDoorW.PrintWords Go.Proofs.YtcblmhpebijmaaaDoorW.PrintLast Go.Proofs.YtcblmhpebijmaaaDoorW.PrintMore
set_option linter.unusedVariables false
set_option linter.unusedSimpArgs false
set_option maxHeartbeats 4000000 in
set_option maxRecDepth 100000 in
theorem laws_eqPayPartS.calls (A0:Option Addr) (c0:Nat) (l0:List (S43)) (A1:Option Addr) (c1:Nat) (l1:List (S43)) (w:World) (hr0:Kd.C k43 w A0 l0.length l0) (hr1:Kd.C k43 w A1 l1.length l1) :
 Calls Tryd.prog 11 #[.slice A0 l0.length c0,.slice A1 l1.length c1] w fun e w'=>e = .returned (.bool (same l0 l1))∧Below w.heap.size w w':=by
 have hl:=hr0.2.1;have hm:=hr1.2.1;have H0:=Aside0.mk hr0;have H1:=Aside0.mk hr1;clear hr0 hr1;by_cases hlen:l0.length=l1.length
 ·have hlb:((l0.length:Int) != (l1.length:Int))=false:=by rw [hlen];simp
  have HL:=Aside0.mk hlen;clear hlen
  go_enter Tryd.func11,Tryd.ntmps11
  go_wp2
  go_loopw [5] (fun v wr=>∃ i:Int,0≤i∧i≤(l0.length:Int)∧v = .int .i64 i∧Aside0 (Below w.heap.size w wr)∧Aside0 (l0.take i.toNat=l1.take i.toNat)) (fun v _=>(l0.length - (intOf v).toNat))
  case atStart=>exact ⟨0,by omega,by omega,rfl,⟨Below.refl _ _⟩,⟨rfl⟩⟩
  case round =>
   obtain ⟨i,hi0,hi1,rfl,HB,HT⟩:=hrel;by_cases hlt:i < (l0.length:Int)
   ·have hlt2:i < (l1.length:Int):=by have:=HL.out;omega
    obtain ⟨ad,ead,adx0,adx1,adx2,adx3⟩:=at_T43 (Kd.C_below H0.out HB.out) i hi0 hlt;obtain ⟨bd,ebd,bdx0,bdx1,bdx2,bdx3⟩:=at_T43 (Kd.C_below H1.out HB.out) i hi0 hlt2;cases ead;cases ebd
    go_wp2
    go_region_held3 (fun w'=>w'.cell? (ad.add (i.toNat * 4))=some (.int .i64 (rd_T43 l0 i).f0)∧w'.cell? ⟨(ad.add (i.toNat * 4)).block,(ad.add (i.toNat * 4)).off+1,none⟩=some (.int .i64 (rd_T43 l0 i).f1)∧w'.cell? ⟨(ad.add (i.toNat * 4)).block,(ad.add (i.toNat * 4)).off+2,none⟩=some (.bool (rd_T43 l0 i).f2)∧w'.cell? ⟨(ad.add (i.toNat * 4)).block,(ad.add (i.toNat * 4)).off+3,none⟩=some (.int .i64 (rd_T43 l0 i).f3)∧w'.cell? (bd.add (i.toNat * 4))=some (.int .i64 (rd_T43 l1 i).f0)∧w'.cell? ⟨(bd.add (i.toNat * 4)).block,(bd.add (i.toNat * 4)).off+1,none⟩=some (.int .i64 (rd_T43 l1 i).f1)∧w'.cell? ⟨(bd.add (i.toNat * 4)).block,(bd.add (i.toNat * 4)).off+2,none⟩=some (.bool (rd_T43 l1 i).f2)∧w'.cell? ⟨(bd.add (i.toNat * 4)).block,(bd.add (i.toNat * 4)).off+3,none⟩=some (.int .i64 (rd_T43 l1 i).f3)) ((first | go_keep | exact ⟨pw_cell_below hb (by assumption),pw_cell_below hb (by assumption),pw_cell_below hb (by assumption),pw_cell_below hb (by assumption),pw_cell_below hb (by assumption),pw_cell_below hb (by assumption),pw_cell_below hb (by assumption),pw_cell_below hb (by assumption)⟩))
     ((go_at_call 32;refine (laws_eqPayPart.calls (rd_T43 l0 i).f0 (rd_T43 l0 i).f1 (rd_T43 l0 i).f2 (rd_T43 l0 i).f3 (rd_T43 l1 i).f0 (rd_T43 l1 i).f1 (rd_T43 l1 i).f2 (rd_T43 l1 i).f3 _ ).mono ?_;rintro e w2 ⟨rfl,hb⟩))
    have HB2:=Aside0.mk (below_into (w:=w) hb (by repeat (first | exact HB.out | refine y01 ?_)));clear hb;by_cases he:rd_T43 l0 i=rd_T43 l1 i
    ·rw [← same_true (show ((⟨(rd_T43 l0 i).f0,(rd_T43 l0 i).f1,(rd_T43 l0 i).f2,(rd_T43 l0 i).f3⟩:S43):S43)=(⟨(rd_T43 l1 i).f0,(rd_T43 l1 i).f1,(rd_T43 l1 i).f2,(rd_T43 l1 i).f3⟩:S43) from he)]
     go_wp2
     go_roundw
     case rel=>exact ⟨i+1,by omega,by omega,rfl,HB2,⟨take_step hi0 hlt hlt2 HT.out he⟩⟩
     case measure=>simp [intOf];omega
    ·rw [← same_false (show ((⟨(rd_T43 l0 i).f0,(rd_T43 l0 i).f1,(rd_T43 l0 i).f2,(rd_T43 l0 i).f3⟩:S43):S43)=(⟨(rd_T43 l1 i).f0,(rd_T43 l1 i).f1,(rd_T43 l1 i).f2,(rd_T43 l1 i).f3⟩:S43)→False from he)]
     go_wp2
     go_ret
     exact ⟨ret_bool (same_false (fun h=>he (by rw [h]))),HB2.out⟩
   ·go_wp2
    go_ret
    exact ⟨ret_bool (same_true (take_end HL.out hlt HT.out)),HB.out⟩
 ·go_enter Tryd.func11,Tryd.ntmps11
  go_wp2
  go_ret
  exact ⟨ret_bool (same_false (fun h=>hlen (by rw [h]))),Below.refl _ _⟩
end Go.Proofs.YtcblmhpebijmaaaDoor.Q
