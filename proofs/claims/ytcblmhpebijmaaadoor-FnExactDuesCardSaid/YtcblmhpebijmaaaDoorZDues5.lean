/- Parts of the proof: what functions of the program and of the reference answer.
   No condition. -/
import Derived.Test.YtcblmhpebijmaaaDoorZDues1
import Derived.Test.YtcblmhpebijmaaaDoorZDues3
namespace Go.Proofs.YtcblmhpebijmaaaDoor.Q
open Go.RowKit Go.Proofs.YtcblmhpebijmaaaDoorW.PrintWords Go.Proofs.YtcblmhpebijmaaaDoorW.PrintLast Go.Proofs.YtcblmhpebijmaaaDoorW.PrintMore
set_option linter.unusedVariables false
set_option linter.unusedSimpArgs false
def mAll {α:Type} (m:Int→α→α) (nx:Int→α→Int):Int→List α→List α
 | _,[]=>[]
 | a,x :: l=>m a x :: mAll m nx (nx a x) l
def nAll {α:Type} (nx:Int→α→Int):Int→List α→Int
 | a,[]=>a
 | a,x :: l=>nAll nx (nx a x) l
theorem mAll_length {α:Type} (m:Int→α→α) (nx:Int→α→Int):∀ (l:List α) (a:Int),(mAll m nx a l).length=l.length
 | [],_=>rfl
 | x :: l,a=>by simp only [mAll,List.length_cons,mAll_length m nx l]
theorem nAll_bound {α:Type} {nx:Int→α→Int} {C:Int}:∀ (l:List α) (a:Int),(∀ x∈l,∀ b,b≤nx b x∧nx b x≤b+C)→a≤nAll nx a l∧nAll nx a l≤a+C * (l.length:Int)
 | [],a,_=>by simp [nAll]
 | x :: l,a,h=>by
  have h1:=h x List.mem_cons_self a;have h2:=nAll_bound l (nx a x) (fun y hy=>h y (List.mem_cons_of_mem _ hy));have:C * ((x :: l).length:Int)=C+C * (l.length:Int):=by rw [List.length_cons];push_cast;rw [Int.mul_add];omega
  simp only [nAll];omega
theorem mark_loop {α:Type} (F:Nat→List α→Int→Int→Option (Int × List α)) (m:Int→α→α) (nx:Int→α→Int) (z:α) (D:Nat) (C B:Int) (hC:0≤C) (ok:α→Prop)
 (hnx:∀ x,ok x→∀ b,b≤nx b x∧nx b x≤b+C)
 (hstep:∀ (k:Nat) (x:List α) (a i:Int),D≤k→0≤i→i < (x.length:Int)→(x.length:Int)≤1048576→0≤a→a+C≤B→ok (x.getD i.toNat z)→F (k+1) x a i=F k (x.set i.toNat (m a (x.getD i.toNat z))) (nx a (x.getD i.toNat z)) (i+1))
 (hend:∀ (k:Nat) (x:List α) (a i:Int),(x.length:Int)≤i→F (k+1) x a i=some (a,x)) :
 ∀ (rest pre:List α) (k:Nat) (a:Int),rest.length+D < k→(pre++rest).length≤1048576→0≤a→a+C * (rest.length:Int)≤B→(∀ x∈rest,ok x)→F k (pre++rest) a (pre.length:Int)=some (nAll nx a rest,pre++mAll m nx a rest)
 | [],pre,k,a,hk,hl,h0,hB,ho=>by
  obtain ⟨k,rfl⟩:∃ j,k=j+1:=⟨k - 1,by omega⟩;rw [hend k _ a _ (by simp)];rfl
 | x :: rest,pre,k,a,hk,hl,h0,hB,ho=>by
  obtain ⟨k,rfl⟩:∃ j,k=j+1:=⟨k - 1,by omega⟩;have hx:(pre++x :: rest).getD (pre.length:Int).toNat z=x:=by simp
  have hox:=ho x List.mem_cons_self;have h1:=hnx x hox a;have hmul:C * ((x :: rest).length:Int)=C+C * (rest.length:Int):=by rw [List.length_cons];push_cast;rw [Int.mul_add];omega
  have hpos:0≤C * (rest.length:Int):=Int.mul_nonneg hC (by omega);simp only [List.length_cons] at hk;rw [hstep k _ a _ (by omega) (by omega) (by simp;omega) (by omega) h0 (by omega) (by rw [hx];exact hox),hx];have hs:(pre++x :: rest).set (pre.length:Int).toNat (m a x)=(pre++[m a x])++rest:=by simp
  have hp:((pre.length:Int)+1)=((pre++[m a x]).length:Int):=by simp
  rw [hs,hp,mark_loop F m nx z D C B hC ok hnx hstep hend rest (pre++[m a x]) k (nx a x) (by omega) (by simp at hl ⊢;omega) (by omega) (by omega) (fun y hy=>ho y (List.mem_cons_of_mem _ hy))];simp [nAll,mAll]
theorem held_loop {α:Type} (F:Nat→List α→Int→Int→Option Int) (m:Int→α→α) (nx:Int→α→Int) (z:α) (D:Nat) (C B:Int) (hC:0≤C) (ok:α→Prop)
 (hnx:∀ x,ok x→∀ b,b≤nx b x∧nx b x≤b+C)
 (hstep:∀ (k:Nat) (y:List α) (x:α) (a i:Int),D≤k→0≤i→i < (y.length:Int)→(y.length:Int)≤1048576→0≤a→a+C≤B→ok x→y.getD i.toNat z=m a x→F (k+1) y a i=F k y (nx a x) (i+1))
 (hend:∀ (k:Nat) (x:List α) (a i:Int),(x.length:Int)≤i→F (k+1) x a i=some a) :
 ∀ (rest pre:List α) (k:Nat) (a:Int),rest.length+D < k→(pre++rest).length≤1048576→0≤a→a+C * (rest.length:Int)≤B→(∀ x∈rest,ok x)→F k (pre++mAll m nx a rest) a (pre.length:Int)=some (nAll nx a rest)
 | [],pre,k,a,hk,hl,h0,hB,ho=>by
  obtain ⟨k,rfl⟩:∃ j,k=j+1:=⟨k - 1,by omega⟩;rw [hend k _ a _ (by simp [mAll])];rfl
 | x :: rest,pre,k,a,hk,hl,h0,hB,ho=>by
  obtain ⟨k,rfl⟩:∃ j,k=j+1:=⟨k - 1,by omega⟩;have hx:(pre++mAll m nx a (x :: rest)).getD (pre.length:Int).toNat z=m a x:=by simp [mAll]
  have hox:=ho x List.mem_cons_self;have h1:=hnx x hox a;have hmul:C * ((x :: rest).length:Int)=C+C * (rest.length:Int):=by rw [List.length_cons];push_cast;rw [Int.mul_add];omega
  have hpos:0≤C * (rest.length:Int):=Int.mul_nonneg hC (by omega);simp only [List.length_cons] at hk;have hlen:(pre++mAll m nx a (x :: rest)).length=(pre++x :: rest).length:=by simp [mAll_length]
  rw [hstep k _ x a _ (by omega) (by omega) (by rw [hlen];simp;omega) (by rw [hlen];omega) h0 (by omega) hox hx];have hs:pre++mAll m nx a (x :: rest)=(pre++[m a x])++mAll m nx (nx a x) rest:=by simp [mAll]
  have hp:((pre.length:Int)+1)=((pre++[m a x]).length:Int):=by simp
  rw [hs,hp,held_loop F m nx z D C B hC ok hnx hstep hend rest (pre++[m a x]) k (nx a x) (by omega) (by simp at hl ⊢;omega) (by omega) (by omega) (fun y hy=>ho y (List.mem_cons_of_mem _ hy))];rfl
def mNum (a:Int) (_:Int):Int:=a
def nNum (a:Int) (_:Int):Int:=a+1
theorem nNum_b (l:List Int) (a:Int):a≤nAll nNum a l∧nAll nNum a l≤a+1 * (l.length:Int):=nAll_bound l a (fun x _ b=>by unfold nNum;omega)
theorem fill_loop {α β:Type} (F:Nat→List α→List β→Int→Option (List β)) (cv:α→β) (z:α) (l:List α) (D:Nat)
 (hstep:∀ k x i,D≤k→0≤i→i < (l.length:Int)→x.length=l.length→F (k+1) l x i=F k l (x.set i.toNat (cv (l.getD i.toNat z))) (i+1))
 (hend:∀ k x i,(l.length:Int)≤i→F (k+1) l x i=some x) :
 ∀ (n k:Nat) (x:List β) (i:Nat),i+n=l.length→n+D < k→x.length=l.length→x.take i=(l.map cv).take i→F k l x i=some (l.map cv)
 | 0,k,x,i,hi,hk,hx,ht=>by
  obtain ⟨m,rfl⟩:∃ m,k=m+1:=⟨k - 1,by omega⟩;rw [hend m x i (by omega)];rw [List.take_of_length_le (by omega),List.take_of_length_le (by simp;omega)] at ht;rw [ht]
 | n+1,k,x,i,hi,hk,hx,ht=>by
  obtain ⟨m,rfl⟩:∃ m,k=m+1:=⟨k - 1,by omega⟩;rw [hstep m x i (by omega) (by omega) (by omega) hx];refine fill_loop F cv z l D hstep hend n m _ (i+1) (by omega) (by omega) (by simpa using hx) ?_;have hxi:i < x.length:=by omega
  have hli:i < l.length:=by omega
  simp only [Int.toNat_natCast];rw [List.take_add_one,List.take_add_one,List.take_set,ht,List.getElem?_set_self (by omega),List.getElem?_map,List.getElem?_eq_getElem hli,List.getD_eq_getElem?_getD,List.getElem?_eq_getElem hli];rw [List.set_eq_of_length_le (by simp;omega)];simp
end Go.Proofs.YtcblmhpebijmaaaDoor.Q
namespace Go.Proofs.YtcblmhpebijmaaaDoor.Q
open Go.RowKit Go.Proofs.YtcblmhpebijmaaaDoorW.PrintWords Go.Proofs.YtcblmhpebijmaaaDoorW.PrintLast Go.Proofs.YtcblmhpebijmaaaDoorW.PrintMore
attribute [local go_sem] max2_int min2_int max_two min_two max_three min_three max_four min_four
set_option linter.unusedVariables false
set_option linter.unusedSimpArgs false
set_option maxRecDepth 100000 in
theorem impl_amount.to (a:Int) (w:World):Calls Tryd.prog 44 #[.int .i64 a] w fun e w'=>e = .returned (.bool (inB a (-100000000000) 100000000000))∧w'=w:=by
 go_enter Tryd.func44,Tryd.ntmps44
 go_wp2_with fail
 refine (impl_between.to a (-100000000000) 100000000000 _).mono ?_;rintro e w' ⟨rfl,rfl⟩
 go_wp2_with fail
 go_ret
 exact ⟨rfl,rfl⟩
noncomputable def impl_factor.f (a0:Int):Option (Bool):=(impl_between.f a0 0 10000000).bind fun t26001=>(some t26001)
set_option maxHeartbeats 8000000 in
set_option maxRecDepth 100000 in
theorem impl_factor.calls (a0:Int) (r:Bool) (w:World) (h:impl_factor.f a0=some r) :
 Calls Tryd.prog 25 #[.int .i64 a0] w fun e w'=>e = .returned (.bool r)∧Drawn0 w w':=by
 have H:((impl_between.f a0 0 10000000).bind fun t26001=>(some t26001))=some r:=h;clear h;replace H:=Option.bind_eq_some_iff.mp H;obtain ⟨t26001,A20,H⟩:=H;replace H:(some t26001)=some r:=H;have A2:=Aside0.mk A20;clear A20;obtain rfl:=Option.some.inj H
 go_enter Tryd.func25,Tryd.ntmps25
 go_wp2_with (first | ((with_reducible refine gate_callee (f:=26) rfl ?_);refine goesL_ (some 4) rfl rfl Tryd.func26 (by kernel_rfl) rfl #[.int .i64 a0,.int .i64 0,.int .i64 10000000] rfl (by (try simp only [List.map_toArray,List.map_cons,List.map_nil]);first | done | rfl | (simp only [List.length_drop,List.length_take];rfl)) ?_;(with_reducible refine (impl_between.calls a0 0 10000000 t26001 _ A2.out).mono ?_);rintro e w' ⟨rfl,⟨nd,rfl⟩⟩;refine ⟨_,rfl,?_⟩))
 go_ret
 exact ⟨by first | rfl | (simp;done) | (simp [*];done),by repeat (first | exact Drawn0.refl _ | apply Drawn0.step)⟩
set_option maxHeartbeats 4000000 in
set_option maxRecDepth 100000 in
theorem laws_eqDueS.calls (A0:Option Addr) (c0:Nat) (l0:List (S50)) (A1:Option Addr) (c1:Nat) (l1:List (S50)) (w:World) (hr0:Kd.C k50 w A0 l0.length l0) (hr1:Kd.C k50 w A1 l1.length l1) :
 Calls Tryd.prog 10 #[.slice A0 l0.length c0,.slice A1 l1.length c1] w fun e w'=>e = .returned (.bool (same l0 l1))∧Below w.heap.size w w':=by
 have hl:=hr0.2.1;have hm:=hr1.2.1;have H0:=Aside0.mk hr0;have H1:=Aside0.mk hr1;clear hr0 hr1;by_cases hlen:l0.length=l1.length
 ·have hlb:((l0.length:Int) != (l1.length:Int))=false:=by rw [hlen];simp
  have HL:=Aside0.mk hlen;clear hlen
  go_enter Tryd.func10,Tryd.ntmps10
  go_wp2
  go_loopw [5] (fun v wr=>∃ i:Int,0≤i∧i≤(l0.length:Int)∧v = .int .i64 i∧Aside0 (Below w.heap.size w wr)∧Aside0 (l0.take i.toNat=l1.take i.toNat)) (fun v _=>(l0.length - (intOf v).toNat))
  case atStart=>exact ⟨0,by omega,by omega,rfl,⟨Below.refl _ _⟩,⟨rfl⟩⟩
  case round =>
   obtain ⟨i,hi0,hi1,rfl,HB,HT⟩:=hrel;by_cases hlt:i < (l0.length:Int)
   ·have hlt2:i < (l1.length:Int):=by have:=HL.out;omega
    obtain ⟨ad,ead,adx0,adx1⟩:=at_T50 (Kd.C_below H0.out HB.out) i hi0 hlt;obtain ⟨bd,ebd,bdx0,bdx1⟩:=at_T50 (Kd.C_below H1.out HB.out) i hi0 hlt2;cases ead;cases ebd
    go_wp2
    go_region_held3 (fun w'=>w'.cell? (ad.add (i.toNat * 2))=some (.int .i64 (rd_T50 l0 i).f0)∧w'.cell? ⟨(ad.add (i.toNat * 2)).block,(ad.add (i.toNat * 2)).off+1,none⟩=some (.int .i64 (rd_T50 l0 i).f1)∧w'.cell? (bd.add (i.toNat * 2))=some (.int .i64 (rd_T50 l1 i).f0)∧w'.cell? ⟨(bd.add (i.toNat * 2)).block,(bd.add (i.toNat * 2)).off+1,none⟩=some (.int .i64 (rd_T50 l1 i).f1)) ((first | go_keep | exact ⟨pw_cell_below hb (by assumption),pw_cell_below hb (by assumption),pw_cell_below hb (by assumption),pw_cell_below hb (by assumption)⟩))
     ((go_at_call 31;refine (laws_eqDue.calls (rd_T50 l0 i).f0 (rd_T50 l0 i).f1 (rd_T50 l1 i).f0 (rd_T50 l1 i).f1 _ ).mono ?_;rintro e w2 ⟨rfl,hb⟩))
    have HB2:=Aside0.mk (below_into (w:=w) hb (by repeat (first | exact HB.out | refine y01 ?_)));clear hb;by_cases he:rd_T50 l0 i=rd_T50 l1 i
    ·rw [← same_true (show ((⟨(rd_T50 l0 i).f0,(rd_T50 l0 i).f1⟩:S50):S50)=(⟨(rd_T50 l1 i).f0,(rd_T50 l1 i).f1⟩:S50) from he)]
     go_wp2
     go_roundw
     case rel=>exact ⟨i+1,by omega,by omega,rfl,HB2,⟨take_step hi0 hlt hlt2 HT.out he⟩⟩
     case measure=>simp [intOf];omega
    ·rw [← same_false (show ((⟨(rd_T50 l0 i).f0,(rd_T50 l0 i).f1⟩:S50):S50)=(⟨(rd_T50 l1 i).f0,(rd_T50 l1 i).f1⟩:S50)→False from he)]
     go_wp2
     go_ret
     exact ⟨ret_bool (same_false (fun h=>he (by rw [h]))),HB2.out⟩
   ·go_wp2
    go_ret
    exact ⟨ret_bool (same_true (take_end HL.out hlt HT.out)),HB.out⟩
 ·go_enter Tryd.func10,Tryd.ntmps10
  go_wp2
  go_ret
  exact ⟨ret_bool (same_false (fun h=>hlen (by rw [h]))),Below.refl _ _⟩
noncomputable def laws_markCal.f (k:Nat) (a0_0:Int) (l0_1:List Int) (a1:Int):Option (Int × List Int):=(laws_markIntS.f k l0_1 a1).bind fun bt15002=>(some (bt15002.1,bt15002.2))
set_option maxHeartbeats 8000000 in
set_option maxRecDepth 100000 in
theorem laws_markCal.calls (k:Nat) (a0_0:Int) (P0_1_:Nat→Prop) (u9000_:Value) (l0_1:List Int) (a1:Int) (r1:Int) (r2:List Int) (w0 w:World) (hB:Below w0.heap.size w0 w) (ho0_1:Kd.R (Kd.int .i64) 3 w w0.heap.size P0_1_ u9000_ l0_1) (h:laws_markCal.f k a0_0 l0_1 a1=some (r1,r2)) :
 Calls Tryd.prog 14 #[.agg #[.int .i64 a0_0,u9000_],.int .i64 a1] w fun e w'=>e = .returned (.int .i64 r1)∧Kd.R (Kd.int .i64) 3 w' w0.heap.size (fun k_=>(P0_1_ k_∨w.heap.size≤k_)) u9000_ r2∧Below w0.heap.size w0 w'∧Kept w w' (fun k_=>P0_1_ k_):=by
 have hu32:=Tryd.underlying32;have HO0_1:=Aside0.mk (show Kd.R (Kd.int .i64) 3 w w0.heap.size (fun k_=>(P0_1_ k_∨w.heap.size≤k_)) u9000_ l0_1 from Kd.R_mono ho0_1 (fun k_ hk=>(.inl hk)));have HK:=Aside0.mk (Kept.refl w (fun k_=>P0_1_ k_));have HW0:=Aside0.mk hB.size;have HB:=Aside0.mk hB;clear hB;have H:((laws_markIntS.f k l0_1 a1).bind fun bt15002=>(some (bt15002.1,bt15002.2)))=some (r1,r2):=h;clear h;replace H:=Option.bind_eq_some_iff.mp H;obtain ⟨⟨t15002,t15003⟩,A30,H⟩:=H;replace H:(some (t15002,t15003))=some (r1,r2):=H;have A3:=Aside0.mk A30;clear A30;simp only [Option.some.injEq,Prod.mk.injEq] at H;obtain ⟨rfl,rfl⟩:=H;obtain ⟨Ao4,co4,eo4⟩:=Kd.R_slice HO0_1.out;subst eo4
 go_enter Tryd.func14,Tryd.ntmps14
 go_wp2_with (first | ((with_reducible refine gate_dst (N:=2) rfl ?_);refine box_event ?hg (N:=2) ?hd (cs:=#[.int .i64 a0_0,.slice Ao4 l0_1.length co4]) (t:=32) ?hr ?_;(case hd=>rfl);(case hg=>rfl);(case hr=>first | (go_simp;done) | (go_simp;rfl));intro gb15001 hg w5 hbox hb;have n0_:=Aside0.mk (Kd.R_below (by (with_reducible repeat (first | apply Kd.R_alloc | apply Kd.R_drewN | apply Kd.R_drew));exact HO0_1.out) hb);have n1_:=Aside0.mk (Kept.below (S:=(fun k_=>P0_1_ k_)) (by repeat (first | (with_reducible first | exact HK.out | apply Kept.alloc | apply Kept.drewN | apply Kept.drew) | exact HK.out)) hb);have n2_:=Aside0.mk (below_step (by repeat (first | (with_reducible first | exact HB.out | apply y02 | apply y00 | apply y01) | exact HB.out)) hb);have n3_:=Aside0.mk (hbox);have n4_:=Aside0.mk ((by rw [hg];exact (by first | exact HK.out.1 | exact (show Kept w _ (fun k_=>P0_1_ k_) from by repeat (first | (with_reducible first | exact HK.out | apply Kept.alloc | apply Kept.drewN | apply Kept.drew) | exact HK.out)).1):w.heap.size≤gb15001));have n5_:=Aside0.mk ((by rw [hg];exact (below_size (by repeat (first | (with_reducible first | exact HB.out | apply y02 | apply y00 | apply y01) | exact HB.out))):w0.heap.size≤gb15001));clear HO0_1;clear HK;clear HB;have HO0_1:=n0_;have HK:=n1_;have HB:=n2_;have BK15001:=n3_;have GW15001:=n4_;have GE15001:=n5_;clear n0_ n1_ n2_ n3_ n4_ n5_;clear hb hbox hg;have hcz6_0:w5.cell? ⟨gb15001,0,none⟩=some (.int .i64 a0_0):=(blk_cell BK15001.out 0).trans rfl;have hcz6_1:w5.cell? ⟨gb15001,1,none⟩=some (.slice Ao4 l0_1.length co4):=(blk_cell BK15001.out 1).trans rfl;have hfz6_0:=y04 BK15001.out 0;have hfz6_1:=y04 BK15001.out 1) | ((with_reducible refine gate_callee (f:=34) rfl ?_);refine goesL_ (some 8) rfl rfl Tryd.func34 (by kernel_rfl) rfl #[.slice Ao4 l0_1.length co4,.int .i64 a1] rfl (by (try simp only [List.map_toArray,List.map_cons,List.map_nil]);first | done | rfl | (simp only [List.length_drop,List.length_take];rfl)) ?_;(with_reducible refine (laws_markIntS.calls k (fun k_=>some k_=(.slice Ao4 l0_1.length co4:Value).ownBlock) (.slice Ao4 l0_1.length co4) l0_1 a1 t15002 t15003 w0 _ ?side1 ?side2 A3.out).mono ?_);(case side1=>repeat (first | (with_reducible first | exact HB.out | apply y02 | apply y00 | apply y01 | refine y03 ?_ GE15001.out) | exact HB.out));(case side2=>exact Kd.R_tight rfl HO0_1.out);rintro e w7 ⟨rfl,hy0,hb,hkp⟩;refine ⟨_,rfl,?_⟩;have n0_:=Aside0.mk (Kd.R_reok rfl hy0 (fun k_ e_=>HO0_1.out.1 k_ e_));have n1_:=Aside0.mk (blk_kept (by (with_reducible repeat (first | refine y06 ?_ _ | refine blk_drew ?_ | refine y05 ?_ _));exact BK15001.out) hkp (fun hs_=>(fun e_=>(Kd.R_ne HO0_1.out BK15001.out (by decide)) e_) hs_));have n2_:=Aside0.mk (Kept.then_ (S:=(fun k_=>P0_1_ k_)) (by repeat (first | (with_reducible first | exact HK.out | apply Kept.alloc | apply Kept.drewN | apply Kept.drew | refine Kept.setCell ?_ (.inr GW15001.out) _) | exact HK.out)) hkp (fun k_ hs_=>(fun e_=>(HO0_1.out.1 k_ e_.symm)) hs_));have n3_:=Aside0.mk (hb);clear HO0_1;clear BK15001;clear HK;clear HB;have HO0_1:=n0_;have BK15001:=n1_;have HK:=n2_;have HB:=n3_;clear n0_ n1_ n2_ n3_;(try clear hb);(try clear hkp);(try clear hy0)))
 go_ret
 exact ⟨by first | rfl | (simp [errW_none,errW_some] <;> rfl) | (simp [*,errW_none,errW_some] <;> rfl),by (with_reducible repeat (first | apply Kd.R_alloc | apply Kd.R_drewN | apply Kd.R_drew));exact HO0_1.out,by repeat (first | (with_reducible first | exact HB.out | apply y02 | apply y00 | apply y01 | refine y03 ?_ GE15001.out) | exact HB.out),by repeat (first | (with_reducible first | exact HK.out | apply Kept.alloc | apply Kept.drewN | apply Kept.drew | refine Kept.setCell ?_ (.inr GW15001.out) _) | exact HK.out)⟩
noncomputable def laws_toCal.f (k:Nat) (a0_0:Int) (l0_1:List Int):Option (Int × List Int):=(laws_toIntS.f k l0_1).bind fun t9004=>(some (a0_0,t9004))
set_option maxHeartbeats 8000000 in
set_option maxRecDepth 100000 in
theorem laws_toCal.calls (k:Nat) (a0_0:Int) (A0_1:Option Addr) (c0_1:Nat) (l0_1:List Int) (r1:Int) (r2:List Int) (w:World) (hr0_1:Kd.C (Kd.int .i64) w A0_1 l0_1.length l0_1) (hc0_1:l0_1.length≤c0_1) (h:laws_toCal.f k a0_0 l0_1=some (r1,r2)) :
 Calls Tryd.prog 8 #[.agg #[.int .i64 a0_0,.slice A0_1 l0_1.length c0_1]] w fun e w'=>∃ v1_:Value,e = .returned (.agg #[.int .i64 r1,v1_])∧Kd.R (Kd.int .i64) 3 w' w.heap.size (fun _=>True) v1_ r2∧Below w.heap.size w w':=by
 have hu25:=Tryd.underlying25;have hu32:=Tryd.underlying32;have HR0_1:=Aside0.mk hr0_1;have HC0_1:=Aside0.mk hc0_1;clear hr0_1 hc0_1;have HB:=Aside0.mk (Below.refl w.heap.size w);have H:((laws_toIntS.f k l0_1).bind fun t9004=>(some (a0_0,t9004)))=some (r1,r2):=h;clear h;replace H:=Option.bind_eq_some_iff.mp H;obtain ⟨t9004,A20,H⟩:=H;replace H:(some (a0_0,t9004))=some (r1,r2):=H;have A2:=Aside0.mk A20;clear A20;simp only [Option.some.injEq,Prod.mk.injEq] at H;obtain ⟨rfl,rfl⟩:=H
 go_enter Tryd.func8,Tryd.ntmps8
 go_wp2_with (first | ((with_reducible refine gate_dst (N:=1) rfl ?_);refine box_event ?hg (N:=1) ?hd (cs:=#[.int .i64 a0_0,.slice A0_1 l0_1.length c0_1]) (t:=25) ?hr ?_;(case hd=>rfl);(case hg=>rfl);(case hr=>first | (go_simp;done) | (go_simp;rfl));intro gb9001 hg w3 hbox hb;have n0_:=Aside0.mk (below_step (by repeat (first | (with_reducible first | exact HB.out | apply y02 | apply y00 | apply y01) | exact HB.out)) hb);have n1_:=Aside0.mk (hbox);have n2_:=Aside0.mk ((by rw [hg];exact (below_size (by repeat (first | (with_reducible first | exact HB.out | apply y02 | apply y00 | apply y01) | exact HB.out))):w.heap.size≤gb9001));have n3_:=Aside0.mk ((by rw [hg];exact (below_size (by repeat (first | (with_reducible first | exact HB.out | apply y02 | apply y00 | apply y01) | exact HB.out))):w.heap.size≤gb9001));clear HB;have HB:=n0_;have BK9001:=n1_;have GW9001:=n2_;have GE9001:=n3_;clear n0_ n1_ n2_ n3_;clear hb hbox hg) | ((with_reducible refine gate_dst (N:=2) rfl ?_);refine box_event ?hg (N:=2) ?hd (cs:=#[.int .i64 0,.slice none 0 0]) (t:=32) ?hr ?_;(case hd=>rfl);(case hg=>rfl);(case hr=>first | (go_simp;done) | (go_simp;rfl));intro gb9002 hg w4 hbox hb;have n0_:=Aside0.mk (blk_below (g:=gb9001) (o:=.cells #[.int .i64 a0_0,.slice A0_1 l0_1.length c0_1] 25 (0,0)) (by (with_reducible repeat (first | refine y06 ?_ _ | refine blk_drew ?_ | refine y05 ?_ _));exact BK9001.out) hb);have n1_:=Aside0.mk (below_step (by repeat (first | (with_reducible first | exact HB.out | apply y02 | apply y00 | apply y01 | refine y03 ?_ GE9001.out) | exact HB.out)) hb);have n2_:=Aside0.mk (hbox);have n3_:=Aside0.mk ((by rw [hg];exact (below_size (by repeat (first | (with_reducible first | exact HB.out | apply y02 | apply y00 | apply y01 | refine y03 ?_ GE9001.out) | exact HB.out))):w.heap.size≤gb9002));have n4_:=Aside0.mk ((by rw [hg];exact (below_size (by repeat (first | (with_reducible first | exact HB.out | apply y02 | apply y00 | apply y01 | refine y03 ?_ GE9001.out) | exact HB.out))):w.heap.size≤gb9002));have n5_:=Aside0.mk ((by rw [hg];exact Nat.ne_of_lt (blk_lt (g:=gb9001) (o:=.cells #[.int .i64 a0_0,.slice A0_1 l0_1.length c0_1] 25 (0,0)) (by (with_reducible repeat (first | refine y06 ?_ _ | refine blk_drew ?_ | refine y05 ?_ _));exact BK9001.out)):gb9001≠gb9002));have n6_:=Aside0.mk ((by rw [hg];exact Nat.ne_of_gt (blk_lt (g:=gb9001) (o:=.cells #[.int .i64 a0_0,.slice A0_1 l0_1.length c0_1] 25 (0,0)) (by (with_reducible repeat (first | refine y06 ?_ _ | refine blk_drew ?_ | refine y05 ?_ _));exact BK9001.out)):gb9002≠gb9001));clear BK9001;clear HB;have BK9001:=n0_;have HB:=n1_;have BK9002:=n2_;have GW9002:=n3_;have GE9002:=n4_;have NB9001_9002:=n5_;have NB9002_9001:=n6_;clear n0_ n1_ n2_ n3_ n4_ n5_ n6_;clear hb hbox hg) | ((with_reducible refine gate_dst (N:=3) rfl ?_);refine box_event ?hg (N:=3) ?hd (cs:=#[.int .i64 0,.slice none 0 0]) (t:=32) ?hr ?_;(case hd=>rfl);(case hg=>rfl);(case hr=>first | (go_simp;done) | (go_simp;rfl));intro gb9003 hg w5 hbox hb;have n0_:=Aside0.mk (blk_below (g:=gb9001) (o:=.cells #[.int .i64 a0_0,.slice A0_1 l0_1.length c0_1] 25 (0,0)) (by (with_reducible repeat (first | refine y06 ?_ _ | refine blk_drew ?_ | refine y05 ?_ _));exact BK9001.out) hb);have n1_:=Aside0.mk (blk_below (g:=gb9002) (o:=.cells #[.int .i64 0,.slice none 0 0] 32 (0,0)) (by (with_reducible repeat (first | refine y06 ?_ _ | refine blk_drew ?_ | refine y05 ?_ _));exact BK9002.out) hb);have n2_:=Aside0.mk (below_step (by repeat (first | (with_reducible first | exact HB.out | apply y02 | apply y00 | apply y01 | refine y03 ?_ GE9001.out | refine y03 ?_ GE9002.out) | exact HB.out)) hb);have n3_:=Aside0.mk (hbox);have n4_:=Aside0.mk ((by rw [hg];exact (below_size (by repeat (first | (with_reducible first | exact HB.out | apply y02 | apply y00 | apply y01 | refine y03 ?_ GE9001.out | refine y03 ?_ GE9002.out) | exact HB.out))):w.heap.size≤gb9003));have n5_:=Aside0.mk ((by rw [hg];exact (below_size (by repeat (first | (with_reducible first | exact HB.out | apply y02 | apply y00 | apply y01 | refine y03 ?_ GE9001.out | refine y03 ?_ GE9002.out) | exact HB.out))):w.heap.size≤gb9003));have n6_:=Aside0.mk ((by rw [hg];exact Nat.ne_of_lt (blk_lt (g:=gb9001) (o:=.cells #[.int .i64 a0_0,.slice A0_1 l0_1.length c0_1] 25 (0,0)) (by (with_reducible repeat (first | refine y06 ?_ _ | refine blk_drew ?_ | refine y05 ?_ _));exact BK9001.out)):gb9001≠gb9003));have n7_:=Aside0.mk ((by rw [hg];exact Nat.ne_of_gt (blk_lt (g:=gb9001) (o:=.cells #[.int .i64 a0_0,.slice A0_1 l0_1.length c0_1] 25 (0,0)) (by (with_reducible repeat (first | refine y06 ?_ _ | refine blk_drew ?_ | refine y05 ?_ _));exact BK9001.out)):gb9003≠gb9001));have n8_:=Aside0.mk ((by rw [hg];exact Nat.ne_of_lt (blk_lt (g:=gb9002) (o:=.cells #[.int .i64 0,.slice none 0 0] 32 (0,0)) (by (with_reducible repeat (first | refine y06 ?_ _ | refine blk_drew ?_ | refine y05 ?_ _));exact BK9002.out)):gb9002≠gb9003));have n9_:=Aside0.mk ((by rw [hg];exact Nat.ne_of_gt (blk_lt (g:=gb9002) (o:=.cells #[.int .i64 0,.slice none 0 0] 32 (0,0)) (by (with_reducible repeat (first | refine y06 ?_ _ | refine blk_drew ?_ | refine y05 ?_ _));exact BK9002.out)):gb9003≠gb9002));clear BK9001;clear BK9002;clear HB;have BK9001:=n0_;have BK9002:=n1_;have HB:=n2_;have BK9003:=n3_;have GW9003:=n4_;have GE9003:=n5_;have NB9001_9003:=n6_;have NB9003_9001:=n7_;have NB9002_9003:=n8_;have NB9003_9002:=n9_;clear n0_ n1_ n2_ n3_ n4_ n5_ n6_ n7_ n8_ n9_;clear hb hbox hg;have hnb6:=NB9001_9002.out;have hnc6:=NB9002_9001.out;have hnb7:=NB9001_9003.out;have hnc7:=NB9003_9001.out;have hcz8_0:w5.cell? ⟨gb9001,0,none⟩=some (.int .i64 a0_0):=(blk_cell BK9001.out 0).trans rfl;have hcz8_1:w5.cell? ⟨gb9001,1,none⟩=some (.slice A0_1 l0_1.length c0_1):=(blk_cell BK9001.out 1).trans rfl;have hfz8_0:=y04 BK9001.out 0;have hfz8_1:=y04 BK9001.out 1;have hnb9:=NB9003_9002.out;have hnc9:=NB9002_9003.out;have hcz10_0:w5.cell? ⟨gb9003,0,none⟩=some (.int .i64 0):=(blk_cell BK9003.out 0).trans rfl;have hcz10_1:w5.cell? ⟨gb9003,1,none⟩=some (.slice none 0 0):=(blk_cell BK9003.out 1).trans rfl;have hfz10_0:=y04 BK9003.out 0;have hfz10_1:=y04 BK9003.out 1) | ((with_reducible refine gate_callee (f:=24) rfl ?_);refine goesL_ (some 9) rfl rfl Tryd.func24 (by kernel_rfl) rfl #[.slice A0_1 l0_1.length c0_1] rfl (by (try simp only [List.map_toArray,List.map_cons,List.map_nil]);first | done | rfl | (simp only [List.length_drop,List.length_take];rfl)) ?_;(with_reducible refine (laws_toIntS.calls k _ _ l0_1 t9004 _ ?side1 ?side2 A2.out).mono ?_);(case side1=>exact Kd.C_below HR0_1.out (by repeat (first | (with_reducible first | exact HB.out | apply y02 | apply y00 | apply y01 | refine y03 ?_ GE9001.out | refine y03 ?_ GE9002.out | refine y03 ?_ GE9003.out) | exact HB.out)));(case side2=>exact HC0_1.out);rintro e w11 ⟨v9005,rfl,ho0,hb⟩;refine ⟨_,rfl,?_⟩;have n0_:=Aside0.mk (Kd.R_lower ho0 (below_size (by repeat (first | (with_reducible first | exact HB.out | apply y02 | apply y00 | apply y01 | refine y03 ?_ GE9001.out | refine y03 ?_ GE9002.out | refine y03 ?_ GE9003.out) | exact HB.out))));have n1_:=Aside0.mk (blk_below (g:=gb9001) (o:=.cells #[.int .i64 a0_0,.slice A0_1 l0_1.length c0_1] 25 (0,0)) (by (with_reducible repeat (first | refine y06 ?_ _ | refine blk_drew ?_ | refine y05 ?_ _));refine blk_far ?_ NB9001_9003.out _;(with_reducible repeat (first | refine y06 ?_ _ | refine blk_drew ?_ | refine y05 ?_ _));exact BK9001.out) hb);have n2_:=Aside0.mk (blk_below (g:=gb9002) (o:=.cells #[.int .i64 0,.slice none 0 0] 32 (0,0)) (by (with_reducible repeat (first | refine y06 ?_ _ | refine blk_drew ?_ | refine y05 ?_ _));refine blk_far ?_ NB9002_9003.out _;(with_reducible repeat (first | refine y06 ?_ _ | refine blk_drew ?_ | refine y05 ?_ _));exact BK9002.out) hb);have n3_:=Aside0.mk (blk_below (g:=gb9003) (o:=.cells #[.int .i64 a0_0,.slice none 0 0] 32 (0,0)) (by (with_reducible repeat (first | refine y06 ?_ _ | refine blk_drew ?_ | refine y05 ?_ _));refine blk_put (cs:=#[.int .i64 0,.slice none 0 0]) ?_ 0 _ rfl;(with_reducible repeat (first | refine y06 ?_ _ | refine blk_drew ?_ | refine y05 ?_ _));exact BK9003.out) hb);have n4_:=Aside0.mk (below_step (by repeat (first | (with_reducible first | exact HB.out | apply y02 | apply y00 | apply y01 | refine y03 ?_ GE9001.out | refine y03 ?_ GE9002.out | refine y03 ?_ GE9003.out) | exact HB.out)) hb);clear BK9001;clear BK9002;clear BK9003;clear HB;have HO9006:=n0_;have BK9001:=n1_;have BK9002:=n2_;have BK9003:=n3_;have HB:=n4_;clear n0_ n1_ n2_ n3_ n4_;(try clear hb);(try clear hb2);(try clear hk);(try clear hi);(try clear ho0);obtain ⟨Ao12,co12,eo12⟩:=Kd.R_slice HO9006.out;subst eo12;have hcz13_0:w11.cell? ⟨gb9003,0,none⟩=some (.int .i64 a0_0):=(blk_cell BK9003.out 0).trans rfl;have hcz13_1:w11.cell? ⟨gb9003,1,none⟩=some (.slice none 0 0):=(blk_cell BK9003.out 1).trans rfl;have hfz13_0:=y04 BK9003.out 0;have hfz13_1:=y04 BK9003.out 1;have hcz14_0:w11.cell? ⟨gb9002,0,none⟩=some (.int .i64 0):=(blk_cell BK9002.out 0).trans rfl;have hcz14_1:w11.cell? ⟨gb9002,1,none⟩=some (.slice none 0 0):=(blk_cell BK9002.out 1).trans rfl;have hfz14_0:=y04 BK9002.out 0;have hfz14_1:=y04 BK9002.out 1))
 refine bodyPost_ret (results_cell_row rfl _ _ gb9002 32 #[.int .i64 a0_0,.slice Ao12 t9004.length co12] (0,0) _ rfl (by (with_reducible repeat (first | refine y06 ?_ _ | refine blk_drew ?_ | refine y05 ?_ _));refine blk_put (cs:=#[.int .i64 a0_0,.slice none 0 0]) ?_ 1 _ rfl;(with_reducible repeat (first | refine y06 ?_ _ | refine blk_drew ?_ | refine y05 ?_ _));refine blk_put (cs:=#[.int .i64 0,.slice none 0 0]) ?_ 0 _ rfl;(with_reducible repeat (first | refine y06 ?_ _ | refine blk_drew ?_ | refine y05 ?_ _));refine blk_far ?_ NB9002_9003.out _;(with_reducible repeat (first | refine y06 ?_ _ | refine blk_drew ?_ | refine y05 ?_ _));exact BK9002.out) Tryd.underlying32 rfl (by kernel_rfl)) rfl ?_;exact ⟨_,by first | rfl | (simp [errW_none,errW_some] <;> rfl) | (simp [*,errW_none,errW_some] <;> rfl),by (with_reducible repeat (first | apply Kd.R_alloc | apply Kd.R_drewN | apply Kd.R_drew));exact Kd.R_mono (Kd.R_far (p:=⟨gb9002,1,none⟩) (Kd.R_far (p:=⟨gb9002,0,none⟩) (Kd.R_far (p:=⟨gb9003,1,none⟩) (Kd.R_types (Kd.R_types HO9006.out BK9003.out (by decide)) BK9002.out (by decide)) (fun _ hk=>hk.1.2) (.slice Ao12 t9004.length co12)) (fun _ hk=>hk.2) (.int .i64 a0_0)) (fun _ hk=>hk.2) (.slice Ao12 t9004.length co12)) (fun _ hk=>trivial),by repeat (first | (with_reducible first | exact HB.out | apply y02 | apply y00 | apply y01 | refine y03 ?_ GE9001.out | refine y03 ?_ GE9002.out | refine y03 ?_ GE9003.out) | exact HB.out)⟩
end Go.Proofs.YtcblmhpebijmaaaDoor.Q
