/- Parts of the proof: what functions of the program and of the reference answer.
   No condition. -/
import Derived.Test.YtcblmhpebijmaaaDoorZDues1
import Derived.Test.YtcblmhpebijmaaaDoorZDues5
import Derived.Test.YtcblmhpebijmaaaDoorZDues2
import Derived.Test.YtcblmhpebijmaaaDoorZDues3
import Derived.Test.YtcblmhpebijmaaaDoorZDues6
import Derived.Test.YtcblmhpebijmaaaDoorZDues4
import Derived.Test.YtcblmhpebijmaaaDoorZDues8
namespace Go.Proofs.YtcblmhpebijmaaaDoor.Q
open Go.RowKit Go.Proofs.YtcblmhpebijmaaaDoorW.PrintWords Go.Proofs.YtcblmhpebijmaaaDoorW.PrintLast Go.Proofs.YtcblmhpebijmaaaDoorW.PrintMore
set_option linter.unusedVariables false
set_option linter.unusedSimpArgs false
def cvPart (x:S52):S43:=⟨x.f0,x.f1,x.f2,x.f3⟩
theorem laws_toPayPartS_is (l:List S52) (k:Nat) (hl:l.length≤1048576) (hk:l.length < k):laws_toPayPartS.f k l=some (l.map cvPart):=by
 unfold laws_toPayPartS.f;rw [if_pos (by omega),if_pos (by omega)]
 exact fill_loop laws_toPayPartS.l0 cvPart z52 l 0 (fun k x i _ h0 h1 hx=>by
  simp only [laws_toPayPartS.l0];rw [if_pos h1,if_pos h0];simp only [laws_toPayPart.f,Option.bind_some];rw [if_pos (by omega),show wrap64 (i+1)=i+1 by unfold wrap64;omega]
  rfl) (fun k x i h=>by simp only [laws_toPayPartS.l0];rw [if_neg (by omega)]) l.length k _ 0 (by omega) (by omega) (by simp) (by simp)
theorem laws_toIntS_is (l:List Int) (k:Nat) (hl:l.length≤1048576) (hk:l.length < k):laws_toIntS.f k l=some l:=by
 unfold laws_toIntS.f;rw [if_pos (by omega),if_pos (by omega)]
 have:=fill_loop laws_toIntS.l0 id (0:Int) l 0 (fun k x i _ h0 h1 hx=>by
  simp only [laws_toIntS.l0];rw [if_pos h1,if_pos h0,if_pos (by omega),show wrap64 (i+1)=i+1 by unfold wrap64;omega]
  rfl) (fun k x i h=>by simp only [laws_toIntS.l0];rw [if_neg (by omega)]) l.length k (List.replicate ((l.length:Int):Int).toNat 0) 0 (by omega) (by omega) (by simp) (by simp)
 rw [List.map_id] at this;exact this
theorem laws_toCal_is (off:Int) (l:List Int) (k:Nat) (hl:l.length≤1048576) (hk:l.length < k):laws_toCal.f k off l=some (off,l):=by
 unfold laws_toCal.f;rw [laws_toIntS_is l k hl hk];rfl
def mPart (a:Int) (_:S43):S43:=⟨a,a+1,Int.tmod (a+1+1) 3 == 0,a+1+1+1⟩
def nPart (a:Int) (_:S43):Int:=a+1+1+1+1
def mDue (a:Int) (_:S50):S50:=⟨a,a+1⟩
def nDue (a:Int) (_:S50):Int:=a+1+1
theorem rdset43 {x:List S43} {i:Int} {v:S43} (h:i < (x.length:Int)) (h0:0≤i):rd_T43 (x.set i.toNat v) i=v:=by
 unfold rd_T43;rw [List.getD_eq_getElem?_getD,List.getElem?_set_self (by omega)];rfl
theorem rdset50 {x:List S50} {i:Int} {v:S50} (h:i < (x.length:Int)) (h0:0≤i):rd_T50 (x.set i.toNat v) i=v:=by
 unfold rd_T50;rw [List.getD_eq_getElem?_getD,List.getElem?_set_self (by omega)];rfl
theorem laws_markPayPartS_is (l:List S43) (k:Nat) (a:Int) (hk:l.length < k) (hl:l.length≤1048576) (h0:0≤a) (h1:a≤1000000000000000):laws_markPayPartS.f k l a=some (nAll nPart a l,mAll mPart nPart a l):=by
 have:=mark_loop laws_markPayPartS.l0 mPart nPart z43 0 4 4611686018427387000 (by omega) (fun _=>True) (fun x _ b=>by unfold nPart;omega) (fun k x a i _ hi hi2 hl h0 hB _=>by
  simp only [laws_markPayPartS.l0,Option.bind_some];rw [if_pos hi2,if_pos hi,wr1 h0 (by omega),wr1 (a:=a+1) (by omega) (by omega),wr1 (a:=a+1+1) (by omega) (by omega),wr1 (a:=a+1+1+1) (by omega) (by omega),wr1 hi (by omega)];simp only [List.set_set,rdset43 hi2 hi]
  rfl) (fun k x a i h=>by simp only [laws_markPayPartS.l0];rw [if_neg (by omega)]) l [] k a (by omega) (by simpa using hl) h0 (by omega) (fun _ _=>trivial)
 exact this
theorem laws_markIntS_is (l:List Int) (k:Nat) (a:Int) (hk:l.length < k) (hl:l.length≤1048576) (h0:0≤a) (h1:a≤1000000000000000):laws_markIntS.f k l a=some (nAll nNum a l,mAll mNum nNum a l):=by
 have:=mark_loop laws_markIntS.l0 mNum nNum (0:Int) 0 1 4611686018427387000 (by omega) (fun _=>True) (fun x _ b=>by unfold nNum;omega) (fun k x a i _ hi hi2 hl h0 hB _=>by
  simp only [laws_markIntS.l0];rw [if_pos hi2,if_pos hi,wr1 h0 (by omega),wr1 hi (by omega)]
  rfl) (fun k x a i h=>by simp only [laws_markIntS.l0];rw [if_neg (by omega)]) l [] k a (by omega) (by simpa using hl) h0 (by omega) (fun _ _=>trivial)
 exact this
theorem laws_markCal_is (off:Int) (l:List Int) (k:Nat) (a:Int) (hk:l.length < k) (hl:l.length≤1048576) (h0:0≤a) (h1:a≤1000000000000000):laws_markCal.f k off l a=some (nAll nNum a l,mAll mNum nNum a l):=by
 unfold laws_markCal.f;rw [laws_markIntS_is l k a hk hl h0 h1];rfl
theorem laws_markDueS_is (l:List S50) (k:Nat) (a:Int) (hk:l.length < k) (hl:l.length≤1048576) (h0:0≤a) (h1:a≤1000000000000000):laws_markDueS.f k l a=some (nAll nDue a l,mAll mDue nDue a l):=by
 have:=mark_loop laws_markDueS.l0 mDue nDue z50 0 2 4611686018427387000 (by omega) (fun _=>True) (fun x _ b=>by unfold nDue;omega) (fun k x a i _ hi hi2 hl h0 hB _=>by
  simp only [laws_markDueS.l0,Option.bind_some];rw [if_pos hi2,if_pos hi,wr1 h0 (by omega),wr1 (a:=a+1) (by omega) (by omega),wr1 hi (by omega)];simp only [List.set_set,rdset50 hi2 hi]
  rfl) (fun k x a i h=>by simp only [laws_markDueS.l0];rw [if_neg (by omega)]) l [] k a (by omega) (by simpa using hl) h0 (by omega) (fun _ _=>trivial)
 exact this
theorem laws_heldDueS_is (l:List S50) (k:Nat) (a:Int) (hk:l.length < k) (hl:l.length≤1048576) (h0:0≤a) (h1:a≤1000000000000000):laws_heldDueS.f k (mAll mDue nDue a l) a=some (nAll nDue a l):=by
 have:=held_loop laws_heldDueS.l0 mDue nDue z50 0 2 4611686018427387000 (by omega) (fun _=>True) (fun x _ b=>by unfold nDue;omega) (fun k y x a i _ hi hi2 hl h0 hB _ he=>by
  have he':rd_T50 y i=mDue a x:=he;simp only [laws_heldDueS.l0];rw [if_pos hi2,if_pos hi,he',if_pos (show (mDue a x).f0=a from rfl),wr1 h0 (by omega),if_pos (show (mDue a x).f1=a+1 from rfl),wr1 (a:=a+1) (by omega) (by omega),wr1 hi (by omega)]
  rfl) (fun k x a i h=>by simp only [laws_heldDueS.l0];rw [if_neg (by omega)]) l [] k a (by omega) (by simpa using hl) h0 (by omega) (fun _ _=>trivial)
 exact this
theorem nPart_b (l:List S43) (a:Int):a≤nAll nPart a l∧nAll nPart a l≤a+4 * (l.length:Int):=nAll_bound l a (fun x _ b=>by unfold nPart;omega)
theorem nDue_b (l:List S50) (a:Int):a≤nAll nDue a l∧nAll nDue a l≤a+2 * (l.length:Int):=nAll_bound l a (fun x _ b=>by unfold nDue;omega)
def wf25 (x:S25):Prop:=(Lit.int .i64 x.f0).wf=true∧(x.f1.length≤maxLen∧∀ y∈x.f1,(Lit.int .i64 y).wf=true)
end Go.Proofs.YtcblmhpebijmaaaDoor.Q
namespace Go.Proofs.YtcblmhpebijmaaaDoor.Q
open Go.RowKit Go.Proofs.YtcblmhpebijmaaaDoorW.PrintWords Go.Proofs.YtcblmhpebijmaaaDoorW.PrintLast Go.Proofs.YtcblmhpebijmaaaDoorW.PrintMore
attribute [local go_sem] max2_int min2_int max_two min_two max_three min_three max_four min_four
set_option linter.unusedVariables false
set_option linter.unusedSimpArgs false
mutual
noncomputable def impl_works.j0:Nat→Int→Bool→Int→List Int→Option (Bool)
 | 0,_,_,_,_=>none
 | k+1,x1,x20,x59002000,x59002001=>if x20=true then (some false) else (impl_works.l0 k x1 0 (x59002001.length:Int) x59002000 x59002001)
noncomputable def impl_works.l0:Nat→Int→Int→Int→Int→List Int→Option (Bool)
 | 0,_,_,_,_,_=>none
 | k+1,x1,x5,x6,x59002000,x59002001=>if x5 < x6 then (if 0≤(wrap64 (Int.tdiv (wrap64 (x5+x6)) 2)) then (if (wrap64 (Int.tdiv (wrap64 (x5+x6)) 2)) < (x59002001.length:Int) then (if (rd x59002001 (wrap64 (Int.tdiv (wrap64 (x5+x6)) 2))) < x1 then (impl_works.l0 k x1 (wrap64 ((wrap64 (Int.tdiv (wrap64 (x5+x6)) 2))+1)) x6 x59002000 x59002001) else (impl_works.l0 k x1 x5 (wrap64 (Int.tdiv (wrap64 (x5+x6)) 2)) x59002000 x59002001)) else (none)) else (none)) else (if x5=(x59002001.length:Int) then (some true) else (if 0≤x5 then (if x5 < (x59002001.length:Int) then (some ((rd x59002001 x5) != x1)) else (none)) else (none)))
end
noncomputable def impl_works.f (k:Nat) (a0_0:Int) (l0_1:List Int) (a1:Int):Option (Bool):=(impl_isDay.f a1).bind fun t59002=>(if t59002=true then ((impl_Weekday.f a1).bind fun t59003=>(if 0≤(IntKind.u64.wrap (t59003)) then (impl_works.j0 k a1 ((Go.bits .and .i64 (shr .i64 a0_0 (IntKind.u64.wrap (t59003))) 1) == 1) a0_0 l0_1) else (none))) else (impl_works.j0 k a1 true a0_0 l0_1))
set_option maxHeartbeats 8000000 in
set_option maxRecDepth 100000 in
theorem impl_works.calls (k:Nat) (a0_0:Int) (A0_1:Option Addr) (c0_1:Nat) (l0_1:List Int) (a1:Int) (r:Bool) (w:World) (hr0_1:Kd.C (Kd.int .i64) w A0_1 l0_1.length l0_1) (hc0_1:l0_1.length≤c0_1) (h:impl_works.f k a0_0 l0_1 a1=some r) :
 Calls Tryd.prog 58 #[.agg #[.int .i64 a0_0,.slice A0_1 l0_1.length c0_1],.int .i64 a1] w fun e w'=>e = .returned (.bool r)∧Below w.heap.size w w':=by
 have hu32:=Tryd.underlying32;have HR0_1:=Aside0.mk hr0_1;have HC0_1:=Aside0.mk hc0_1;clear hr0_1 hc0_1;have HB:=Aside0.mk (Below.refl w.heap.size w);have H:((impl_isDay.f a1).bind fun t59002=>(if t59002=true then ((impl_Weekday.f a1).bind fun t59003=>(if 0≤(IntKind.u64.wrap (t59003)) then (impl_works.j0 k a1 ((Go.bits .and .i64 (shr .i64 a0_0 (IntKind.u64.wrap (t59003))) 1) == 1) a0_0 l0_1) else (none))) else (impl_works.j0 k a1 true a0_0 l0_1)))=some r:=h;clear h;have HC3:=Aside0.mk H;clear H
 go_enter Tryd.func58,Tryd.ntmps58
 go_upto_region 1 with (first | ((with_reducible refine gate_dst (N:=2) rfl ?_);refine box_event ?hg (N:=2) ?hd (cs:=#[.int .i64 a0_0,.slice A0_1 l0_1.length c0_1]) (t:=32) ?hr ?_;(case hd=>rfl);(case hg=>rfl);(case hr=>first | (go_simp;done) | (go_simp;rfl));intro gb59001 hg w4 hbox hb;have n0_:=Aside0.mk (below_step (by repeat (first | (with_reducible first | exact HB.out | apply y02 | apply y00 | apply y01) | exact HB.out)) hb);have n1_:=Aside0.mk (hbox);have n2_:=Aside0.mk ((by rw [hg];exact (below_size (by repeat (first | (with_reducible first | exact HB.out | apply y02 | apply y00 | apply y01) | exact HB.out))):w.heap.size≤gb59001));have n3_:=Aside0.mk ((by rw [hg];exact (below_size (by repeat (first | (with_reducible first | exact HB.out | apply y02 | apply y00 | apply y01) | exact HB.out))):w.heap.size≤gb59001));clear HB;have HB:=n0_;have BK59001:=n1_;have GW59001:=n2_;have GE59001:=n3_;clear n0_ n1_ n2_ n3_;clear hb hbox hg))
 repeat (go_quiet (first | ((with_reducible refine gate_dst (N:=2) rfl ?_);refine box_event ?hg (N:=2) ?hd (cs:=#[.int .i64 a0_0,.slice A0_1 l0_1.length c0_1]) (t:=32) ?hr ?_;(case hd=>rfl);(case hg=>rfl);(case hr=>first | (go_simp;done) | (go_simp;rfl));intro gb59001 hg w4 hbox hb;have n0_:=Aside0.mk (below_step (by repeat (first | (with_reducible first | exact HB.out | apply y02 | apply y00 | apply y01) | exact HB.out)) hb);have n1_:=Aside0.mk (hbox);have n2_:=Aside0.mk ((by rw [hg];exact (below_size (by repeat (first | (with_reducible first | exact HB.out | apply y02 | apply y00 | apply y01) | exact HB.out))):w.heap.size≤gb59001));have n3_:=Aside0.mk ((by rw [hg];exact (below_size (by repeat (first | (with_reducible first | exact HB.out | apply y02 | apply y00 | apply y01) | exact HB.out))):w.heap.size≤gb59001));clear HB;have HB:=n0_;have BK59001:=n1_;have GW59001:=n2_;have GE59001:=n3_;clear n0_ n1_ n2_ n3_;clear hb hbox hg));go_upto_region 1 with (first | ((with_reducible refine gate_dst (N:=2) rfl ?_);refine box_event ?hg (N:=2) ?hd (cs:=#[.int .i64 a0_0,.slice A0_1 l0_1.length c0_1]) (t:=32) ?hr ?_;(case hd=>rfl);(case hg=>rfl);(case hr=>first | (go_simp;done) | (go_simp;rfl));intro gb59001 hg w4 hbox hb;have n0_:=Aside0.mk (below_step (by repeat (first | (with_reducible first | exact HB.out | apply y02 | apply y00 | apply y01) | exact HB.out)) hb);have n1_:=Aside0.mk (hbox);have n2_:=Aside0.mk ((by rw [hg];exact (below_size (by repeat (first | (with_reducible first | exact HB.out | apply y02 | apply y00 | apply y01) | exact HB.out))):w.heap.size≤gb59001));have n3_:=Aside0.mk ((by rw [hg];exact (below_size (by repeat (first | (with_reducible first | exact HB.out | apply y02 | apply y00 | apply y01) | exact HB.out))):w.heap.size≤gb59001));clear HB;have HB:=n0_;have BK59001:=n1_;have GW59001:=n2_;have GE59001:=n3_;clear n0_ n1_ n2_ n3_;clear hb hbox hg)))
 (try simp only [Act.put,List.setIfInBounds_toArray,List.set_cons_zero,List.set_cons_succ])
 go_cut [20] (fun v20 wc=>∃ (kq:Nat) (x20_2:Bool),v20 = .bool x20_2∧Aside0 (impl_works.j0 kq a1 x20_2 a0_0 l0_1=some r)∧Aside0 (kq≤k)∧Aside0 (wc.heap[gb59001]?=some (.cells #[.int .i64 a0_0,(.slice A0_1 l0_1.length c0_1)] 32 (0,0)))∧Aside0 (Below w.heap.size w wc))
 case first =>
  have H:=HC3.out;clear HC3;replace H:=Option.bind_eq_some_iff.mp H;obtain ⟨t59002,A50,H⟩:=H;replace H:(if t59002=true then ((impl_Weekday.f a1).bind fun t59003=>(if 0≤(IntKind.u64.wrap (t59003)) then (impl_works.j0 k a1 ((Go.bits .and .i64 (shr .i64 a0_0 (IntKind.u64.wrap (t59003))) 1) == 1) a0_0 l0_1) else (none))) else (impl_works.j0 k a1 true a0_0 l0_1))=some r:=H;have A5:=Aside0.mk A50;clear A50;by_cases c6:t59002=true
  ·subst c6;have H1:((impl_Weekday.f a1).bind fun t59003=>(if 0≤(IntKind.u64.wrap (t59003)) then (impl_works.j0 k a1 ((Go.bits .and .i64 (shr .i64 a0_0 (IntKind.u64.wrap (t59003))) 1) == 1) a0_0 l0_1) else (none)))=some r:=by rw [if_pos rfl] at H;exact H
   clear H;have H:=H1;clear H1;replace H:=Option.bind_eq_some_iff.mp H;obtain ⟨t59003,A70,H⟩:=H;replace H:(if 0≤(IntKind.u64.wrap (t59003)) then (impl_works.j0 k a1 ((Go.bits .and .i64 (shr .i64 a0_0 (IntKind.u64.wrap (t59003))) 1) == 1) a0_0 l0_1) else (none))=some r:=H;have A7:=Aside0.mk A70;clear A70;obtain ⟨ji8,hji8⟩:∃ j_:Int,(IntKind.u64.wrap (t59003))=j_:=⟨_,rfl⟩;replace H:(if 0≤(ji8) then (impl_works.j0 k a1 ((Go.bits .and .i64 (shr .i64 a0_0 (ji8)) 1) == 1) a0_0 l0_1) else (none))=some r:=by first | (rw [hji8] at H;exact H) | (simp only [hji8] at H ⊢;exact H)
   (try rw [hji8] at A5);(try rw [hji8] at A7);by_cases c9:0≤(ji8)
   ·rw [if_pos c9] at H;have c9b0:=eq_true c9;have c9b1:decide (0≤(ji8))=true:=decide_eq_true c9;clear c9;obtain ⟨ji10,hji10⟩:∃ j_:Int,(shr .i64 a0_0 (ji8))=j_:=⟨_,rfl⟩;replace H:(impl_works.j0 k a1 ((Go.bits .and .i64 (ji10) 1) == 1) a0_0 l0_1)=some r:=by first | (rw [hji10] at H;exact H) | (simp only [hji10] at H ⊢;exact H)
    (try rw [hji10] at A5);(try rw [hji10] at A7);have hji10_:(a0_0 / 2 ^ min (ji8).toNat 64)=ji10:=hji10;have hji10z:(ji8)≤64→(a0_0 / 2 ^ (ji8).toNat)=ji10:=shr_small hji10;have H':=Aside0.mk H;clear H
    go_wp2_with (first | (go_at_call 52;(with_reducible refine (impl_isDay.calls a1 true _ A5.out).mono ?_);rintro e w' ⟨rfl,⟨nd,rfl⟩⟩;(try first | exact ⟨rfl,_,World.drewN_drewN _ _ _⟩ | exact ⟨rfl,_,Eq.trans (World.drewN_drewN _ _ _) (congrArg (World.drewN _) (Nat.add_assoc _ _ _))⟩);have hcz11_0:w4.cell? ⟨gb59001,0,none⟩=some (.int .i64 a0_0):=(blk_cell BK59001.out 0).trans rfl;have hcz11_1:w4.cell? ⟨gb59001,1,none⟩=some (.slice A0_1 l0_1.length c0_1):=(blk_cell BK59001.out 1).trans rfl;have hfz11_0:=y04 BK59001.out 0;have hfz11_1:=y04 BK59001.out 1) | (go_at_call 59;(with_reducible refine (impl_Weekday.calls a1 t59003 _ A7.out).mono ?_);rintro e w' ⟨rfl,⟨nd,rfl⟩⟩;(try first | exact ⟨rfl,_,World.drewN_drewN _ _ _⟩ | exact ⟨rfl,_,Eq.trans (World.drewN_drewN _ _ _) (congrArg (World.drewN _) (Nat.add_assoc _ _ _))⟩)))
    repeat (go_quiet (first | (go_at_call 52;(with_reducible refine (impl_isDay.calls a1 true _ A5.out).mono ?_);rintro e w' ⟨rfl,⟨nd,rfl⟩⟩;(try first | exact ⟨rfl,_,World.drewN_drewN _ _ _⟩ | exact ⟨rfl,_,Eq.trans (World.drewN_drewN _ _ _) (congrArg (World.drewN _) (Nat.add_assoc _ _ _))⟩);have hcz11_0:w4.cell? ⟨gb59001,0,none⟩=some (.int .i64 a0_0):=(blk_cell BK59001.out 0).trans rfl;have hcz11_1:w4.cell? ⟨gb59001,1,none⟩=some (.slice A0_1 l0_1.length c0_1):=(blk_cell BK59001.out 1).trans rfl;have hfz11_0:=y04 BK59001.out 0;have hfz11_1:=y04 BK59001.out 1) | (go_at_call 59;(with_reducible refine (impl_Weekday.calls a1 t59003 _ A7.out).mono ?_);rintro e w' ⟨rfl,⟨nd,rfl⟩⟩;(try first | exact ⟨rfl,_,World.drewN_drewN _ _ _⟩ | exact ⟨rfl,_,Eq.trans (World.drewN_drewN _ _ _) (congrArg (World.drewN _) (Nat.add_assoc _ _ _))⟩)));try go_wp2_with (first | (go_at_call 52;(with_reducible refine (impl_isDay.calls a1 true _ A5.out).mono ?_);rintro e w' ⟨rfl,⟨nd,rfl⟩⟩;(try first | exact ⟨rfl,_,World.drewN_drewN _ _ _⟩ | exact ⟨rfl,_,Eq.trans (World.drewN_drewN _ _ _) (congrArg (World.drewN _) (Nat.add_assoc _ _ _))⟩);have hcz11_0:w4.cell? ⟨gb59001,0,none⟩=some (.int .i64 a0_0):=(blk_cell BK59001.out 0).trans rfl;have hcz11_1:w4.cell? ⟨gb59001,1,none⟩=some (.slice A0_1 l0_1.length c0_1):=(blk_cell BK59001.out 1).trans rfl;have hfz11_0:=y04 BK59001.out 0;have hfz11_1:=y04 BK59001.out 1) | (go_at_call 59;(with_reducible refine (impl_Weekday.calls a1 t59003 _ A7.out).mono ?_);rintro e w' ⟨rfl,⟨nd,rfl⟩⟩;(try first | exact ⟨rfl,_,World.drewN_drewN _ _ _⟩ | exact ⟨rfl,_,Eq.trans (World.drewN_drewN _ _ _) (congrArg (World.drewN _) (Nat.add_assoc _ _ _))⟩))))
    go_meet
    case rel=>exact ⟨_,(((Go.bits .and .i64 (ji10) 1) == 1)),(by first | rfl | (simp;done) | (simp only [← hji10] <;> (first | rfl | simp)) | (simp [*];done)),H',⟨by first | omega | exact Nat.le_refl _⟩,⟨by (with_reducible repeat (first | refine y06 ?_ _ | refine blk_drew ?_ | refine y05 ?_ _));exact BK59001.out⟩,⟨by repeat (first | (with_reducible first | exact HB.out | apply y02 | apply y00 | apply y01 | refine y03 ?_ GE59001.out) | exact HB.out)⟩⟩
   ·rw [if_neg c9] at H;exact absurd H (by simp)
  ·replace c6:=Bool.eq_false_iff.mpr c6;subst c6;have H1:(impl_works.j0 k a1 true a0_0 l0_1)=some r:=by rw [if_neg (show ¬ (false=true) by decide)] at H;exact H
   clear H;have H:=H1;clear H1;have H':=Aside0.mk H;clear H
   go_wp2_with (first | (go_at_call 52;(with_reducible refine (impl_isDay.calls a1 false _ A5.out).mono ?_);rintro e w' ⟨rfl,⟨nd,rfl⟩⟩;(try first | exact ⟨rfl,_,World.drewN_drewN _ _ _⟩ | exact ⟨rfl,_,Eq.trans (World.drewN_drewN _ _ _) (congrArg (World.drewN _) (Nat.add_assoc _ _ _))⟩)))
   repeat (go_quiet (first | (go_at_call 52;(with_reducible refine (impl_isDay.calls a1 false _ A5.out).mono ?_);rintro e w' ⟨rfl,⟨nd,rfl⟩⟩;(try first | exact ⟨rfl,_,World.drewN_drewN _ _ _⟩ | exact ⟨rfl,_,Eq.trans (World.drewN_drewN _ _ _) (congrArg (World.drewN _) (Nat.add_assoc _ _ _))⟩)));try go_wp2_with (first | (go_at_call 52;(with_reducible refine (impl_isDay.calls a1 false _ A5.out).mono ?_);rintro e w' ⟨rfl,⟨nd,rfl⟩⟩;(try first | exact ⟨rfl,_,World.drewN_drewN _ _ _⟩ | exact ⟨rfl,_,Eq.trans (World.drewN_drewN _ _ _) (congrArg (World.drewN _) (Nat.add_assoc _ _ _))⟩))))
   go_meet
   case rel=>exact ⟨_,(true),(by first | rfl | (simp;done) | (simp [*];done)),H',⟨by first | omega | exact Nat.le_refl _⟩,⟨by (with_reducible repeat (first | refine y06 ?_ _ | refine blk_drew ?_ | refine y05 ?_ _));exact BK59001.out⟩,⟨by repeat (first | (with_reducible first | exact HB.out | apply y02 | apply y00 | apply y01 | refine y03 ?_ GE59001.out) | exact HB.out)⟩⟩
 case rest =>
  clear HC3;(try clear p2);(try clear c5);(try clear c6);(try clear c9);(try clear c9b0);(try clear c9b1);(try clear hcz11_0);(try clear hcz11_1);(try clear hfz11_0);(try clear hfz11_1);obtain ⟨kq,x20_2,rfl,HA,HJ2,BK59001,HB⟩:=hcut;cases kq with
  | zero=>exact absurd HA.out (by simp [impl_works.j0])
  | succ kj2 =>
   have H:=HA.out;clear HA;simp only [impl_works.j0] at H;by_cases c12:x20_2=true
   ·subst c12;have H1:(some false)=some r:=by rw [if_pos rfl] at H;exact H
    clear H;have H:=H1;clear H1;obtain rfl:=Option.some.inj H
    go_wp2
    repeat (go_quiet (fail);try go_wp2)
    go_ret
    exact ⟨by first | rfl | (simp [errW_none,errW_some] <;> rfl) | (simp [*,errW_none,errW_some] <;> rfl),by repeat (first | (with_reducible first | exact HB.out | apply y02 | apply y00 | apply y01 | refine y03 ?_ GE59001.out) | exact HB.out)⟩
   ·replace c12:=Bool.eq_false_iff.mpr c12;subst c12;have H1:(impl_works.l0 kj2 a1 0 (l0_1.length:Int) a0_0 l0_1)=some r:=by rw [if_neg (show ¬ (false=true) by decide)] at H;exact H
    clear H;have H:=H1;clear H1;have H':=Aside0.mk H;clear H;have hcz13_0:wc.cell? ⟨gb59001,0,none⟩=some (.int .i64 a0_0):=(blk_cell BK59001.out 0).trans rfl;have hcz13_1:wc.cell? ⟨gb59001,1,none⟩=some (.slice A0_1 l0_1.length c0_1):=(blk_cell BK59001.out 1).trans rfl;have hfz13_0:=y04 BK59001.out 0;have hfz13_1:=y04 BK59001.out 1
    go_wp2
    repeat (go_quiet (fail);try go_wp2)
    go_loopg [5,6] kj2 (fun kq v5 v6 w'=>∃ (x5_2:Int) (x6_2:Int),v5 = .int .i64 x5_2∧v6 = .int .i64 x6_2∧Aside0 (impl_works.l0 kq a1 x5_2 x6_2 a0_0 l0_1=some r)∧Aside0 (kq≤kj2)∧Aside0 (w'.heap[gb59001]?=some (.cells #[.int .i64 a0_0,(.slice A0_1 l0_1.length c0_1)] 32 (0,0)))∧Aside0 (Below w.heap.size w w'))
    case atStart=>exact ⟨(0),((l0_1.length:Int)),(by first | rfl | (simp;done) | (simp [*];done)),(by first | rfl | (simp;done) | (simp [*];done)),H',⟨Nat.le_refl _⟩,⟨by (with_reducible repeat (first | refine y06 ?_ _ | refine blk_drew ?_ | refine y05 ?_ _));exact BK59001.out⟩,⟨by repeat (first | (with_reducible first | exact HB.out | apply y02 | apply y00 | apply y01 | refine y03 ?_ GE59001.out) | exact HB.out)⟩⟩
    case round =>
     clear H';(try clear c1);(try clear p2);(try clear c5);(try clear c6);(try clear c9);(try clear c9b0);(try clear c9b1);(try clear c12);(try clear hcz11_0);(try clear hcz11_1);(try clear hcz13_0);(try clear hcz13_1);(try clear hfz11_0);(try clear hfz11_1);(try clear hfz13_0);(try clear hfz13_1);(try clear p2);obtain ⟨x5_2,x6_2,rfl,rfl,HA,HK2,BK59001,HB⟩:=hrel;cases gk with
     | zero=>exact absurd HA.out (by simp [impl_works.l0])
     | succ k2 =>
      have H:=HA.out;clear HA;simp only [impl_works.l0] at H;by_cases c14:x5_2 < x6_2
      ·rw [if_pos c14] at H;have c14b0:decide (x5_2 < x6_2)=true:=decide_eq_true c14;clear c14;obtain ⟨ji15,hji15⟩:∃ j_:Int,(wrap64 (Int.tdiv (wrap64 (x5_2+x6_2)) 2))=j_:=⟨_,rfl⟩;replace H:(if 0≤(ji15) then (if (ji15) < (l0_1.length:Int) then (if (rd l0_1 (ji15)) < a1 then (impl_works.l0 k2 a1 (wrap64 ((ji15)+1)) x6_2 a0_0 l0_1) else (impl_works.l0 k2 a1 x5_2 ji15 a0_0 l0_1)) else (none)) else (none))=some r:=by first | (rw [hji15] at H;exact H) | (simp only [hji15] at H ⊢;exact H)
       have hji15w:(IntKind.i64.wrap (Int.tdiv (wrap64 (x5_2+x6_2)) 2))=ji15:=(i64_w _).trans hji15;by_cases c16:0≤(ji15)
       ·rw [if_pos c16] at H;have c16b0:decide (0≤(ji15))=true:=decide_eq_true c16;clear c16;by_cases c17:(ji15) < (l0_1.length:Int)
        ·rw [if_pos c17] at H;have c17b0:decide ((ji15) < (l0_1.length:Int))=true:=decide_eq_true c17;clear c17;by_cases c18:(rd l0_1 (ji15)) < a1
         ·rw [if_pos c18] at H;have c18b0:decide ((rd l0_1 (ji15)) < a1)=true:=decide_eq_true c18;clear c18;have H':=Aside0.mk H;clear H;have hcz19_0:wr.cell? ⟨gb59001,0,none⟩=some (.int .i64 a0_0):=(blk_cell BK59001.out 0).trans rfl;have hcz19_1:wr.cell? ⟨gb59001,1,none⟩=some (.slice A0_1 l0_1.length c0_1):=(blk_cell BK59001.out 1).trans rfl;have hfz19_0:=y04 BK59001.out 0;have hfz19_1:=y04 BK59001.out 1;have p59004:0≤((ji15):Int):=of_decide_eq_true (by first | (with_reducible assumption) | assumption);have q59004:(ji15) < (l0_1.length:Int):=of_decide_eq_true (by first | (with_reducible assumption) | assumption);obtain ⟨ad59004,e59004,hx59004_0⟩:=Kd.at_int HR0_1.out (ji15) p59004 q59004;cases e59004;replace hx59004_0:=(HB.out.cell (World.block_lt_of_cell? w _ hx59004_0)).trans hx59004_0;replace p59004:=eq_true p59004;replace q59004:=eq_true q59004
          go_wp2
          repeat (go_quiet (fail);try go_wp2)
          go_roundg k2
          case measure=>have:=HJ2.out;have:=HK2.out;omega
          case rel=>exact ⟨(wrap64 ((ji15)+1)),(x6_2),(by first | rfl | (simp;done) | (simp only [← hji15] <;> (first | rfl | simp)) | (simp [*];done)),(by first | rfl | (simp;done) | (simp [*];done)),H',⟨by have:=HJ2.out;have:=HK2.out;omega⟩,⟨by (with_reducible repeat (first | refine y06 ?_ _ | refine blk_drew ?_ | refine y05 ?_ _));exact BK59001.out⟩,⟨by repeat (first | (with_reducible first | exact HB.out | apply y02 | apply y00 | apply y01 | refine y03 ?_ GE59001.out) | exact HB.out)⟩⟩
         ·rw [if_neg c18] at H;have c18b0:decide ((rd l0_1 (ji15)) < a1)=false:=decide_eq_false c18;clear c18;have H':=Aside0.mk H;clear H;have hcz20_0:wr.cell? ⟨gb59001,0,none⟩=some (.int .i64 a0_0):=(blk_cell BK59001.out 0).trans rfl;have hcz20_1:wr.cell? ⟨gb59001,1,none⟩=some (.slice A0_1 l0_1.length c0_1):=(blk_cell BK59001.out 1).trans rfl;have hfz20_0:=y04 BK59001.out 0;have hfz20_1:=y04 BK59001.out 1;have p59004:0≤((ji15):Int):=of_decide_eq_true (by first | (with_reducible assumption) | assumption);have q59004:(ji15) < (l0_1.length:Int):=of_decide_eq_true (by first | (with_reducible assumption) | assumption);obtain ⟨ad59004,e59004,hx59004_0⟩:=Kd.at_int HR0_1.out (ji15) p59004 q59004;cases e59004;replace hx59004_0:=(HB.out.cell (World.block_lt_of_cell? w _ hx59004_0)).trans hx59004_0;replace p59004:=eq_true p59004;replace q59004:=eq_true q59004
          go_wp2
          repeat (go_quiet (fail);try go_wp2)
          go_roundg k2
          case measure=>have:=HJ2.out;have:=HK2.out;omega
          case rel=>exact ⟨(x5_2),(ji15),(by first | rfl | (simp;done) | (simp [*];done)),(by first | rfl | (simp;done) | (simp only [← hji15] <;> (first | rfl | simp)) | (simp [*];done)),H',⟨by have:=HJ2.out;have:=HK2.out;omega⟩,⟨by (with_reducible repeat (first | refine y06 ?_ _ | refine blk_drew ?_ | refine y05 ?_ _));exact BK59001.out⟩,⟨by repeat (first | (with_reducible first | exact HB.out | apply y02 | apply y00 | apply y01 | refine y03 ?_ GE59001.out) | exact HB.out)⟩⟩
        ·rw [if_neg c17] at H;exact absurd H (by simp)
       ·rw [if_neg c16] at H;exact absurd H (by simp)
      ·rw [if_neg c14] at H;have c14b0:decide (x5_2 < x6_2)=false:=decide_eq_false c14;clear c14;by_cases c21:x5_2=(l0_1.length:Int)
       ·rw [if_pos c21] at H;have c21b0:(x5_2 == (l0_1.length:Int))=true:=beq_iff_eq.mpr c21;have c21b1:(x5_2 != (l0_1.length:Int))=false:=bne_eq_false_iff_eq.mpr c21;clear c21;obtain rfl:=Option.some.inj H;have hcz22_0:wr.cell? ⟨gb59001,0,none⟩=some (.int .i64 a0_0):=(blk_cell BK59001.out 0).trans rfl;have hcz22_1:wr.cell? ⟨gb59001,1,none⟩=some (.slice A0_1 l0_1.length c0_1):=(blk_cell BK59001.out 1).trans rfl;have hfz22_0:=y04 BK59001.out 0;have hfz22_1:=y04 BK59001.out 1
        go_wp2
        repeat (go_quiet (fail);try go_wp2)
        go_ret
        exact ⟨by first | rfl | (simp [errW_none,errW_some] <;> rfl) | (simp [*,errW_none,errW_some] <;> rfl),by repeat (first | (with_reducible first | exact HB.out | apply y02 | apply y00 | apply y01 | refine y03 ?_ GE59001.out) | exact HB.out)⟩
       ·rw [if_neg c21] at H;have c21b0:(x5_2 == (l0_1.length:Int))=false:=beq_eq_false_iff_ne.mpr c21;have c21b1:(x5_2 != (l0_1.length:Int))=true:=bne_iff_ne.mpr c21;by_cases c23:0≤x5_2
        ·rw [if_pos c23] at H;have c23b0:decide (0≤x5_2)=true:=decide_eq_true c23;clear c23;by_cases c24:x5_2 < (l0_1.length:Int)
         ·rw [if_pos c24] at H;have c24b0:decide (x5_2 < (l0_1.length:Int))=true:=decide_eq_true c24;clear c24;obtain rfl:=Option.some.inj H;have hcz25_0:wr.cell? ⟨gb59001,0,none⟩=some (.int .i64 a0_0):=(blk_cell BK59001.out 0).trans rfl;have hcz25_1:wr.cell? ⟨gb59001,1,none⟩=some (.slice A0_1 l0_1.length c0_1):=(blk_cell BK59001.out 1).trans rfl;have hfz25_0:=y04 BK59001.out 0;have hfz25_1:=y04 BK59001.out 1;have p59005:0≤(x5_2:Int):=of_decide_eq_true (by first | (with_reducible assumption) | assumption);have q59005:x5_2 < (l0_1.length:Int):=of_decide_eq_true (by first | (with_reducible assumption) | assumption);obtain ⟨ad59005,e59005,hx59005_0⟩:=Kd.at_int HR0_1.out x5_2 p59005 q59005;cases e59005;replace hx59005_0:=(HB.out.cell (World.block_lt_of_cell? w _ hx59005_0)).trans hx59005_0;replace p59005:=eq_true p59005;replace q59005:=eq_true q59005
          go_wp2
          repeat (go_quiet (fail);try go_wp2)
          go_ret
          exact ⟨by first | rfl | (simp [errW_none,errW_some] <;> rfl) | (simp [*,errW_none,errW_some] <;> rfl),by repeat (first | (with_reducible first | exact HB.out | apply y02 | apply y00 | apply y01 | refine y03 ?_ GE59001.out) | exact HB.out)⟩
         ·rw [if_neg c24] at H;exact absurd H (by simp)
        ·rw [if_neg c23] at H;exact absurd H (by simp)
end Go.Proofs.YtcblmhpebijmaaaDoor.Q
