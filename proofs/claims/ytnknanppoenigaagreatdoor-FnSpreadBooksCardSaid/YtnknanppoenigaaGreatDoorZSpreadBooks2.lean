/- Parts of the proof: what functions of the program and of the reference answer.
   No condition. -/
import Derived.Test.YtnknanppoenigaaGreatDoorZSpreadBooks1
import Derived.Laws.CopyRow
import Derived.Lib.SlBuf
import Derived.Deep.DeepCutAuto
namespace Go.Proofs.YtnknanppoenigaaGreatDoor.Q
open Go.RowKit Go.Proofs.YtnknanppoenigaaGreatDoorW.PrintWords Go.Proofs.YtnknanppoenigaaGreatDoorW.PrintLast Go.Proofs.YtnknanppoenigaaGreatDoorW.PrintMore
set_option linter.unusedVariables false
set_option linter.unusedSimpArgs false
def IsS93 (w0 W:World) (g:Nat) (f0:List Int) (f1:Int) (f2:Int):Prop:=∃ A0 c0,W.heap[g]?=some (.cells #[.slice A0 f0.length c0,.int .i64 f1,.int .i64 f2] 93 (0,0))∧w0.heap.size≤g∧Kd.C (Kd.int .u8) w0 A0 f0.length f0
theorem IsS93.grown {w0 W:World} {g:Nat} {f0:List Int} {f1:Int} {f2:Int} {W1:World} {row:Option Nat} (h:IsS93 w0 W g f0 f1 f2) (hw:W.grownBy W1 row) (hne:some g≠row):IsS93 w0 W1 g f0 f1 f2:=by
 obtain ⟨A0,c0,hb,hg,hr0⟩:=h;exact ⟨A0,c0,blk_grown hb hw hne,hg,hr0⟩
theorem IsS93.below {w0 W:World} {g:Nat} {f0:List Int} {f1:Int} {f2:Int} {W1:World} (h:IsS93 w0 W g f0 f1 f2) (hw:Below W.heap.size W W1):IsS93 w0 W1 g f0 f1 f2:=h.grown (grown_of_below hw none) (by simp)
theorem IsS93.drewN {w0 W:World} {g:Nat} {f0:List Int} {f1:Int} {f2:Int} (h:IsS93 w0 W g f0 f1 f2) (m:Nat):IsS93 w0 (W.drewN m) g f0 f1 f2:=h
theorem IsS93.apart {w0 W:World} {g:Nat} {f0:List Int} {f1:Int} {f2:Int} {α:Type} {d:Kd α} {e:Nat} {base:Nat} {ok:Nat→Prop} {v:Value} {xs:List α} (h:IsS93 w0 W g f0 f1 f2) (ho:d.R e W base ok v xs) (ht:∀ q,q∈e :: d.E→q≠93):d.R e W base (fun k=>ok k∧k≠g) v xs:=by
 obtain ⟨A0,c0,hb,hg,hr0⟩:=h;exact Kd.R_types ho hb ht
theorem IsS93.own_ne {w0 W:World} {g:Nat} {f0:List Int} {f1:Int} {f2:Int} {α:Type} {d:Kd α} {e:Nat} {base:Nat} {ok:Nat→Prop} {v:Value} {xs:List α} (h:IsS93 w0 W g f0 f1 f2) (ho:d.R e W base ok v xs) (ht:e≠93):some g≠v.ownBlock:=by
 obtain ⟨A0,c0,hb,hg,hr0⟩:=h;exact Kd.R_ne ho hb ht
theorem IsS93.apartS {w0 W:World} {g:Nat} {f0:List Int} {f1:Int} {f2:Int} {α:Type} {d:Kd α} {e:Nat} {base:Nat} {ok:Nat→Prop} {v:Value} {xs:List α} (h:IsS93 w0 W g f0 f1 f2) (ho:d.S e W base ok v xs) (ht:∀ q,q∈e :: d.E→q≠93):d.S e W base (fun k=>ok k∧k≠g) v xs:=by
 obtain ⟨A0,c0,hb,hg,hr0⟩:=h;exact Kd.S_types ho hb ht
theorem IsS93.own_neS {w0 W:World} {g:Nat} {f0:List Int} {f1:Int} {f2:Int} {α:Type} {d:Kd α} {e:Nat} {base:Nat} {ok:Nat→Prop} {v:Value} {xs:List α} (h:IsS93 w0 W g f0 f1 f2) (ho:d.S e W base ok v xs) (ht:e≠93):some g≠v.ownBlock:=by
 obtain ⟨A0,c0,hb,hg,hr0⟩:=h;exact Kd.S_ne ho hb ht
theorem IsS93.lt {w0 W:World} {g:Nat} {f0:List Int} {f1:Int} {f2:Int} (h:IsS93 w0 W g f0 f1 f2):g < W.heap.size:=by
 obtain ⟨A0,c0,hb,hg,hr0⟩:=h;exact blk_lt hb
theorem IsS93.ge {w0 W:World} {g:Nat} {f0:List Int} {f1:Int} {f2:Int} (h:IsS93 w0 W g f0 f1 f2):w0.heap.size≤g:=by
 obtain ⟨A0,c0,hb,hg,hr0⟩:=h;exact hg
theorem IsS93.far {w0 W:World} {g:Nat} {f0:List Int} {f1:Int} {f2:Int} {p:Addr} (h:IsS93 w0 W g f0 f1 f2) (hne:g≠p.block) (u:Value):IsS93 w0 (W.setCell p u) g f0 f1 f2:=by
 obtain ⟨A0,c0,hb,hg,hr0⟩:=h;exact ⟨A0,c0,blk_far hb hne u,hg,hr0⟩
theorem cellS93_0 {W:World} {g:Nat} {A0:Option Addr} {c0:Nat} {f0:List Int} {f1:Int} {f2:Int} (h:W.heap[g]?=some (.cells #[.slice A0 f0.length c0,.int .i64 f1,.int .i64 f2] 93 (0,0))):W.cell? ⟨g,0,none⟩=some (.slice A0 f0.length c0):=(y00 h 0).trans rfl
theorem cellS93_1 {W:World} {g:Nat} {A0:Option Addr} {c0:Nat} {f0:List Int} {f1:Int} {f2:Int} (h:W.heap[g]?=some (.cells #[.slice A0 f0.length c0,.int .i64 f1,.int .i64 f2] 93 (0,0))):W.cell? ⟨g,1,none⟩=some (.int .i64 f1):=(y00 h 1).trans rfl
theorem IsS93.set_1 {w0 W:World} {g:Nat} {f0:List Int} {f1:Int} {f2:Int} (h:IsS93 w0 W g f0 f1 f2) (x:Int):IsS93 w0 (W.setCell ⟨g,1,none⟩ (.int .i64 x)) g f0 x f2:=by
 obtain ⟨A0,c0,hb,hg,hr0⟩:=h;exact ⟨A0,c0,by simpa using blk_set hb 1 (.int .i64 x),hg,hr0⟩
theorem cellS93_2 {W:World} {g:Nat} {A0:Option Addr} {c0:Nat} {f0:List Int} {f1:Int} {f2:Int} (h:W.heap[g]?=some (.cells #[.slice A0 f0.length c0,.int .i64 f1,.int .i64 f2] 93 (0,0))):W.cell? ⟨g,2,none⟩=some (.int .i64 f2):=(y00 h 2).trans rfl
theorem IsS93.set_2 {w0 W:World} {g:Nat} {f0:List Int} {f1:Int} {f2:Int} (h:IsS93 w0 W g f0 f1 f2) (x:Int):IsS93 w0 (W.setCell ⟨g,2,none⟩ (.int .i64 x)) g f0 f1 x:=by
 obtain ⟨A0,c0,hb,hg,hr0⟩:=h;exact ⟨A0,c0,by simpa using blk_set hb 2 (.int .i64 x),hg,hr0⟩
noncomputable def spec_l1New.l0:Nat→List Int→Int→Int→Option (List Int × Int × Int)
 | 0,_,_,_=>none
 | k+1,x0,x3,x4=>if x4 < (x0.length:Int) then (if x4 < 4000 then (if 0≤x4 then (spec_l1New.l0 k x0 (Go.bits .and .i64 (wrap64 ((wrap64 ((wrap64 (x3 * 131))+(wrap64 (rd x0 x4))))+7)) 1073741823) (wrap64 (x4+1))) else (none)) else (some (x0,0,x3))) else (some (x0,0,x3))
noncomputable def spec_l1New.f (k:Nat) (l0:List Int):Option (List Int × Int × Int):=spec_l1New.l0 k l0 (wrap64 (71933+(l0.length:Int))) 0
set_option maxHeartbeats 8000000 in
set_option maxRecDepth 100000 in
theorem spec_l1New.calls (k:Nat) (A0:Option Addr) (c0:Nat) (l0:List Int) (r1:List Int) (r2:Int) (r3:Int) (w0 w:World) (hB:Below w0.heap.size w0 w) (hr0:Kd.C (Kd.int .u8) w0 A0 l0.length l0) (hc0:l0.length≤c0) (h:spec_l1New.f k l0=some (r1,r2,r3)) :
 Calls Tryz.prog 17 #[.slice A0 l0.length c0] w fun e w'=>∃ g_:Nat,e = .returned (.pointer (some ⟨g_,0,none⟩))∧IsS93 w0 w' g_ r1 r2 r3∧Below w0.heap.size w0 w'∧Below w.heap.size w w':=by
 have hu93:=Tryz.underlying93;have HR0:=Aside0.mk hr0;have HC0:=Aside0.mk hc0;clear hr0 hc0;have HBW:=Aside0.mk (Below.refl w.heap.size w);have HW0:=Aside0.mk hB.size;have HB:=Aside0.mk hB;clear hB;have H:(spec_l1New.l0 k l0 (wrap64 (71933+(l0.length:Int))) 0)=some (r1,r2,r3):=h;clear h;have H':=Aside0.mk H;clear H
 go_enter Tryz.func17,Tryz.ntmps17
 go_wp2
 go_loopg [3,4] k (fun kq v3 v4 w'=>∃ (x3_1:Int) (x4_1:Int),v3 = .int .i64 x3_1∧v4 = .int .i64 x4_1∧Aside0 (spec_l1New.l0 kq l0 x3_1 x4_1=some (r1,r2,r3))∧Aside0 (kq≤k)∧Aside0 (Below w0.heap.size w0 w')∧Aside0 (Below w.heap.size w w'))
 case atStart=>exact ⟨(wrap64 (71933+(l0.length:Int))),(0),(by rfl),(by rfl),H',⟨Nat.le_refl _⟩,⟨HB.out⟩,⟨HBW.out⟩⟩
 case round =>
  clear H';(try clear c1);obtain ⟨x3_1,x4_1,rfl,rfl,HA,HK1,HB,HBW⟩:=hrel;cases gk with
  | zero=>exact absurd HA.out (by simp [spec_l1New.l0])
  | succ k1 =>
   have H:=HA.out;clear HA;simp only [spec_l1New.l0] at H;by_cases c2:x4_1 < (l0.length:Int)
   ·rw [if_pos c2] at H;have c2b0:decide (x4_1 < (l0.length:Int))=true:=decide_eq_true c2;clear c2;by_cases c3:x4_1 < 4000
    ·rw [if_pos c3] at H;have c3b0:decide (x4_1 < 4000)=true:=decide_eq_true c3;clear c3;by_cases c4:0≤x4_1
     ·rw [if_pos c4] at H;have c4b0:decide (0≤x4_1)=true:=decide_eq_true c4;clear c4;have H':=Aside0.mk H;clear H;have p18001:0≤(x4_1:Int):=of_decide_eq_true (by (with_reducible assumption));have q18001:x4_1 < (l0.length:Int):=of_decide_eq_true (by (with_reducible assumption));obtain ⟨ad18001,e18001,hx18001_0⟩:=Kd.at_int HR0.out x4_1 p18001 q18001;cases e18001;replace hx18001_0:=y01 HB.out hx18001_0;replace p18001:=eq_true p18001;replace q18001:=eq_true q18001
      go_wp2
      go_roundg k1
      case measure=>have:=HK1.out;omega
      case rel=>exact ⟨(Go.bits .and .i64 (wrap64 ((wrap64 ((wrap64 (x3_1 * 131))+(wrap64 (rd l0 x4_1))))+7)) 1073741823),(wrap64 (x4_1+1)),(by rfl),(by rfl),H',⟨by have:=HK1.out;omega⟩,⟨HB.out⟩,⟨HBW.out⟩⟩
     ·rw [if_neg c4] at H;exact absurd H (by simp)
    ·rw [if_neg c3] at H;have c3b0:decide (x4_1 < 4000)=false:=decide_eq_false c3;clear c3;simp only [Option.some.injEq,Prod.mk.injEq] at H;obtain ⟨rfl,rfl,rfl⟩:=H
     go_wp2_with (((with_reducible refine gate_dst (N:=31) rfl ?_);refine box_event ?hg (N:=31) ?hd (cs:=#[.slice A0 l0.length c0,.int .i64 0,.int .i64 x3_1]) (t:=93) ?hr ?_;(case hd=>rfl);(case hg=>rfl);(case hr=>(go_simp;done));intro gb18002 hg w5 hbox hb;have n0_:=Aside0.mk (below_step HBW.out hb);have n1_:=Aside0.mk (below_step HB.out hb);have n2_:=Aside0.mk (hbox);have n3_:=Aside0.mk ((by rw [hg];exact (below_size HBW.out):w.heap.size≤gb18002));have n4_:=Aside0.mk ((Nat.le_trans HW0.out (by rw [hg];exact (below_size HBW.out):w.heap.size≤gb18002):w0.heap.size≤gb18002));clear HBW;clear HB;have HBW:=n0_;have HB:=n1_;have BK18002:=n2_;have GW18002:=n3_;have GE18002:=n4_;clear n0_ n1_ n2_ n3_ n4_;clear hb hbox hg))
     go_ret
     exact ⟨_,rfl,(show IsS93 w0 _ gb18002 l0 0 x3_1 from ⟨_,_,by exact BK18002.out,GE18002.out,HR0.out⟩),by exact HB.out,by exact HBW.out⟩
   ·rw [if_neg c2] at H;have c2b0:decide (x4_1 < (l0.length:Int))=false:=decide_eq_false c2;clear c2;simp only [Option.some.injEq,Prod.mk.injEq] at H;obtain ⟨rfl,rfl,rfl⟩:=H
    go_wp2_with (((with_reducible refine gate_dst (N:=31) rfl ?_);refine box_event ?hg (N:=31) ?hd (cs:=#[.slice A0 l0.length c0,.int .i64 0,.int .i64 x3_1]) (t:=93) ?hr ?_;(case hd=>rfl);(case hg=>rfl);(case hr=>(go_simp;done));intro gb18003 hg w6 hbox hb;have n0_:=Aside0.mk (below_step HBW.out hb);have n1_:=Aside0.mk (below_step HB.out hb);have n2_:=Aside0.mk (hbox);have n3_:=Aside0.mk ((by rw [hg];exact (below_size HBW.out):w.heap.size≤gb18003));have n4_:=Aside0.mk ((Nat.le_trans HW0.out (by rw [hg];exact (below_size HBW.out):w.heap.size≤gb18003):w0.heap.size≤gb18003));clear HBW;clear HB;have HBW:=n0_;have HB:=n1_;have BK18003:=n2_;have GW18003:=n3_;have GE18003:=n4_;clear n0_ n1_ n2_ n3_ n4_;clear hb hbox hg))
    go_ret
    exact ⟨_,rfl,(show IsS93 w0 _ gb18003 l0 0 x3_1 from ⟨_,_,by exact BK18003.out,GE18003.out,HR0.out⟩),by exact HB.out,by exact HBW.out⟩
end Go.Proofs.YtnknanppoenigaaGreatDoor.Q
namespace Go.Proofs.YtnknanppoenigaaGreatDoor.Q
open Go.RowKit Go.Proofs.YtnknanppoenigaaGreatDoorW.PrintWords Go.Proofs.YtnknanppoenigaaGreatDoorW.PrintLast Go.Proofs.YtnknanppoenigaaGreatDoorW.PrintMore
attribute [local go_sem] max2_int min2_int max_two min_two max_three min_three max_four min_four
set_option linter.unusedVariables false
set_option linter.unusedSimpArgs false
def dig (n:Nat):ByteArray:=(⟨#[48,49,50,51,52,53,54,55,56,57]⟩:ByteArray).extract n (n+1)
def decT (n:Nat):ByteArray:=if h:n < 10 then dig n else decT (n / 10)++dig (n % 10)
termination_by n
decreasing_by omega
theorem decT_small {n:Nat} (h:n < 10):decT n=dig n:=by rw [decT,dif_pos h]
theorem decT_more {n:Nat} (h:¬ n < 10):decT n=decT (n / 10)++dig (n % 10):=by rw [decT,dif_neg h]
theorem dig_size (n:Nat):(dig n).size≤1:=by
 unfold dig;rw [ByteArray.size_extract];omega
theorem decT_size:∀ n:Nat,(decT n).size≤n+1:=by
 intro n
 induction n using Nat.strongRecOn with
 | _ n ih =>
  by_cases h:n < 10
  ·rw [decT_small h];have:=dig_size n;omega
  ·rw [decT_more h,ByteArray.size_append];have:=ih (n / 10) (by omega);have:=dig_size (n % 10);omega
theorem dig_at {a:Int} (h0:0≤a):(⟨#[48,49,50,51,52,53,54,55,56,57]⟩:ByteArray).extract a.toNat (a+1).toNat=dig a.toNat:=by
 unfold dig;rw [show (a+1).toNat=a.toNat+1 by omega]
set_option maxHeartbeats 1000000 in
set_option maxRecDepth 100000 in
theorem spec_l1Text.to (n:Nat):∀ (a:Int) (w:World),0≤a→a.toNat=n→n≤1000000000000000→Calls Tryz.prog 81 #[.int .i64 a] w fun e w'=>e = .returned (.string (decT n))∧Drawn0 w w':=by
 induction n using Nat.strongRecOn with
 | _ n ih =>
  intro a w ha han hn;by_cases h:n < 10
  ·have hlt:a < 10:=by omega
   have h0:decide (0≤a)=true:=decide_eq_true ha;have h1:decide (a < 10)=true:=decide_eq_true hlt;have h2:a≤a+1:=by omega
   have h3:a+1≤10:=by omega
   have h4:decide (a+1≤10)=true:=decide_eq_true h3;have h5:¬ a < 0:=by omega
   have HD:=Aside0.mk (show decT n=(⟨#[48,49,50,51,52,53,54,55,56,57]⟩:ByteArray).extract a.toNat (a+1).toNat by rw [dig_at ha,han];exact decT_small h);clear ih h han
   go_enter Tryz.func81,Tryz.ntmps81
   go_wp2_with fail
   go_ret
   exact ⟨by rw [HD.out];rfl,Drawn0.refl _⟩
  ·obtain ⟨q,hq⟩:∃ q:Int,q=a / 10:=⟨_,rfl⟩;obtain ⟨r,hr⟩:∃ r:Int,r=a % 10:=⟨_,rfl⟩;have HI:=Aside0.mk (fun w=>ih q.toNat (by omega) q w (by omega) rfl (by omega));have hs:=decT_size q.toNat;have hs2:=dig_size r.toNat;have e1:IntKind.i64.wrap (a.tdiv 10)=q:=by rw [IntKind.wrap_i64,Int.tdiv_eq_ediv_of_nonneg ha];omega
   have e2:a.tmod 10=r:=by rw [Int.tmod_eq_emod_of_nonneg ha];omega
   have r0:0≤r:=by omega
   have r1:r≤r+1:=by omega
   have r2:r+1≤10:=by omega
   have e3:IntKind.i64.wrap (r+1)=r+1:=by rw [IntKind.wrap_i64];omega
   have HD:=Aside0.mk (show decT n=decT q.toNat++(⟨#[48,49,50,51,52,53,54,55,56,57]⟩:ByteArray).extract r.toNat (r+1).toNat by
    rw [dig_at r0,decT_more h,show q.toNat=n / 10 by omega,show r.toNat=n % 10 by omega])
   have h1:decide (a < 10)=false:=decide_eq_false (by omega);have h5:¬ a < 0:=by omega
   have hsz:(9223372036854775807 < (decT q.toNat).size+((r+1).toNat - r.toNat))=False:=eq_false (by omega);generalize decT q.toNat=s at *;clear ih hq hr hs hs2 h han
   go_enter Tryz.func81,Tryz.ntmps81
   go_wp2_with fail
   go_quiet ((go_at_call 81;exact Calls.quiet_of ((HI.out _).mono (fun e w' hh=>⟨hh.1,hh.2.out⟩))))
   go_wp2_with fail
   go_ret
   exact ⟨by rw [HD.out];rfl,⟨⟨nq,rfl⟩⟩⟩
end Go.Proofs.YtnknanppoenigaaGreatDoor.Q
namespace Go.Proofs.YtnknanppoenigaaGreatDoor.Q
open Go.RowKit Go.Proofs.YtnknanppoenigaaGreatDoorW.PrintWords Go.Proofs.YtnknanppoenigaaGreatDoorW.PrintLast Go.Proofs.YtnknanppoenigaaGreatDoorW.PrintMore
set_option linter.unusedVariables false
set_option linter.unusedSimpArgs false
theorem R_put4 {α:Type} {dd:Kd α} {e base g t:Nat} {W:World} {ok:Nat→Prop} {v:Value} {xs:List α} {cells:Array Value} (h:dd.R e W base ok v xs) (hb:W.heap[g]?=some (.cells cells t (0,0))) (ht:∀ q,q∈e :: dd.E→q≠t) (u0 u1 u2 u3:Value):dd.R e ((((W.setCell ⟨g,0,none⟩ u0).setCell ⟨g,1,none⟩ u1).setCell ⟨g,2,none⟩ u2).setCell ⟨g,3,none⟩ u3) base ok v xs:=by
 refine Kd.R_mono (ok:=fun k=>ok k∧k≠g) ?_ (fun _ hk=>hk.1);refine Kd.R_far ?_ (fun _ hk=>hk.2) _;refine Kd.R_far ?_ (fun _ hk=>hk.2) _;refine Kd.R_far ?_ (fun _ hk=>hk.2) _;refine Kd.R_far ?_ (fun _ hk=>hk.2) _;exact Kd.R_types h hb ht
theorem below_put4 {W w:World} {g:Nat} (h:Below w.heap.size w W) (hg:w.heap.size≤g) (u0 u1 u2 u3:Value):Below w.heap.size w ((((W.setCell ⟨g,0,none⟩ u0).setCell ⟨g,1,none⟩ u1).setCell ⟨g,2,none⟩ u2).setCell ⟨g,3,none⟩ u3):=by
 repeat (refine below_set ?_ hg)
 exact h
def Iv (a b:Nat) (k:Nat):Prop:=a≤k∧k < b
section
variable {α:Type} {d:Kd α} {e a b a' b' base n:Nat} {w w1 W W':World} {v:Value} {l l':List α}
theorem R_iv (h:d.R e w1 w.heap.size (fun _=>True) v l):d.R e w1 w.heap.size (Iv w.heap.size w1.heap.size) v l:=Kd.R_mono (Kd.R_bound h) (fun _ hk=>⟨hk.2.1,hk.2.2.1⟩)
theorem S_iv (h:Kd.S d e w1 w.heap.size (fun _=>True) v l):Kd.S d e w1 w.heap.size (Iv w.heap.size w1.heap.size) v l:=Kd.S_mono (Kd.S_bound h) (fun _ hk=>⟨hk.2.1,hk.2.2.1⟩)
theorem R_iv_lower (h:d.R e w1 a (Iv a b) v l) (h1:a'≤a) (h2:b≤b'):d.R e w1 a' (Iv a' b') v l:=Kd.R_mono (Kd.R_lower h h1) (fun _ hk=>⟨Nat.le_trans h1 hk.1,Nat.lt_of_lt_of_le hk.2 h2⟩)
theorem S_iv_lower (h:Kd.S d e w1 a (Iv a b) v l) (h1:a'≤a) (h2:b≤b'):Kd.S d e w1 a' (Iv a' b') v l:=Kd.S_mono (Kd.S_lower h h1) (fun _ hk=>⟨Nat.le_trans h1 hk.1,Nat.lt_of_lt_of_le hk.2 h2⟩)
end
def sumN:Nat→(Nat→Int)→Int
 | 0,_=>0
 | n+1,g=>sumN n g+g n
theorem sumN_add (n:Nat) (g h:Nat→Int):sumN n (fun a=>g a+h a)=sumN n g+sumN n h:=by
 induction n with
 | zero=>rfl
 | succ n ih=>simp only [sumN,ih];omega
theorem sumN_zero (n:Nat):sumN n (fun _=>0)=0:=by
 induction n with
 | zero=>rfl
 | succ n ih=>simp only [sumN,ih];rfl
theorem sumN_one (n:Nat) (z v:Int):sumN n (fun a=>if (a:Int)=z then v else 0)=if 0≤z∧z < (n:Int) then v else 0:=by
 induction n with
 | zero=>rw [if_neg (by omega)];rfl
 | succ n ih =>
  simp only [sumN,ih];by_cases h1:(n:Int)=z
  ·rw [if_pos h1,if_neg (by omega),if_pos (by omega)];omega
  ·rw [if_neg h1];by_cases h2:0≤z∧z < (n:Int)
   ·rw [if_pos h2,if_pos (by omega)];omega
   ·rw [if_neg h2,if_neg (by omega)];rfl
theorem sumN_congr {n:Nat} {g h:Nat→Int} (e:∀ a,a < n→g a=h a):sumN n g=sumN n h:=by
 induction n with
 | zero=>rfl
 | succ n ih=>simp only [sumN];rw [ih (fun a ha=>e a (by omega)),e n (by omega)]
end Go.Proofs.YtnknanppoenigaaGreatDoor.Q
namespace Go.Proofs.YtnknanppoenigaaGreatDoor.Q
open Go.RowKit Go.Proofs.YtnknanppoenigaaGreatDoorW.PrintWords Go.Proofs.YtnknanppoenigaaGreatDoorW.PrintLast Go.Proofs.YtnknanppoenigaaGreatDoorW.PrintMore
attribute [local go_sem] max2_int min2_int max_two min_two max_three min_three max_four min_four
set_option linter.unusedVariables false
set_option linter.unusedSimpArgs false
noncomputable def spec_l2Day.f (a0:Int):Option Bool:=some (inB a0 (0) 40000)
set_option maxRecDepth 100000 in
theorem spec_l2Day.to (a:Int) (w:World):Calls Tryz.prog 31 #[.int .i64 a] w fun e w'=>e = .returned (.bool (inB a (0) 40000))∧w'=w:=by
 go_enter Tryz.func31,Tryz.ntmps31
 go_wp2_with fail
 refine (spec_l1In.to a (0) 40000 _).mono ?_;rintro e w' ⟨rfl,rfl⟩
 go_wp2_with fail
 go_ret
 exact ⟨rfl,rfl⟩
theorem spec_l2Day.calls (a0:Int) (r:Bool) (w:World) (h:spec_l2Day.f a0=some r) :
 Calls Tryz.prog 31 #[.int .i64 a0] w fun e w'=>e = .returned (.bool r)∧Drawn0 w w':=by
 obtain rfl:=Option.some.inj h;exact (spec_l2Day.to a0 w).mono fun e w' ⟨he,hw⟩=>⟨he,hw ▸ Drawn0.refl _⟩
open Classical in
theorem nameOk_end {s:ByteArray} {i:Int} (hi:(s.size:Int)≤i) (h:nameUpto s i):inB (s.size:Int) 1 20=nameOk s:=by
 unfold nameOk inB;have:nameUpto s s.size:=fun j hj0 hj1=>h j hj0 (by omega)
 rw [Bool.eq_iff_iff];simp [this]
 omega
set_option maxHeartbeats 8000000 in
set_option maxRecDepth 100000 in
theorem spec_NameOk.to (a0:ByteArray) (w:World) (hs:a0.size≤9223372036854775807):Calls Tryz.prog 75 #[.string a0] w fun e w'=>e = .returned (.bool (nameOk a0))∧w'=w:=by
 go_enter Tryz.func75,Tryz.ntmps75
 go_wp2_with fail
 go_loop [3] (fun v=>∃ i:Int,0≤i∧i≤(a0.size:Int)∧v = .int .i64 i∧Aside0 (nameUpto a0 i)) (fun v=>(a0.size - (intOf v).toNat))
 case atStart=>exact ⟨0,by omega,by omega,rfl,⟨fun j h0 h1=>by omega⟩⟩
 case round =>
  obtain ⟨i,hi0,hi1,rfl,HT⟩:=hrel;by_cases hlt:i < (a0.size:Int)
  ·have hx:=bt_at a0 i
   go_wp2_with fail
   all_goals first
    | (
     go_round
     case rel=>exact ⟨i+1,by omega,by omega,rfl,⟨name_step hi0 HT.out (by unfold nameB;symm;first | (simp;done) | (simp;omega) | (simp_all;done) | (simp_all;omega))⟩⟩
     case measure=>simp [intOf];omega)
    | (
     go_ret
     exact ⟨ret_bool (nameOk_byte hi0 hlt (by unfold nameB;symm;first | (simp;done) | (simp;omega) | (simp_all;done) | (simp_all;omega))),rfl⟩)
  ·go_wp2_with fail
   refine (spec_l1In.to _ _ _ _).mono ?_;rintro e w' ⟨rfl,rfl⟩
   go_wp2_with fail
   go_ret
   exact ⟨ret_bool (nameOk_end (by omega) HT.out),rfl⟩
set_option maxHeartbeats 4000000 in
set_option maxRecDepth 100000 in
theorem impl_NameOk.to (a0:ByteArray) (w:World):Calls Tryz.prog 88 #[.string a0] w fun e w'=>e = .returned (.bool (nameOk a0))∧w'=w:=by
 by_cases h1:1≤a0.size
 ·by_cases h2:a0.size≤20
  ·go_enter Tryz.func88,Tryz.ntmps88
   go_wp2_with fail
   go_loop [3] (fun v=>∃ i:Int,0≤i∧i≤(a0.size:Int)∧v = .int .i64 i∧Aside0 (nameUpto a0 i)) (fun v=>(a0.size - (intOf v).toNat))
   case atStart=>exact ⟨0,by omega,by omega,rfl,⟨fun j h0 h1=>by omega⟩⟩
   case round =>
    obtain ⟨i,hi0,hi1,rfl,HT⟩:=hrel;by_cases hlt:i < (a0.size:Int)
    ·have hx:=bt_at a0 i
     go_wp2_with fail
     refine (impl_nameByte.to (bt a0 i) _).mono ?_;rintro e w' ⟨rfl,rfl⟩;cases hb:nameB (bt a0 i) with
     | true =>
      have HB:=Aside0.mk hb.symm;clear hb hx
      go_wp2_with fail
      go_round
      case rel=>exact ⟨i+1,by omega,by omega,rfl,⟨name_step hi0 HT.out HB.out⟩⟩
      case measure=>simp [intOf];omega
     | false =>
      have HB:=Aside0.mk hb.symm;clear hb hx
      go_wp2_with fail
      go_ret
      exact ⟨ret_bool (nameOk_byte hi0 hlt HB.out),rfl⟩
    ·go_wp2_with fail
     go_ret
     exact ⟨ret_bool (nameOk_true h1 h2 (by omega) HT.out),rfl⟩
  ·go_enter Tryz.func88,Tryz.ntmps88
   go_wp2_with fail
   go_ret
   exact ⟨ret_bool (nameOk_size (by omega)),rfl⟩
 ·go_enter Tryz.func88,Tryz.ntmps88
  go_wp2_with fail
  go_ret
  exact ⟨ret_bool (nameOk_size (by omega)),rfl⟩
set_option maxRecDepth 100000 in
theorem impl_kindOk.to (a:Int) (w:World):Calls Tryz.prog 89 #[.int .i64 a] w fun e w'=>e = .returned (.bool (inB a (1) 5))∧w'=w:=by
 go_enter Tryz.func89,Tryz.ntmps89
 go_wp2_with fail
 refine (impl_between.to a (1) 5 _).mono ?_;rintro e w' ⟨rfl,rfl⟩
 go_wp2_with fail
 go_ret
 exact ⟨rfl,rfl⟩
set_option maxRecDepth 100000 in
theorem impl_amount.to (a:Int) (w:World):Calls Tryz.prog 47 #[.int .i64 a] w fun e w'=>e = .returned (.bool (inB a (-100000000000) 100000000000))∧w'=w:=by
 go_enter Tryz.func47,Tryz.ntmps47
 go_wp2_with fail
 refine (impl_between.to a (-100000000000) 100000000000 _).mono ?_;rintro e w' ⟨rfl,rfl⟩
 go_wp2_with fail
 go_ret
 exact ⟨rfl,rfl⟩
set_option maxRecDepth 100000 in
theorem impl_isDay.to (a:Int) (w:World):Calls Tryz.prog 27 #[.int .i64 a] w fun e w'=>e = .returned (.bool (inB a (0) 40000))∧w'=w:=by
 go_enter Tryz.func27,Tryz.ntmps27
 go_wp2_with fail
 refine (impl_between.to a (0) 40000 _).mono ?_;rintro e w' ⟨rfl,rfl⟩
 go_wp2_with fail
 go_ret
 exact ⟨rfl,rfl⟩
noncomputable def spec_l1Amount.f (a0:Int):Option Bool:=some (inB a0 (-100000000000) 100000000000)
set_option maxRecDepth 100000 in
theorem spec_l1Amount.to (a:Int) (w:World):Calls Tryz.prog 63 #[.int .i64 a] w fun e w'=>e = .returned (.bool (inB a (-100000000000) 100000000000))∧w'=w:=by
 go_enter Tryz.func63,Tryz.ntmps63
 go_wp2_with fail
 refine (spec_l1In.to a (-100000000000) 100000000000 _).mono ?_;rintro e w' ⟨rfl,rfl⟩
 go_wp2_with fail
 go_ret
 exact ⟨rfl,rfl⟩
theorem spec_l1Amount.calls (a0:Int) (r:Bool) (w:World) (h:spec_l1Amount.f a0=some r) :
 Calls Tryz.prog 63 #[.int .i64 a0] w fun e w'=>e = .returned (.bool r)∧Drawn0 w w':=by
 obtain rfl:=Option.some.inj h;exact (spec_l1Amount.to a0 w).mono fun e w' ⟨he,hw⟩=>⟨he,hw ▸ Drawn0.refl _⟩
mutual
noncomputable def spec_HeadOf.l0:Nat→List (S41)→Int→Int→Option (Int)
 | 0,_,_,_=>none
 | k+1,x0,x3,x4=>if x4 < (x0.length:Int) then (if 0≤x4 then (if (((rd_T41 x0 x4).f3).length:Int) > 60 then (spec_HeadOf.j1 k x0 x3 x4 true) else (spec_HeadOf.j1 k x0 x3 x4 (decide ((((rd_T41 x0 x4).f2).size:Int) > 40)))) else (none)) else (some x3)
noncomputable def spec_HeadOf.j1:Nat→List (S41)→Int→Int→Bool→Option (Int)
 | 0,_,_,_,_=>none
 | k+1,x0,x3,x4,x31=>if x31=true then (some 0) else (if 0≤x4 then (if x4 < (x0.length:Int) then ((spec_l5Numbers.f k ((rd_T41 x0 x4).f0) ((rd_T41 x0 x4).f1) ((rd_T41 x0 x4).f2) ((rd_T41 x0 x4).f3)).bind fun t56004=>(spec_HeadOf.l1 k x0 x3 x4 t56004 0)) else (none)) else (none))
noncomputable def spec_HeadOf.l1:Nat→List (S41)→Int→Int→List Int→Int→Option (Int)
 | 0,_,_,_,_,_=>none
 | k+1,x0,x3,x4,x5,x6=>if x6 < (x5.length:Int) then (if 0≤x6 then ((spec_l1In.f (rd x5 x6) (-549755813888) 549755813887).bind fun t56008=>(if t56008=true then (spec_HeadOf.l1 k x0 (Int.tmod (wrap64 ((wrap64 ((wrap64 (x3 * 1000003))+(rd x5 x6)))+549755813888)) 1099511627791) x4 x5 (wrap64 (x6+1))) else (some 0))) else (none)) else (spec_HeadOf.l0 k x0 x3 (wrap64 (x4+1)))
end
noncomputable def spec_HeadOf.f (k:Nat) (l0:List (S41)):Option (Int):=if (l0.length:Int) > 1000 then (some 0) else (spec_HeadOf.l0 k l0 1 0)
set_option maxHeartbeats 8000000 in
set_option maxRecDepth 100000 in
theorem spec_HeadOf.calls (k:Nat) (A0:Option Addr) (c0:Nat) (l0:List (S41)) (r:Int) (w:World) (hr0:Kd.C k41 w A0 l0.length l0) (hc0:l0.length≤c0) (h:spec_HeadOf.f k l0=some r) :
 Calls Tryz.prog 55 #[.slice A0 l0.length c0] w fun e w'=>e = .returned (.int .i64 r)∧Below w.heap.size w w':=by
 have hu41:=Tryz.underlying41;have HR0:=Aside0.mk hr0;have HC0:=Aside0.mk hc0;clear hr0 hc0;have HB:=Aside0.mk (Below.refl w.heap.size w);have H:(if (l0.length:Int) > 1000 then (some 0) else (spec_HeadOf.l0 k l0 1 0))=some r:=h;clear h;by_cases c2:(l0.length:Int) > 1000
 ·rw [if_pos c2] at H;have c2b0:decide (1000 < (l0.length:Int))=true:=decide_eq_true c2;have c2b1:decide (1000 < l0.length)=true:=decide_eq_true (by omega);clear c2;obtain rfl:=Option.some.inj H
  go_enter Tryz.func55,Tryz.ntmps55
  go_wp2
  go_ret
  exact ⟨by first | rfl | (simp [errW_none,errW_some] <;> rfl) | (simp [*,errW_none,errW_some] <;> rfl),by exact HB.out⟩
 ·rw [if_neg c2] at H;have c2b0:decide (1000 < (l0.length:Int))=false:=decide_eq_false c2;have c2b1:decide (1000 < l0.length)=false:=decide_eq_false (by omega);clear c2;have H':=Aside0.mk H;clear H
  go_enter Tryz.func55,Tryz.ntmps55
  go_wp2
  go_loopg [3,4] k (fun kq v3 v4 w'=>∃ (x3_1:Int) (x4_1:Int),v3 = .int .i64 x3_1∧v4 = .int .i64 x4_1∧Aside0 (spec_HeadOf.l0 kq l0 x3_1 x4_1=some r)∧Aside0 (kq≤k)∧Aside0 (Below w.heap.size w w'))
  case atStart=>exact ⟨(1),(0),(by rfl),(by rfl),H',⟨Nat.le_refl _⟩,⟨HB.out⟩⟩
  case round =>
   clear H';(try clear c2);(try clear c2b0);(try clear c2b1);(try clear p2);obtain ⟨x3_1,x4_1,rfl,rfl,HA,HK1,HB⟩:=hrel;cases gk with
   | zero=>exact absurd HA.out (by simp [spec_HeadOf.l0])
   | succ k1 =>
    have H:=HA.out;clear HA;simp only [spec_HeadOf.l0] at H;by_cases c3:x4_1 < (l0.length:Int)
    ·rw [if_pos c3] at H;have c3b0:decide (x4_1 < (l0.length:Int))=true:=decide_eq_true c3;clear c3;have HC4:=Aside0.mk H;clear H
     go_upto_region 7 with (fail)
     go_cut [31] (fun v31 wc=>∃ (kq:Nat) (x31_3:Bool),v31 = .bool x31_3∧Aside0 (spec_HeadOf.j1 kq l0 x3_1 x4_1 x31_3=some r)∧Aside0 (kq≤k1)∧Aside0 (Below w.heap.size w wc))
     case first =>
      have H:=HC4.out;clear HC4;by_cases c5:0≤x4_1
      ·rw [if_pos c5] at H;have c5b0:decide (0≤x4_1)=true:=decide_eq_true c5;clear c5
       (skip)
       by_cases c6:(((rd_T41 l0 x4_1).f3).length:Int) > 60
       ·rw [if_pos c6] at H;have c6b0:decide (60 < (((rd_T41 l0 x4_1).f3).length:Int))=true:=decide_eq_true c6;have c6b1:decide (60 < ((rd_T41 l0 x4_1).f3).length)=true:=decide_eq_true (by omega);clear c6;have H':=Aside0.mk H;clear H;have p56001:0≤(x4_1:Int):=of_decide_eq_true (by (with_reducible assumption));have q56001:x4_1 < (l0.length:Int):=of_decide_eq_true (by (with_reducible assumption));obtain ⟨ad56001,A56001_3,c56001_3,e56001,hx56001_0,hx56001_1,hx56001_2,hx56001_3,hl56001_3,hi56001_3⟩:=at_T41 HR0.out x4_1 p56001 q56001;cases e56001;replace hx56001_0:=(HB.out.cell (World.block_lt_of_cell? w _ hx56001_0)).trans hx56001_0;replace hx56001_1:=(HB.out.cell (World.block_lt_of_cell? w _ hx56001_1)).trans hx56001_1;replace hx56001_2:=(HB.out.cell (World.block_lt_of_cell? w _ hx56001_2)).trans hx56001_2;replace hx56001_3:=(HB.out.cell (World.block_lt_of_cell? w _ hx56001_3)).trans hx56001_3;have HR56001_3:=Aside0.mk hi56001_3;have HC56001_3:=Aside0.mk hl56001_3;clear hi56001_3 hl56001_3;replace p56001:=eq_true p56001;replace q56001:=eq_true q56001
        go_wp2
        go_meet
        case rel=>exact ⟨_,(true),(by rfl),H',⟨by have:=HK1.out;omega⟩,⟨HB.out⟩⟩
       ·rw [if_neg c6] at H;have c6b0:decide (60 < (((rd_T41 l0 x4_1).f3).length:Int))=false:=decide_eq_false c6;have c6b1:decide (60 < ((rd_T41 l0 x4_1).f3).length)=false:=decide_eq_false (by omega);clear c6;have H':=Aside0.mk H;clear H;have p56001:0≤(x4_1:Int):=of_decide_eq_true (by (with_reducible assumption));have q56001:x4_1 < (l0.length:Int):=of_decide_eq_true (by (with_reducible assumption));obtain ⟨ad56001,A56001_3,c56001_3,e56001,hx56001_0,hx56001_1,hx56001_2,hx56001_3,hl56001_3,hi56001_3⟩:=at_T41 HR0.out x4_1 p56001 q56001;cases e56001;replace hx56001_0:=(HB.out.cell (World.block_lt_of_cell? w _ hx56001_0)).trans hx56001_0;replace hx56001_1:=(HB.out.cell (World.block_lt_of_cell? w _ hx56001_1)).trans hx56001_1;replace hx56001_2:=(HB.out.cell (World.block_lt_of_cell? w _ hx56001_2)).trans hx56001_2;replace hx56001_3:=(HB.out.cell (World.block_lt_of_cell? w _ hx56001_3)).trans hx56001_3;have HR56001_3:=Aside0.mk hi56001_3;have HC56001_3:=Aside0.mk hl56001_3;clear hi56001_3 hl56001_3;replace p56001:=eq_true p56001;replace q56001:=eq_true q56001;have p56002:0≤(x4_1:Int):=of_decide_eq_true (by (with_reducible assumption));have q56002:x4_1 < (l0.length:Int):=of_decide_eq_true (by (with_reducible assumption));obtain ⟨ad56002,A56002_3,c56002_3,e56002,hx56002_0,hx56002_1,hx56002_2,hx56002_3,hl56002_3,hi56002_3⟩:=at_T41 HR0.out x4_1 p56002 q56002;obtain rfl:ad56001=ad56002:=(by injection e56002);replace hx56002_0:=(HB.out.cell (World.block_lt_of_cell? w _ hx56002_0)).trans hx56002_0;replace hx56002_1:=(HB.out.cell (World.block_lt_of_cell? w _ hx56002_1)).trans hx56002_1;replace hx56002_2:=(HB.out.cell (World.block_lt_of_cell? w _ hx56002_2)).trans hx56002_2;replace hx56002_3:=(HB.out.cell (World.block_lt_of_cell? w _ hx56002_3)).trans hx56002_3;have HR56002_3:=Aside0.mk hi56002_3;have HC56002_3:=Aside0.mk hl56002_3;clear hi56002_3 hl56002_3;replace p56002:=eq_true p56002;replace q56002:=eq_true q56002;have ea_:=Option.some.inj (hx56001_3.symm.trans hx56002_3);injection ea_ with ea_ en_ ec_
        subst ea_;subst ec_;clear en_
        go_wp2
        go_meet
        case rel=>exact ⟨_,(decide ((((rd_T41 l0 x4_1).f2).size:Int) > 40)),(by rfl),H',⟨by have:=HK1.out;omega⟩,⟨HB.out⟩⟩
      ·rw [if_neg c5] at H;exact absurd H (by simp)
     case rest =>
      clear HC4;(try clear c2);(try clear c2b0);(try clear c2b1);(try clear p2);(try clear c3);(try clear c3b0);(try clear c5);(try clear c5b0);(try clear p5);(try clear q5);(try clear hx5);(try clear c6);(try clear c6b0);(try clear c6b1);(try clear hx56001_0);(try clear hx56001_1);(try clear hx56001_2);(try clear hx56001_3);(try clear hx56002_0);(try clear hx56002_1);(try clear hx56002_2);(try clear hx56002_3);(try clear p2);(try clear p56001);(try clear p56002);(try clear q56001);(try clear q56002);obtain ⟨kq,x31_3,rfl,HA,HJ3,HB⟩:=hcut;cases kq with
      | zero=>exact absurd HA.out (by simp [spec_HeadOf.j1])
      | succ kj3 =>
       have H:=HA.out;clear HA;simp only [spec_HeadOf.j1] at H;by_cases c7:x31_3=true
       ·subst c7;have H1:(some 0)=some r:=by rw [if_pos rfl] at H;exact H
        clear H;have H:=H1;clear H1;obtain rfl:=Option.some.inj H
        go_wp2
        go_ret
        exact ⟨by first | rfl | (simp [errW_none,errW_some] <;> rfl) | (simp [*,errW_none,errW_some] <;> rfl),by exact HB.out⟩
       ·replace c7:=Bool.eq_false_iff.mpr c7;subst c7;have H1:(if 0≤x4_1 then (if x4_1 < (l0.length:Int) then ((spec_l5Numbers.f kj3 ((rd_T41 l0 x4_1).f0) ((rd_T41 l0 x4_1).f1) ((rd_T41 l0 x4_1).f2) ((rd_T41 l0 x4_1).f3)).bind fun t56004=>(spec_HeadOf.l1 kj3 l0 x3_1 x4_1 t56004 0)) else (none)) else (none))=some r:=by rw [if_neg (show ¬ (false=true) by decide)] at H;exact H
        clear H;have H:=H1;clear H1;by_cases c8:0≤x4_1
        ·rw [if_pos c8] at H;have c8b0:decide (0≤x4_1)=true:=decide_eq_true c8;clear c8;by_cases c9:x4_1 < (l0.length:Int)
         ·rw [if_pos c9] at H;have c9b0:decide (x4_1 < (l0.length:Int))=true:=decide_eq_true c9;clear c9;replace H:=Option.bind_eq_some_iff.mp H;obtain ⟨t56004,A100,H⟩:=H;replace H:(spec_HeadOf.l1 kj3 l0 x3_1 x4_1 t56004 0)=some r:=H;have A10:=Aside0.mk A100;clear A100;have H':=Aside0.mk H;clear H;have p56003:0≤(x4_1:Int):=of_decide_eq_true (by (with_reducible assumption));have q56003:x4_1 < (l0.length:Int):=of_decide_eq_true (by (with_reducible assumption));obtain ⟨ad56003,A56003_3,c56003_3,e56003,hx56003_0,hx56003_1,hx56003_2,hx56003_3,hl56003_3,hi56003_3⟩:=at_T41 HR0.out x4_1 p56003 q56003;cases e56003;replace hx56003_0:=(HB.out.cell (World.block_lt_of_cell? w _ hx56003_0)).trans hx56003_0;replace hx56003_1:=(HB.out.cell (World.block_lt_of_cell? w _ hx56003_1)).trans hx56003_1;replace hx56003_2:=(HB.out.cell (World.block_lt_of_cell? w _ hx56003_2)).trans hx56003_2;replace hx56003_3:=(HB.out.cell (World.block_lt_of_cell? w _ hx56003_3)).trans hx56003_3;have HR56003_3:=Aside0.mk hi56003_3;have HC56003_3:=Aside0.mk hl56003_3;clear hi56003_3 hl56003_3;replace p56003:=eq_true p56003;replace q56003:=eq_true q56003
          go_wp2_with (((with_reducible refine gate_callee (f:=74) rfl ?_);refine goesL_ (some 36) rfl rfl Tryz.func74 (by kernel_rfl) rfl #[.agg #[.int .i64 ((rd_T41 l0 x4_1).f0),.int .i64 ((rd_T41 l0 x4_1).f1),.string ((rd_T41 l0 x4_1).f2),.slice A56003_3 ((rd_T41 l0 x4_1).f3).length c56003_3]] rfl (by (try simp only [List.map_toArray,List.map_cons,List.map_nil]);rfl) ?_;(with_reducible refine (spec_l5Numbers.calls kj3 ((rd_T41 l0 x4_1).f0) ((rd_T41 l0 x4_1).f1) ((rd_T41 l0 x4_1).f2) _ _ ((rd_T41 l0 x4_1).f3) t56004 _ ?side1 ?side2 A10.out).mono ?_);(case side1=>repeat (exact (Kd.C_below HR56003_3.out HB.out)));(case side2=>exact HC56003_3.out);rintro e w11 ⟨v56005,rfl,ho0,hb⟩;refine ⟨_,rfl,?_⟩;have n0_:=Aside0.mk (Kd.R_lower ho0 (below_size HB.out));have n1_:=Aside0.mk (below_step HB.out hb);clear HB;have HO56006:=n0_;have HB:=n1_;clear n0_ n1_;(try clear hb);(try clear hb2);(try clear hk);(try clear hi);(try clear ho0)))
          go_loopg [3,6] kj3 (fun kq v3 v6 w'=>∃ (x3_3:Int) (x6_3:Int),v3 = .int .i64 x3_3∧v6 = .int .i64 x6_3∧Aside0 (spec_HeadOf.l1 kq l0 x3_3 x4_1 t56004 x6_3=some r)∧Aside0 (kq≤kj3)∧Aside0 (Kd.R (Kd.int .i64) 3 w' w.heap.size (fun _=>True) v56005 t56004)∧Aside0 (Below w.heap.size w w'))
          case atStart=>exact ⟨(x3_1),(0),(by rfl),(by rfl),H',⟨Nat.le_refl _⟩,⟨HO56006.out⟩,⟨HB.out⟩⟩
          case round =>
           clear H';(try clear c2);(try clear c2b0);(try clear c2b1);(try clear p2);(try clear c3);(try clear c3b0);(try clear c5);(try clear c5b0);(try clear p5);(try clear q5);(try clear hx5);(try clear c6);(try clear c6b0);(try clear c6b1);(try clear c7);(try clear c8);(try clear c8b0);(try clear c9);(try clear c9b0);(try clear hx56001_0);(try clear hx56001_1);(try clear hx56001_2);(try clear hx56001_3);(try clear hx56002_0);(try clear hx56002_1);(try clear hx56002_2);(try clear hx56002_3);(try clear hx56003_0);(try clear hx56003_1);(try clear hx56003_2);(try clear hx56003_3);(try clear p2);(try clear p5);(try clear p56001);(try clear p56002);(try clear p56003);(try clear q5);(try clear q56001);(try clear q56002);(try clear q56003);obtain ⟨x3_3,x6_3,rfl,rfl,HA,HK3,HO_5,HB⟩:=hrel;cases gk with
           | zero=>exact absurd HA.out (by simp [spec_HeadOf.l1])
           | succ k3 =>
            have H:=HA.out;clear HA;simp only [spec_HeadOf.l1] at H;by_cases c12:x6_3 < (t56004.length:Int)
            ·rw [if_pos c12] at H;have c12b0:decide (x6_3 < (t56004.length:Int))=true:=decide_eq_true c12;clear c12;by_cases c13:0≤x6_3
             ·rw [if_pos c13] at H;have c13b0:decide (0≤x6_3)=true:=decide_eq_true c13;clear c13;replace H:=Option.bind_eq_some_iff.mp H;obtain ⟨t56008,A140,H⟩:=H;replace H:(if t56008=true then (spec_HeadOf.l1 k3 l0 (Int.tmod (wrap64 ((wrap64 ((wrap64 (x3_3 * 1000003))+(rd t56004 x6_3)))+549755813888)) 1099511627791) x4_1 t56004 (wrap64 (x6_3+1))) else (some 0))=some r:=H;have A14:=Aside0.mk A140;clear A140;by_cases c15:t56008=true
              ·subst c15;have H1:(spec_HeadOf.l1 k3 l0 (Int.tmod (wrap64 ((wrap64 ((wrap64 (x3_3 * 1000003))+(rd t56004 x6_3)))+549755813888)) 1099511627791) x4_1 t56004 (wrap64 (x6_3+1)))=some r:=by rw [if_pos rfl] at H;exact H
               clear H;have H:=H1;clear H1;have H':=Aside0.mk H;clear H;obtain ⟨Ao16,co16,eo16⟩:=Kd.R_slice HO_5.out;subst eo16;have p56007:0≤(x6_3:Int):=of_decide_eq_true (by (with_reducible assumption));have q56007:x6_3 < (t56004.length:Int):=of_decide_eq_true (by (with_reducible assumption));obtain ⟨ad56007,e56007,hx56007_0⟩:=Kd.at_int (Kd.R_reads' HO_5.out).2.2 x6_3 p56007 q56007;cases e56007;replace p56007:=eq_true p56007;replace q56007:=eq_true q56007
               go_wp2_with (((with_reducible refine gate_callee (f:=23) rfl ?_);refine goesL_ (some 47) rfl rfl Tryz.func23 (by kernel_rfl) rfl #[.int .i64 (rd t56004 x6_3),.int .i64 (-549755813888),.int .i64 549755813887] rfl (by (try simp only [List.map_toArray,List.map_cons,List.map_nil]);rfl) ?_;(with_reducible refine (spec_l1In.calls (rd t56004 x6_3) (-549755813888) 549755813887 true _ A14.out).mono ?_);rintro e w' ⟨rfl,⟨nd,rfl⟩⟩;refine ⟨_,rfl,?_⟩;have p56009:0≤(x6_3:Int):=of_decide_eq_true (by (with_reducible assumption));have q56009:x6_3 < (t56004.length:Int):=of_decide_eq_true (by (with_reducible assumption));obtain ⟨ad56009,e56009,hx56009_0⟩:=Kd.at_int (Kd.R_reads' HO_5.out).2.2 x6_3 p56009 q56009;obtain rfl:ad56007=ad56009:=(by injection e56009);replace p56009:=eq_true p56009;replace q56009:=eq_true q56009))
               go_roundg k3
               case measure=>have:=HK1.out;have:=HJ3.out;have:=HK3.out;omega
               case rel=>exact ⟨(Int.tmod (wrap64 ((wrap64 ((wrap64 (x3_3 * 1000003))+(rd t56004 x6_3)))+549755813888)) 1099511627791),(wrap64 (x6_3+1)),(by rfl),(by rfl),H',⟨by have:=HK1.out;have:=HJ3.out;have:=HK3.out;omega⟩,⟨by (with_reducible repeat (apply Kd.R_drewN));exact HO_5.out⟩,⟨by repeat ((with_reducible first | exact HB.out | apply pw_below_drewN))⟩⟩
              ·replace c15:=Bool.eq_false_iff.mpr c15;subst c15;have H1:(some 0)=some r:=by rw [if_neg (show ¬ (false=true) by decide)] at H;exact H
               clear H;have H:=H1;clear H1;obtain rfl:=Option.some.inj H;obtain ⟨Ao17,co17,eo17⟩:=Kd.R_slice HO_5.out;subst eo17;have p56007:0≤(x6_3:Int):=of_decide_eq_true (by (with_reducible assumption));have q56007:x6_3 < (t56004.length:Int):=of_decide_eq_true (by (with_reducible assumption));obtain ⟨ad56007,e56007,hx56007_0⟩:=Kd.at_int (Kd.R_reads' HO_5.out).2.2 x6_3 p56007 q56007;cases e56007;replace p56007:=eq_true p56007;replace q56007:=eq_true q56007
               go_wp2_with (((with_reducible refine gate_callee (f:=23) rfl ?_);refine goesL_ (some 47) rfl rfl Tryz.func23 (by kernel_rfl) rfl #[.int .i64 (rd t56004 x6_3),.int .i64 (-549755813888),.int .i64 549755813887] rfl (by (try simp only [List.map_toArray,List.map_cons,List.map_nil]);rfl) ?_;(with_reducible refine (spec_l1In.calls (rd t56004 x6_3) (-549755813888) 549755813887 false _ A14.out).mono ?_);rintro e w' ⟨rfl,⟨nd,rfl⟩⟩;refine ⟨_,rfl,?_⟩))
               go_ret
               exact ⟨by first | rfl | (simp [errW_none,errW_some] <;> rfl) | (simp [*,errW_none,errW_some] <;> rfl),by repeat ((with_reducible first | exact HB.out | apply pw_below_drewN))⟩
             ·rw [if_neg c13] at H;exact absurd H (by simp)
            ·rw [if_neg c12] at H;have c12b0:decide (x6_3 < (t56004.length:Int))=false:=decide_eq_false c12;clear c12;have H':=Aside0.mk H;clear H;obtain ⟨Ao18,co18,eo18⟩:=Kd.R_slice HO_5.out;subst eo18
             go_wp2
             go_roundg k3
             case measure=>have:=HK1.out;have:=HJ3.out;have:=HK3.out;omega
             case rel=>exact ⟨(x3_3),(wrap64 (x4_1+1)),(by rfl),(by rfl),H',⟨by have:=HK1.out;have:=HJ3.out;have:=HK3.out;omega⟩,⟨HB.out⟩⟩
         ·rw [if_neg c9] at H;exact absurd H (by simp)
        ·rw [if_neg c8] at H;exact absurd H (by simp)
    ·rw [if_neg c3] at H;have c3b0:decide (x4_1 < (l0.length:Int))=false:=decide_eq_false c3;clear c3;obtain rfl:=Option.some.inj H
     go_wp2
     go_ret
     exact ⟨by first | rfl | (simp [errW_none,errW_some] <;> rfl) | (simp [*,errW_none,errW_some] <;> rfl),by exact HB.out⟩
def selL (a d c:Int) (x:Lin):Bool:=(decide (a = -1) || decide (a=x.f0)) && (decide (d = -1) || decide (d=x.f1)) && (decide (c = -1) || decide (c=x.f2))
def amtL (a d c:Int):List Lin→Int
 | []=>0
 | x :: l=>(if selL a d c x=true then x.f3 else 0)+amtL a d c l
def basL (a d c:Int):List Lin→Int
 | []=>0
 | x :: l=>(if selL a d c x=true then x.f4 else 0)+basL a d c l
def amtV (a d c fr tt:Int):List Ent→Int
 | []=>0
 | e :: l=>(if inB e.f0 fr tt=true then amtL a d c e.f3 else 0)+amtV a d c fr tt l
def basV (a d c fr tt:Int):List Ent→Int
 | []=>0
 | e :: l=>(if inB e.f0 fr tt=true then basL a d c e.f3 else 0)+basV a d c fr tt l
def lineFine (x:Lin):Prop:=(-100000000000≤x.f3∧x.f3≤100000000000)∧(-100000000000≤x.f4∧x.f4≤100000000000)
def entFine (e:Ent):Prop:=e.f3.length≤60∧∀ x∈e.f3,lineFine x
theorem amtL_b (a d c:Int) (l:List Lin) (h:∀ x∈l,lineFine x):-100000000000 * (l.length:Int)≤amtL a d c l∧amtL a d c l≤100000000000 * (l.length:Int):=by
 induction l with
 | nil=>simp [amtL]
 | cons x l ih =>
  have h1:=ih (fun y hy=>h y (List.mem_cons_of_mem _ hy));have h2:=(h x List.mem_cons_self).1;simp only [amtL,List.length_cons]
  split <;> (push_cast;omega)
theorem basL_b (a d c:Int) (l:List Lin) (h:∀ x∈l,lineFine x):-100000000000 * (l.length:Int)≤basL a d c l∧basL a d c l≤100000000000 * (l.length:Int):=by
 induction l with
 | nil=>simp [basL]
 | cons x l ih =>
  have h1:=ih (fun y hy=>h y (List.mem_cons_of_mem _ hy));have h2:=(h x List.mem_cons_self).2;simp only [basL,List.length_cons]
  split <;> (push_cast;omega)
theorem basV_b (a d c fr tt:Int) (l:List Ent) (h:∀ e∈l,entFine e):-6000000000000 * (l.length:Int)≤basV a d c fr tt l∧basV a d c fr tt l≤6000000000000 * (l.length:Int):=by
 induction l with
 | nil=>simp [basV]
 | cons x l ih =>
  have h1:=ih (fun y hy=>h y (List.mem_cons_of_mem _ hy));have h2:=h x List.mem_cons_self;have h3:=basL_b a d c x.f3 h2.2;have h4:=h2.1;simp only [basV,List.length_cons]
  split <;> (push_cast;omega)
theorem drop_at {α:Type} {l:List α} {z:α} {i:Int} (h0:0≤i) (h1:i < (l.length:Int)):l.drop i.toNat=l.getD i.toNat z :: l.drop (i+1).toNat:=by
 rw [show (i+1).toNat=i.toNat+1 by omega,List.drop_eq_getElem_cons (by omega),List.getD_eq_getElem?_getD,List.getElem?_eq_getElem (by omega)];rfl
theorem mem_at {α:Type} {l:List α} {z:α} {i:Int} (h0:0≤i) (h1:i < (l.length:Int)):l.getD i.toNat z∈l:=by
 rw [List.getD_eq_getElem?_getD,List.getElem?_eq_getElem (by omega)];exact List.getElem_mem _
theorem wrin {p:Int} (h0:-4611686018427387904≤p) (h1:p≤4611686018427387904):wrap64 p=p:=by unfold wrap64;omega
def mapN (N:Nat) (g:Nat→Int):List Int:=(List.range N).map g
theorem mapN_len (N:Nat) (g:Nat→Int):(mapN N g).length=N:=by unfold mapN;simp
theorem mapN_rd {N:Nat} {g:Nat→Int} {a:Int} (h0:0≤a) (h1:a < (N:Int)):rd (mapN N g) a=g a.toNat:=by
 unfold rd mapN;rw [List.getD_eq_getElem?_getD,List.getElem?_map,List.getElem?_range (by omega)];rfl
theorem mapN_set {N:Nat} {g:Nat→Int} {a:Nat} {v:Int}:(mapN N g).set a v=mapN N (fun j=>if j=a then v else g j):=by
 apply List.ext_getElem?;intro j;unfold mapN;rw [List.getElem?_set];by_cases hj:j < N
 ·rw [List.getElem?_map,List.getElem?_map,List.getElem?_range hj];by_cases e:a=j
  ·subst e;simp [hj]
  ·rw [if_neg e];simp [Ne.symm e]
 ·rw [List.getElem?_eq_none (l:=List.map _ _) (by simp;omega)]
  split
  ·rename_i e
   subst e;simp [hj]
  ·rw [List.getElem?_eq_none (by simp;omega)]
theorem mapN_congr {N:Nat} {f g:Nat→Int} (h:∀ a,a < N→f a=g a):mapN N f=mapN N g:=by
 unfold mapN;exact List.map_congr_left (fun a ha=>h a (List.mem_range.1 ha))
theorem mapN_zero (N:Nat):List.replicate N 0=mapN N (fun _=>0):=by
 apply List.ext_getElem?;intro j;unfold mapN;rw [List.getElem?_replicate,List.getElem?_map];by_cases hj:j < N
 ·rw [List.getElem?_range hj,if_pos hj];rfl
 ·rw [List.getElem?_eq_none (by simp;omega),if_neg hj];rfl
theorem selL_acc {a:Nat} {d:Int} {x:Lin} (h0:0≤x.f0):selL (a:Int) d (-1) x=(decide (a=x.f0.toNat) && (decide (d = -1) || decide (x.f1=d))):=by
 unfold selL;have h1:¬ ((a:Int) = -1):=by omega
 have h2:((a:Int)=x.f0)=(a=x.f0.toNat):=by apply propext;omega
 have h3:(d=x.f1)=(x.f1=d):=propext ⟨Eq.symm,Eq.symm⟩;simp [h1,h2,h3]
def basesP (N:Nat) (es:List Ent):Prop:=1≤N∧N≤1000∧es.length≤1000∧(∀ e∈es,entFine e)∧(∀ e∈es,∀ x∈e.f3,0≤x.f0∧x.f0 < (N:Int))
theorem R_copy {α:Type} (P:Program) (d:Kd α) {Rr:α→List Value→Prop} {W:World} {base e g n cap sCap:Nat} {ad:Addr} {xs ys:List α} {ok:Nat→Prop} (HO:d.R e W base ok (.slice (some ⟨g,0,none⟩) n cap) xs) (HR:ReadsRow Rr d.sz W (some ad) n ys)
 (hKM:∀ (w:World) x cs,Rr x cs→d.M w base (fun _=>False) x cs) (hs0:0 < d.sz) (dT sT ty:TypeId) (hu:P.underlying dT=some (.slice e)) (hs:(P.info? e).map (·.size)=some d.sz) :
 ∃ w1,(Builtin.copy_ #[dT,sT] ty #[.slice (some ⟨g,0,none⟩) n cap,.slice (some ad) n sCap]).run P W = .ok (goInt n) w1∧d.R e w1 base ok (.slice (some ⟨g,0,none⟩) n cap) ys∧W.grownBy w1 (some g):=by
 obtain ⟨news,hnr,hnc⟩:=ReadsRow.inner_ HR;have hyl:ys.length=n:=HR.1;subst hyl;have hnl:news.length=ys.length * d.sz:=hnr.1;have hxl:=(Kd.R_reads' HO).1;obtain ⟨hok,inner,⟨hil,hown⟩,hr⟩:=HO;rcases hown with ⟨h,_⟩ | ⟨g',cap',cur,hv,hbase,hheap,hnc',hcm,hcs,htk⟩
 ·cases h
 ·injection hv with ha hn hc
  injection ha with ha
  injection ha with ha
  subst ha hc
  have hone:∀ u∈news,u.oneCell'=true:=by
   intro u hu;obtain ⟨q,hq,rfl⟩:=List.mem_iff_getElem.1 hu
   have hql:q / d.sz < ys.length:=by
    rw [Nat.div_lt_iff_lt_mul hs0,← hnr.1];exact hq
   have hc:=hnr.2 (q / d.sz) _ (List.getElem?_eq_getElem hql);refine d.K_one (d.K_of_M (hKM W _ _ hc)) _ ?_;rw [List.mem_iff_getElem?];refine ⟨q % d.sz,?_⟩;rw [List.getElem?_take,if_pos (Nat.mod_lt _ hs0),List.getElem?_drop,Nat.mul_comm,Nat.div_add_mod,List.getElem?_eq_getElem hq]
  have hnc2:ys.length≤cap:=by omega
  have hle:ys.length * d.sz≤cur.size:=by rw [hcs];exact Nat.mul_le_mul_right _ hnc2
  have hl:=run_loadCells_list (P:=P) W ad news hnc;have hst:=run_storeCells_at P g 0 e news 0 cur W hheap (by rw [hnl];omega) hone;have hcells:(cur.toList.take (0+0)++news++cur.toList.drop (0+0+news.length))=news++cur.toList.drop news.length:=by simp
  rw [hcells] at hst
  have hq:∃ i0,P.info? e=some i0∧i0.size=d.sz:=by
   cases hq:P.info? e with
   | none=>simp [hq] at hs
   | some i=>exact ⟨i,rfl,by simpa [hq] using hs⟩
  obtain ⟨i0,hi0,hi1⟩:=hq;refine ⟨W.setRow g (news++cur.toList.drop news.length).toArray,?_,⟨hok,news,⟨hnl,.inr ⟨g,cap,_,rfl,hbase,setRow_heap W g cur _ e (0,0) hheap,hnc2,hcm,?_,?_⟩⟩,?_⟩,?_⟩
  ·simp [Builtin.copy_,run_underlying hu,Builtin.lenOf,Builtin.firstCells,sizeOf,typeInfo,hi0,hi1,← hnl,hl,hst]
  ·simp [← hcs]
   omega
  ·simp [← hnl]
  ·exact hnr.imp_ (fun p c hp=>d.M_mono (fun _ hk=>hk.elim) (hKM _ p c hp))
  ·exact ⟨rfl,rfl,rfl,by simp,fun k hk hne=>setRow_other W g k _ (fun e=>hne (by rw [e]))⟩
theorem run_copy_zero (P:Program) (W:World) (dT sT ty e:TypeId) (D A:Option Addr) (cD cA:Nat) (hu:P.underlying dT=some (.slice e)) (hs:((P.info? e).map (·.size)).isSome=true) :
 (Builtin.copy_ #[dT,sT] ty #[.slice D 0 cD,.slice A 0 cA]).run P W = .ok (goInt 0) W:=by
 cases hq:P.info? e with
 | none=>simp [hq] at hs
 | some i=>cases D <;> cases A <;> simp [Builtin.copy_,run_underlying hu,Builtin.lenOf,Builtin.firstCells,sizeOf,typeInfo,hq,loadCells,loadCellsFrom,storeCells]
set_option maxHeartbeats 8000000 in
set_option maxRecDepth 100000 in
theorem impl_copyEntry.to (a0 a1:Int) (a2:ByteArray) (A:Option Addr) (c:Nat) (l:List Lin) (w:World) (hr:Kd.C k67 w A l.length l) (hl:l.length≤1048576) :
 Calls Tryz.prog 44 #[.agg #[.int .i64 a0,.int .i64 a1,.string a2,.slice A l.length c]] w fun e w'=>∃ v:Value,e = .returned (.agg #[.int .i64 a0,.int .i64 a1,.string a2,v])∧Kd.R k67 67 w' w.heap.size (fun _=>True) v l∧Below w.heap.size w w':=by
 have HR:=Aside0.mk hr;have HB0:=Aside0.mk (below_two w (.cells #[.int .i64 a0,.int .i64 a1,.string a2,.slice A l.length c] 41) (.cells #[.int .i64 0,.int .i64 0,.string ⟨#[]⟩,.slice none 0 0] 41));clear hr
 go_enter Tryz.func44,Tryz.ntmps44
 go_wp2_with ((with_reducible refine gate_dst (N:=7) rfl ?_);refine Kd.R_make k67 _ 67 rfl (N:=7) rfl 39 _ _ rfl (l.length:Int) rfl rfl Tryz.underlying39 (.agg #[(.int .i64 0),(.int .i64 0),(.int .i64 0),(.int .i64 0),(.int .i64 0)]) 40 info67 rfl (by decide) (by omega) z67 (ok:=fun _=>True) (okp:=fun _=>True) (k67_mkM _ _ _ z67) (fun _ hk=>hk) trivial (by omega) (by simp;omega) (Below.refl _ _) (Nat.le_refl _) ?_;intro v1 w1 ho hb hg hnew;have f3:w1.cell? ⟨w.heap.size,3,none⟩=some (.slice A l.length c):=y01 hb (by go_simp))
 have RR:=Aside0.mk (Kd.R_lower (Kd.R_mono (ok':=fun k=>w.heap.size+2≤k) (Kd.R_bound ho) (fun k hk=>by have:=hk.2.1;simpa using this)) (base':=w.heap.size) (by simp;omega));obtain ⟨A1,c1,hv⟩:=Kd.R_slice RR.out;rw [List.length_replicate,Int.toNat_natCast] at hv;subst hv;have HB:=Aside0.mk (below_into (w:=w) hb HB0.out);have f0:w1.cell? ⟨w.heap.size,0,none⟩=some (.int .i64 a0):=y01 hb (by go_simp);have f1:w1.cell? ⟨w.heap.size,1,none⟩=some (.int .i64 a1):=y01 hb (by go_simp);have f2:w1.cell? ⟨w.heap.size,2,none⟩=some (.string a2):=y01 hb (by go_simp);have g0:w1.cell? ⟨w.heap.size+1,0,none⟩=some (.int .i64 0):=y01 hb (by go_simp);have g1:w1.cell? ⟨w.heap.size+1,1,none⟩=some (.int .i64 0):=y01 hb (by go_simp);have g2:w1.cell? ⟨w.heap.size+1,2,none⟩=some (.string ⟨#[]⟩):=y01 hb (by go_simp);have g3:w1.cell? ⟨w.heap.size+1,3,none⟩=some (.slice none 0 0):=y01 hb (by go_simp);have z0:w1.frozen? ⟨w.heap.size,3,none⟩=false:=(hb.frozen (p:=⟨w.heap.size,3,none⟩) (by simp;omega)).trans (by go_simp);have k0:w1.frozen? ⟨w.heap.size+1,0,none⟩=false:=(hb.frozen (p:=⟨w.heap.size+1,0,none⟩) (by simp)).trans (by go_simp);have k1:w1.frozen? ⟨w.heap.size+1,1,none⟩=false:=(hb.frozen (p:=⟨w.heap.size+1,1,none⟩) (by simp)).trans (by go_simp);have k2:w1.frozen? ⟨w.heap.size+1,2,none⟩=false:=(hb.frozen (p:=⟨w.heap.size+1,2,none⟩) (by simp)).trans (by go_simp);have k3:w1.frozen? ⟨w.heap.size+1,3,none⟩=false:=(hb.frozen (p:=⟨w.heap.size+1,3,none⟩) (by simp)).trans (by go_simp);have hz1:w.heap.size+1 < w1.heap.size:=World.block_lt_of_cell? _ _ g0;have hz0:w.heap.size < w1.heap.size:=by omega
 obtain ⟨w2,hrun,R2,hg2⟩:∃ w2,(Builtin.copy_ #[39,39] 3 #[.slice A1 l.length c1,.slice A l.length c]).run Tryz.prog w1 = .ok (goInt l.length) w2∧Kd.R k67 67 w2 w.heap.size (fun k=>w.heap.size+2≤k) (.slice A1 l.length c1) l∧Below (w.heap.size+2) w1 w2:=by
  by_cases h0:l.length=0
  ·have hl0:l=[]:=List.eq_nil_of_length_eq_zero h0;refine ⟨w1,?_,?_,Below.refl _ _⟩
   ·rw [h0];exact run_copy_zero Tryz.prog w1 39 39 3 67 A1 A c1 c Tryz.underlying39 (by kernel_rfl)
   ·have:=RR.out;rw [Int.toNat_natCast,h0] at this;rw [h0,hl0];exact this
  ·obtain ⟨g,cap,e1,hgb,_⟩:=Kd.R_form RR.out (by simp;omega);rw [List.length_replicate,Int.toNat_natCast] at e1;injection e1 with ea _ ec
   subst ea ec;have hgk:=RR.out.1 g rfl;obtain ⟨ad,hA,_⟩:=(Kd.C_below HR.out HB.out).2.2 (by omega);subst hA;obtain ⟨w2,h1,h2,h3⟩:=R_copy Tryz.prog k67 (sCap:=c) RR.out (Kd.C_below HR.out HB.out) (fun W x cs hk=>by rw [k67_open hk];exact k67_mkM _ _ _ _) (by decide) 39 39 3 Tryz.underlying39 (by kernel_rfl);exact ⟨w2,h1,h2,(Below.refl _ w1).grown h3 (by omega) (fun k hk=>by injection hk with hk;omega)⟩
 have R2':=Aside0.mk R2;have HB2:=Aside0.mk (HB.out.trans (hg2.mono (by omega)));replace f0:=(hg2.cell (p:=⟨w.heap.size,0,none⟩) (by simp)).trans f0;replace f1:=(hg2.cell (p:=⟨w.heap.size,1,none⟩) (by simp)).trans f1;replace f2:=(hg2.cell (p:=⟨w.heap.size,2,none⟩) (by simp)).trans f2;replace f3:=(hg2.cell (p:=⟨w.heap.size,3,none⟩) (by simp)).trans f3;replace g0:=(hg2.cell (p:=⟨w.heap.size+1,0,none⟩) (by simp)).trans g0;replace g1:=(hg2.cell (p:=⟨w.heap.size+1,1,none⟩) (by simp)).trans g1;replace g2:=(hg2.cell (p:=⟨w.heap.size+1,2,none⟩) (by simp)).trans g2;replace g3:=(hg2.cell (p:=⟨w.heap.size+1,3,none⟩) (by simp)).trans g3;replace k0:=(hg2.frozen (p:=⟨w.heap.size+1,0,none⟩) (by simp)).trans k0;replace k1:=(hg2.frozen (p:=⟨w.heap.size+1,1,none⟩) (by simp)).trans k1;replace k2:=(hg2.frozen (p:=⟨w.heap.size+1,2,none⟩) (by simp)).trans k2;replace k3:=(hg2.frozen (p:=⟨w.heap.size+1,3,none⟩) (by simp)).trans k3;have z0':=(hg2.frozen (p:=⟨w.heap.size,3,none⟩) (by simp)).trans z0;have hw2:w.heap.size+1 < w2.heap.size:=World.block_lt_of_cell? _ _ g0;have hw0:w.heap.size < w2.heap.size:=by omega
 clear R2 hg2 RR HB hb ho hg hnew HB0 HR z0;rw [hrun];clear hrun
 go_wp2_with fail
 have hR:=R2'.out;refine bodyPost_ret (v:=.agg #[.int .i64 a0,.int .i64 a1,.string a2,.slice A1 l.length c1]) (by simp [results,Tryz.results44,go_sem];go_simp) rfl ⟨_,rfl,?_,?_⟩
 ·refine Kd.R_mono (ok:=fun k=>w.heap.size+2≤k) ?_ (fun _ _=>trivial)
  (repeat (refine Kd.R_far ?_ (fun k hk=>by simp;omega) _))
  exact hR
 ·(repeat (refine below_set ?_ (by simp <;> omega)))
  exact HB2.out
theorem made_row {α:Type} (P:Program) (d:Kd α) (e t:TypeId) (z:Value) (bytes:Nat) (ht:P.underlying t=some (.slice e)) (hinfo:(P.info? e).map (fun i=>(i.zero,i.size,i.bytes))=some (some z,d.sz,bytes)) (hz:z.cells.size=d.sz) (hs0:0 < d.sz) (hb0:0 < bytes)
 (z0:α) (hzero:∀ W base,d.M W base (fun _=>False) z0 z.cells.toList) (m:Nat) (hl:m * bytes≤281474976710656) :
 ∃ cs:Array Value,(∀ W:World,(Instr.makeSlice t (.int .i64 (m:Int)) (.int .i64 (m:Int))).run P W = .ok (.slice (some ⟨W.heap.size,0,none⟩) m m) (W.alloc (.cells cs e))) ∧
  ∀ (W:World) (base:Nat) (ok:Nat→Prop),base≤W.heap.size→ok W.heap.size→Kd.S d e (W.alloc (.cells cs e)) base ok (.slice (some ⟨W.heap.size,0,none⟩) m m) (List.replicate m z0):=by
 obtain ⟨i0,hi,hzz⟩:=Option.map_eq_some_iff.1 hinfo;simp only [Prod.mk.injEq] at hzz;obtain ⟨hz0,hz1,hz2⟩:=hzz;have hm:m≤281474976710656:=Nat.le_trans (Nat.le_mul_of_pos_right _ hb0) hl;refine ⟨madeCells z.cells (m * d.sz),fun W=>?_,fun W base ok hb hok=>?_⟩
 ·have hr:=run_make (P:=P) W t e i0 z ht hi hz0 .i64 .i64 (m:Int) (m:Int) (by omega) (by omega)
   (by
    have h3:((i0.bytes * m:Nat):Int)≤281474976710656:=by rw [hz2,Nat.mul_comm];omega
    rwa [Int.natCast_mul] at h3) (by omega)
  simp only [Int.toNat_natCast] at hr;rw [hz1] at hr;exact hr
 ·have hrep:=Kd.reps_made hz hs0 (hzero (W.alloc (.cells (madeCells z.cells (m * d.sz)) e)) base) m;refine Kd.S_bare ⟨fun k hk=>?_,(madeCells z.cells (m * d.sz)).toList,?_,hrep⟩
  ·have:W.heap.size=k:=by simpa [Value.ownBlock] using hk
   subst this;exact hok
  ·have h2:=World.ownsRow_lit (base:=base) (e:=e) (size:=d.sz) W (madeCells z.cells (m * d.sz)) m hb (by simp [maxLen];omega) (by simp [size_madeCells]);have h3:(W.alloc (Obj.cells (madeCells z.cells (m * d.sz)) e)).ownsRow base e d.sz (.slice (some ⟨W.heap.size,0,none⟩) m m) m (madeCells z.cells (m * d.sz)).toList:=by simpa using h2
   simp only [List.length_replicate];exact h3
theorem take_fill1 {α:Type} (x l:List α) (z:α) (i:Nat) (h:i < l.length) (hx:x.length=l.length) (ht:x.take i=l.take i):(x.set i (l.getD i z)).take (i+1)=l.take (i+1):=by
 rw [List.take_add_one,List.take_add_one,List.take_set,ht,List.getElem?_set_self (by omega),List.getD_eq_getElem?_getD,List.getElem?_eq_getElem h];rw [List.set_eq_of_length_le (by simp;omega)];simp
theorem wrap_add1 (i:Int) (h0:0≤i) (h1:i≤1048576):IntKind.i64.wrap (i+1)=i+1:=by rw [IntKind.wrap_i64];omega
theorem cell_off {W:World} {p q:Addr} {r:Option Value} (h:q.block≠p.block) (u:Value) (hc:W.cell? q=r):(W.setCell p u).cell? q=r:=(World.cell?_of_block (Below.heap_setCell W p u q.block h)).trans hc
theorem frozen_off {W:World} {p q:Addr} {r:Bool} (h:q.block≠p.block) (u:Value) (hc:W.frozen? q=r):(W.setCell p u).frozen? q=r:=(World.frozen?_of_block (Below.heap_setCell W p u q.block h)).trans hc
set_option maxHeartbeats 8000000 in
set_option maxRecDepth 100000 in
theorem impl_copyLedger.to (A:Option Addr) (c:Nat) (h0:Int) (l:List S41) (w:World) (hr:Kd.C k41 w A l.length l) (hl:l.length≤1048576) (hs:∀ y∈l,y.f3.length≤1048576) :
 Calls Tryz.prog 43 #[.agg #[.slice A l.length c,.int .i64 h0]] w fun e w'=>∃ v:Value,e = .returned (.agg #[v,.int .i64 h0])∧Kd.S k41 41 w' w.heap.size (fun _=>True) v l∧Below w.heap.size w w':=by
 have HR:=Aside0.mk hr;clear hr;have HB:=Aside0.mk (Below.refl w.heap.size w)
 go_enter Tryz.func43,Tryz.ntmps43
 have f0:((w.alloc (Obj.cells #[Value.slice A l.length c,Value.int IntKind.i64 h0] 29)).alloc (Obj.cells #[Value.slice none 0 0,Value.int IntKind.i64 0] 29)).cell? ⟨w.heap.size,0,none⟩=some (.slice A l.length c):=by go_simp
 have f1:((w.alloc (Obj.cells #[Value.slice A l.length c,Value.int IntKind.i64 h0] 29)).alloc (Obj.cells #[Value.slice none 0 0,Value.int IntKind.i64 0] 29)).cell? ⟨w.heap.size,1,none⟩=some (.int .i64 h0):=by go_simp
 go_upto_region 1 with fail
 go_cut [3] (fun s3 wx=>∃ (b:Nat) (v:Value),s3 = .pointer (some ⟨b,0,none⟩)∧w.heap.size+2≤b∧wx.cell? ⟨b,0,none⟩=some v∧wx.cell? ⟨b,1,none⟩=some (.int .i64 h0)∧wx.cell? ⟨w.heap.size,0,none⟩=some (.slice A l.length c)∧wx.cell? ⟨w.heap.size+1,0,none⟩=some (.slice none 0 0)∧wx.cell? ⟨w.heap.size+1,1,none⟩=some (.int .i64 0)∧wx.frozen? ⟨w.heap.size+1,0,none⟩=false∧wx.frozen? ⟨w.heap.size+1,1,none⟩=false∧Aside0 (Kd.S k41 41 wx (w.heap.size+2) (fun k=>k≠b) v (List.replicate l.length z41))∧Aside0 (Below w.heap.size w wx))
 case first =>
  obtain ⟨cs,hmk,hS⟩:=made_row Tryz.prog k41 41 27 (.agg #[(.int .i64 0),(.int .i64 0),(.string ⟨#[]⟩),(.slice none 0 0)]) 56 Tryz.underlying27 infoEntry rfl (by decide) (by omega) z41 (fun W base=>k41_mkM _ _ _ z41 (Kd.R_nil _ _ _ _ _)) l.length (by omega)
  go_region_held3 (fun w'=>w'.cell? ⟨w.heap.size,0,none⟩=some (.slice A l.length c)∧w'.cell? ⟨w.heap.size,1,none⟩=some (.int .i64 h0)) ((go_keep))
   ((fail))
  all_goals (try go_wp2_with fail)
  all_goals go_meet
  ·refine ⟨w.heap.size+1+1+1,.slice (some ⟨w.heap.size+1+1,0,none⟩) l.length l.length,rfl,by omega,by go_simp,by go_simp,by go_simp,by go_simp,by go_simp,by go_simp,by go_simp,⟨Kd.S_drew (Kd.S_alloc (by simpa using hS ((w.alloc (Obj.cells #[Value.slice A l.length c,Value.int IntKind.i64 h0] 29)).alloc (Obj.cells #[Value.slice none 0 0,Value.int IntKind.i64 0] 29)) (w.heap.size+2) (fun k=>k≠w.heap.size+1+1+1) (by simp) (by simp)) _)⟩,⟨by repeat (first | exact Below.refl _ _ | refine below_drew ?_ | refine below_alloc ?_ _)⟩⟩
  ·refine ⟨w.heap.size+1+1,.slice (some ⟨w.heap.size+1+1+1,0,none⟩) l.length l.length,rfl,by omega,by go_simp,by go_simp,by go_simp,by go_simp,by go_simp,by go_simp,by go_simp,⟨Kd.S_drew (by simpa using hS (((w.alloc (Obj.cells #[Value.slice A l.length c,Value.int IntKind.i64 h0] 29)).alloc (Obj.cells #[Value.slice none 0 0,Value.int IntKind.i64 0] 29)).alloc (Obj.cells #[Value.slice (some ⟨w.heap.size+1+1+1,0,none⟩) l.length l.length,Value.int IntKind.i64 h0] 29)) (w.heap.size+2) (fun k=>k≠w.heap.size+1+1) (by simp) (by simp))⟩,⟨by repeat (first | exact Below.refl _ _ | refine below_drew ?_ | refine below_alloc ?_ _)⟩⟩
 case rest =>
  obtain ⟨b,v,rfl,hb2,g0,g1,e0,r0,r1,q0,q1,HS,HB'⟩:=hcut;obtain ⟨A1,c1,hv⟩:=Kd.R_slice (Kd.S_R HS.out);rw [List.length_replicate] at hv;subst hv
  go_wp2_with fail
  go_loopg [16] l.length (fun kq v16 w'=>∃ (i:Int) (x:List S41),v16 = .int .i64 i∧0≤i∧i≤(l.length:Int)∧kq+i.toNat=l.length∧x.length=l.length∧x.take i.toNat=l.take i.toNat∧w'.cell? ⟨b,0,none⟩=some (.slice A1 l.length c1)∧w'.cell? ⟨b,1,none⟩=some (.int .i64 h0)∧w'.cell? ⟨w.heap.size+1,0,none⟩=some (.slice none 0 0)∧w'.cell? ⟨w.heap.size+1,1,none⟩=some (.int .i64 0)∧w'.frozen? ⟨w.heap.size+1,0,none⟩=false∧w'.frozen? ⟨w.heap.size+1,1,none⟩=false∧Aside0 (Kd.S k41 41 w' (w.heap.size+2) (fun k=>k≠b) (.slice A1 l.length c1) x)∧Aside0 (Below w.heap.size w w'))
  case atStart=>exact ⟨0,_,rfl,by omega,by omega,by simp,by simp,by simp,g0,g1,r0,r1,q0,q1,HS,HB'⟩
  case round =>
   clear g0 g1 r0 r1 q0 q1 HS HB' HB;obtain ⟨i,x,rfl,p0,ple,hki,hxl,htk,g0,g1,r0,r1,q0,q1,HS,HB⟩:=hrel;by_cases hlt:i < (l.length:Int)
   ·obtain ⟨k1,rfl⟩:∃ k1,gk=k1+1:=⟨gk - 1,by omega⟩;have cc:decide (i < (l.length:Int))=true:=decide_eq_true (by omega);obtain ⟨ad,A3,c3,eA,x0,x1,x2,x3,hl3,hi3⟩:=at_T41 HR.out i p0 hlt;subst eA;replace x0:=(HB.out.cell (World.block_lt_of_cell? w _ x0)).trans x0;replace x1:=(HB.out.cell (World.block_lt_of_cell? w _ x1)).trans x1;replace x2:=(HB.out.cell (World.block_lt_of_cell? w _ x2)).trans x2;replace x3:=(HB.out.cell (World.block_lt_of_cell? w _ x3)).trans x3;have HI:=Aside0.mk hi3;clear hi3;have p0':=eq_true p0;have q0':=eq_true hlt
    go_wp2_with fail
    have hb1:=World.block_lt_of_cell? _ _ g0;obtain ⟨g,co,eo,gb,gl,cells,HG⟩:=Kd.S_form HS.out (by omega);injection eo with ea en ec
    clear en;subst ea ec;generalize hmt:(rd_T41 l i).f0=t0 at *;generalize hm1:(rd_T41 l i).f1=t1 at *;generalize hm2:(rd_T41 l i).f2=t2 at *;have hf3:(rd_T41 l i).f3.length≤1048576:=hs _ (by unfold rd_T41;rw [List.getD_eq_getElem?_getD,List.getElem?_eq_getElem (by omega)];simp);generalize hm3:(rd_T41 l i).f3=t3 at *;obtain ⟨_,ce,hcl,hM,hcc,hfr,_,_⟩:=Kd.S_elem HS.out z41 i p0 (by omega);obtain ⟨ve,rfl,_⟩:=k41_openM hM;have y0:wr.cell? ⟨g,i.toNat * 4,none⟩=some (.int .i64 (x.getD i.toNat z41).f0):=hcc 0 _ rfl;have y1:wr.cell? ⟨g,i.toNat * 4+1,none⟩=some (.int .i64 (x.getD i.toNat z41).f1):=hcc 1 _ rfl;have y2:wr.cell? ⟨g,i.toNat * 4+2,none⟩=some (.string (x.getD i.toNat z41).f2):=hcc 2 _ rfl;have y3:wr.cell? ⟨g,i.toNat * 4+3,none⟩=some ve:=hcc 3 _ rfl;have z0:wr.frozen? ⟨g,i.toNat * 4,none⟩=false:=hfr 0;have z1:wr.frozen? ⟨g,i.toNat * 4+1,none⟩=false:=hfr 1;have z2:wr.frozen? ⟨g,i.toNat * 4+2,none⟩=false:=hfr 2;have z3:wr.frozen? ⟨g,i.toNat * 4+3,none⟩=false:=hfr 3;have hS:=Aside0.mk HS.out;have gl':=Aside0.mk gl;have hkk:=Aside0.mk (And.intro hki (And.intro hxl htk));have hmm:=Aside0.mk (show (⟨t0,t1,t2,t3⟩:S41)=l.getD i.toNat z41 by rw [← hmt,← hm1,← hm2,← hm3];rfl);have hss:=Aside0.mk hs;have hll:=Aside0.mk hl;have hgb:=Aside0.mk gb;clear hki htk hmt hm1 hm2 hm3 hs hl gb ple;have hG:=Aside0.mk HG;clear hM hcc hfr hcl HS HG;have p4:decide (i < (l.length:Int))=true:=decide_eq_true hlt;have hb1:b < wr.heap.size:=World.block_lt_of_cell? _ _ g0;have hBA:=Aside0.mk (below_alloc (Below.refl wr.heap.size wr) (Obj.cells #[.int .i64 t0,.int .i64 t1,.string t2,.slice A3 t3.length c3] 41));have nbg:b≠g:=fun e=>(Kd.S_R hS.out).1 g rfl e.symm
    have nwg:wr.heap.size≠g:=by omega
    have K0:(wr.alloc (Obj.cells #[.int .i64 t0,.int .i64 t1,.string t2,.slice A3 t3.length c3] 41)).drew.cell? ⟨b,0,none⟩=some (.slice (some ⟨g,0,none⟩) l.length c1):=((below_drew hBA.out).cell hb1).trans g0;have K1:(wr.alloc (Obj.cells #[.int .i64 t0,.int .i64 t1,.string t2,.slice A3 t3.length c3] 41)).drew.cell? ⟨wr.heap.size,0,none⟩=some (.int .i64 t0):=by go_simp
    have K2:(wr.alloc (Obj.cells #[.int .i64 t0,.int .i64 t1,.string t2,.slice A3 t3.length c3] 41)).drew.cell? ⟨wr.heap.size,1,none⟩=some (.int .i64 t1):=by go_simp
    have K3:(wr.alloc (Obj.cells #[.int .i64 t0,.int .i64 t1,.string t2,.slice A3 t3.length c3] 41)).drew.cell? ⟨wr.heap.size,2,none⟩=some (.string t2):=by go_simp
    have K4:(wr.alloc (Obj.cells #[.int .i64 t0,.int .i64 t1,.string t2,.slice A3 t3.length c3] 41)).drew.cell? ⟨wr.heap.size,3,none⟩=some (.slice A3 t3.length c3):=by go_simp
    go_region_held3 (fun w'=>w'.cell? ⟨b,0,none⟩=some (.slice (some ⟨g,0,none⟩) l.length c1)∧w'.cell? ⟨wr.heap.size,0,none⟩=some (.int .i64 t0)∧w'.cell? ⟨wr.heap.size,1,none⟩=some (.int .i64 t1)∧w'.cell? ⟨wr.heap.size,2,none⟩=some (.string t2)∧w'.cell? ⟨wr.heap.size,3,none⟩=some (.slice A3 t3.length c3))
     ((first | exact ⟨K0,K1,K2,K3,K4⟩ | exact ⟨y01 hb K0,y01 hb K1,y01 hb K2,y01 hb K3,y01 hb K4⟩ | exact ⟨by (repeat (refine cell_off nbg _ ?_));exact y01 hb K0,by (repeat (refine cell_off nwg _ ?_));exact y01 hb K1,by (repeat (refine cell_off nwg _ ?_));exact y01 hb K2,by (repeat (refine cell_off nwg _ ?_));exact y01 hb K3,by (repeat (refine cell_off nwg _ ?_));exact y01 hb K4⟩))
     ((go_at_call 44;refine (impl_copyEntry.to t0 t1 t2 A3 c3 t3 _ (by repeat (first | exact Kd.C_below HI.out HB.out | refine Kd.C_drew ?_ | refine Kd.C_alloc ?_ _)) hf3).mono ?_;rintro e2 w2 ⟨vv,rfl,R2,hb⟩;obtain ⟨A5,c5,rfl⟩:=Kd.R_slice R2;have Y0:=y01 hb (((below_drew hBA.out).cell (p:=⟨g,i.toNat * 4,none⟩) gl).trans y0);have Y1:=y01 hb (((below_drew hBA.out).cell (p:=⟨g,i.toNat * 4+1,none⟩) gl).trans y1);have Y2:=y01 hb (((below_drew hBA.out).cell (p:=⟨g,i.toNat * 4+2,none⟩) gl).trans y2);have Y3:=y01 hb (((below_drew hBA.out).cell (p:=⟨g,i.toNat * 4+3,none⟩) gl).trans y3);have hgl:g < (wr.alloc (Obj.cells #[.int .i64 t0,.int .i64 t1,.string t2,.slice A3 t3.length c3] 41)).drew.heap.size:=(by simp;omega);have Z0:=(hb.frozen (p:=⟨g,i.toNat * 4,none⟩) hgl).trans (((below_drew hBA.out).frozen (p:=⟨g,i.toNat * 4,none⟩) gl).trans z0);have Z1:=(hb.frozen (p:=⟨g,i.toNat * 4+1,none⟩) hgl).trans (((below_drew hBA.out).frozen (p:=⟨g,i.toNat * 4+1,none⟩) gl).trans z1);have Z2:=(hb.frozen (p:=⟨g,i.toNat * 4+2,none⟩) hgl).trans (((below_drew hBA.out).frozen (p:=⟨g,i.toNat * 4+2,none⟩) gl).trans z2);have Z3:=(hb.frozen (p:=⟨g,i.toNat * 4+3,none⟩) hgl).trans (((below_drew hBA.out).frozen (p:=⟨g,i.toNat * 4+3,none⟩) gl).trans z3)))
    all_goals (
     have HR5:=Kd.R_lower (Kd.R_mono (ok':=fun k=>k≠b) (Kd.R_bound R2) (fun k hk=>by have:=hk.2.1;simp at this;omega)) (base':=w.heap.size+2) (by simp;omega);have HO:=Kd.S_elder' (Kd.S_drew (Kd.S_alloc hS.out (Obj.cells #[.int .i64 t0,.int .i64 t1,.string t2,.slice A3 t3.length c3] 41))) (Kd.R_base R2) hb;have HX:Kd.S k41 41 w2 (w.heap.size+2) (fun k=>k≠b∧¬ (some k=(Value.slice A5 t3.length c5).ownBlock)) (.slice (some ⟨g,0,none⟩) l.length c1) x:=HO;obtain ⟨oki,ce,hcl,hM,hcc,hfr,hoki,hH⟩:=Kd.S_elem HX z41 i p0 hlt;obtain ⟨ve2,rfl,ge2⟩:=k41_openM hM;have HT:=Kd.R_mono (ok':=fun k=>k≠b∧k≠g) (Kd.R_apart' HR5 (Kd.S_typed HO) (by decide)) (fun k hk=>⟨hk.1,fun e=>hk.2 (by rw [e];rfl)⟩);have HP:=Kd.S_seg hH p0 hlt (seg:=[.int .i64 t0,.int .i64 t1,.string t2,(Value.slice A5 t3.length c5)]) (j:=0) (show 4≤4 from by decide) (x':=(⟨t0,t1,t2,t3⟩:S41)) (k41_mkM _ _ _ (⟨t0,t1,t2,t3⟩:S41) (Kd.R_mono (Kd.R_tight rfl HT) (fun _ h=>Or.inr h))) (fun _ hk=>hk) (fun k hk=>HT.1 k hk.symm);have hr1:w.heap.size+1 < wr.heap.size:=World.block_lt_of_cell? _ _ r0;have nrg:w.heap.size+1≠g:=by have:=hgb.out;omega
     have HB2:=below_into (w:=w) hb (below_drew (below_alloc HB.out (Obj.cells #[.int .i64 t0,.int .i64 t1,.string t2,.slice A3 t3.length c3] 41)));have hlw:w.heap.size+1 < (wr.alloc (Obj.cells #[.int .i64 t0,.int .i64 t1,.string t2,.slice A3 t3.length c3] 41)).drew.heap.size:=by simp;omega
     generalize hwf:((((w2.setCell ⟨g,i.toNat * 4,none⟩ (Value.int IntKind.i64 t0)).setCell ⟨g,i.toNat * 4+1,none⟩ (Value.int IntKind.i64 t1)).setCell ⟨g,i.toNat * 4+2,none⟩ (Value.string t2)).setCell ⟨g,i.toNat * 4+3,none⟩ (Value.slice A5 t3.length c5))=wf;have HPf:Kd.S k41 41 wf (w.heap.size+2) (fun k=>k≠b) (.slice (some ⟨g,0,none⟩) l.length c1) (x.set i.toNat (⟨t0,t1,t2,t3⟩:S41)):=by rw [← hwf];exact HP.1
     have G0:wf.cell? ⟨b,0,none⟩=some (.slice (some ⟨g,0,none⟩) l.length c1):=by rw [← hwf];(repeat (refine cell_off nbg _ ?_));exact y01 hb K0
     have G1:wf.cell? ⟨b,1,none⟩=some (.int .i64 h0):=by rw [← hwf];(repeat (refine cell_off nbg _ ?_));exact y01 hb (((below_drew hBA.out).cell hb1).trans g1)
     have R0:wf.cell? ⟨w.heap.size+1,0,none⟩=some (.slice none 0 0):=by rw [← hwf];(repeat (refine cell_off nrg _ ?_));exact y01 hb (((below_drew hBA.out).cell hr1).trans r0)
     have R1:wf.cell? ⟨w.heap.size+1,1,none⟩=some (.int .i64 0):=by rw [← hwf];(repeat (refine cell_off nrg _ ?_));exact y01 hb (((below_drew hBA.out).cell hr1).trans r1)
     have Q0:wf.frozen? ⟨w.heap.size+1,0,none⟩=false:=by rw [← hwf];(repeat (refine frozen_off nrg _ ?_));exact (hb.frozen (p:=⟨w.heap.size+1,0,none⟩) hlw).trans (((below_drew hBA.out).frozen (p:=⟨w.heap.size+1,0,none⟩) hr1).trans q0)
     have Q1:wf.frozen? ⟨w.heap.size+1,1,none⟩=false:=by rw [← hwf];(repeat (refine frozen_off nrg _ ?_));exact (hb.frozen (p:=⟨w.heap.size+1,1,none⟩) hlw).trans (((below_drew hBA.out).frozen (p:=⟨w.heap.size+1,1,none⟩) hr1).trans q1)
     have HBf:Below w.heap.size w wf:=by rw [← hwf];(repeat (refine below_set ?_ (by have:=hgb.out;simp <;> omega)));exact HB2
     have hwr:IntKind.i64.wrap (i+1)=i+1:=wrap_add1 i p0 (by have:=hll.out;omega);clear hwf HP HT ge2 hH hoki hfr hcc hM hcl HX HO HR5 Y0 Y1 Y2 Y3 Z0 Z1 Z2 Z3 R2 hb K0 K1 K2 K3 K4 g0 g1 r0 r1 q0 q1 HB hBA y0 y1 y2 y3 z0 z1 z2 z3 x0 x1 x2 x3
     go_wp2_with fail
     go_roundg k1
     case measure=>omega
     case rel =>
      obtain ⟨h1,h2,h3⟩:=hkk.out;refine ⟨i+1,x.set i.toNat (⟨t0,t1,t2,t3⟩:S41),(by rfl),by omega,by omega,by omega,by simpa using h2,?_,G0,G1,R0,R1,Q0,Q1,⟨HPf⟩,⟨HBf⟩⟩;rw [show (i+1).toNat=i.toNat+1 by omega,hmm.out]
      exact take_fill1 x l z41 i.toNat (by omega) h2 h3)
   ·have cc:decide (i < (l.length:Int))=false:=decide_eq_false (by omega)
    have hx:x=l:=by
     rw [List.take_of_length_le (by omega),List.take_of_length_le (by omega)] at htk;exact htk
    subst hx
    go_wp2_with fail
    refine bodyPost_ret (v:=.agg #[.slice A1 x.length c1,.int .i64 h0]) (by simp [results,Tryz.results43,go_sem];go_simp) rfl ⟨_,rfl,?_,?_⟩
    ·refine Kd.S_mono (ok:=fun k=>w.heap.size+2≤k) ?_ (fun _ _=>trivial)
     (repeat (refine Kd.S_far ?_ (fun k hk=>by simp;omega) _))
     exact Kd.S_lower (Kd.S_mono (Kd.S_bound HS.out) (fun k hk=>hk.2.1)) (by omega)
    ·(repeat (refine below_set ?_ (by simp <;> omega)))
     exact HB.out
open Classical in
noncomputable def impl_copyLedger.f (l:List S41) (h:Int):Option (List S41 × Int):=if l.length≤1048576∧∀ y∈l,y.f3.length≤1048576 then some (l,h) else none
theorem impl_copyLedger.calls (A0_0:Option Addr) (c0_0:Nat) (l0_0:List S41) (a0_1:Int) (r1:List S41) (r2:Int) (w:World) (hr0_0:Kd.C k41 w A0_0 l0_0.length l0_0) (hc0_0:l0_0.length≤c0_0) (h:impl_copyLedger.f l0_0 a0_1=some (r1,r2)) :
 Calls Tryz.prog 43 #[.agg #[.slice A0_0 l0_0.length c0_0,.int .i64 a0_1]] w fun e w'=>∃ v0_:Value,e = .returned (.agg #[v0_,.int .i64 r2])∧Kd.S k41 41 w' w.heap.size (fun _=>True) v0_ r1∧Below w.heap.size w w':=by
 unfold impl_copyLedger.f at h
 split at h
 ·rename_i hl
  simp only [Option.some.injEq,Prod.mk.injEq] at h;obtain ⟨rfl,rfl⟩:=h;exact impl_copyLedger.to A0_0 c0_0 a0_1 l0_0 w hr0_0 hl.1 hl.2
 ·cases h
noncomputable def impl_factor.f (a0:Int):Option (Bool):=(impl_between.f a0 0 10000000).bind fun t60001=>(some t60001)
set_option maxHeartbeats 8000000 in
set_option maxRecDepth 100000 in
theorem impl_factor.calls (a0:Int) (r:Bool) (w:World) (h:impl_factor.f a0=some r) :
 Calls Tryz.prog 59 #[.int .i64 a0] w fun e w'=>e = .returned (.bool r)∧Drawn0 w w':=by
 have H:((impl_between.f a0 0 10000000).bind fun t60001=>(some t60001))=some r:=h;clear h;replace H:=Option.bind_eq_some_iff.mp H;obtain ⟨t60001,A20,H⟩:=H;replace H:(some t60001)=some r:=H;have A2:=Aside0.mk A20;clear A20;obtain rfl:=Option.some.inj H
 go_enter Tryz.func59,Tryz.ntmps59
 go_wp2_with (first | ((with_reducible refine gate_callee (f:=26) rfl ?_);refine goesL_ (some 4) rfl rfl Tryz.func26 (by kernel_rfl) rfl #[.int .i64 a0,.int .i64 0,.int .i64 10000000] rfl (by (try simp only [List.map_toArray,List.map_cons,List.map_nil]);first | done | rfl | (simp only [List.length_drop,List.length_take];rfl)) ?_;(with_reducible refine (impl_between.calls a0 0 10000000 t60001 _ A2.out).mono ?_);rintro e w' ⟨rfl,⟨nd,rfl⟩⟩;refine ⟨_,rfl,?_⟩))
 go_ret
 exact ⟨by first | rfl | (simp;done) | (simp [*];done),by repeat (first | exact Drawn0.refl _ | apply Drawn0.step)⟩
noncomputable def spec_l1Factor.f (a0:Int):Option (Bool):=(spec_l1In.f a0 0 10000000).bind fun t65001=>(some t65001)
set_option maxHeartbeats 8000000 in
set_option maxRecDepth 100000 in
theorem spec_l1Factor.calls (a0:Int) (r:Bool) (w:World) (h:spec_l1Factor.f a0=some r) :
 Calls Tryz.prog 64 #[.int .i64 a0] w fun e w'=>e = .returned (.bool r)∧Drawn0 w w':=by
 have H:((spec_l1In.f a0 0 10000000).bind fun t65001=>(some t65001))=some r:=h;clear h;replace H:=Option.bind_eq_some_iff.mp H;obtain ⟨t65001,A20,H⟩:=H;replace H:(some t65001)=some r:=H;have A2:=Aside0.mk A20;clear A20;obtain rfl:=Option.some.inj H
 go_enter Tryz.func64,Tryz.ntmps64
 go_wp2_with (first | ((with_reducible refine gate_callee (f:=23) rfl ?_);refine goesL_ (some 4) rfl rfl Tryz.func23 (by kernel_rfl) rfl #[.int .i64 a0,.int .i64 0,.int .i64 10000000] rfl (by (try simp only [List.map_toArray,List.map_cons,List.map_nil]);first | done | rfl | (simp only [List.length_drop,List.length_take];rfl)) ?_;(with_reducible refine (spec_l1In.calls a0 0 10000000 t65001 _ A2.out).mono ?_);rintro e w' ⟨rfl,⟨nd,rfl⟩⟩;refine ⟨_,rfl,?_⟩))
 go_ret
 exact ⟨by first | rfl | (simp;done) | (simp [*];done),by repeat (first | exact Drawn0.refl _ | apply Drawn0.step)⟩
end Go.Proofs.YtnknanppoenigaaGreatDoor.Q
namespace Go.Proofs.YtnknanppoenigaaGreatDoor.Q
open Go.RowKit Go.Proofs.YtnknanppoenigaaGreatDoorW.PrintWords Go.Proofs.YtnknanppoenigaaGreatDoorW.PrintLast Go.Proofs.YtnknanppoenigaaGreatDoorW.PrintMore
set_option linter.unusedVariables false
set_option linter.unusedSimpArgs false
structure Sent (w:World) (A:Nat→Addr):Prop where
 cell:∀ i,i < 5→w.cell? ⟨i,0,none⟩=some (.iface 155 (.pointer (some (A i))))
 row:∀ i,i < 5→∃ c t,w.heap[(A i).block]?=some (.cells c t (0,0))
 apart:∀ i j,i < 5→j < 5→i≠j→A i≠A j
theorem Sent.below {w w':World} {A:Nat→Addr} {n:Nat} (h:Sent w A) (hb:Below n w w') (hn:n=w.heap.size):Sent w' A:=by
 subst hn;refine ⟨fun i hi=>y01 hb (h.cell i hi),fun i hi=>?_,h.apart⟩;obtain ⟨c,t,hr⟩:=h.row i hi;refine ⟨c,t,(hb.block _ ?_).trans hr⟩;rcases Nat.lt_or_ge (A i).block w.heap.size with q | q
 ·exact q
 ·rw [Array.getElem?_eq_none q] at hr;cases hr
set_option maxRecDepth 100000 in
theorem codeOf_0 (A:Nat→Addr) (pb:Nat) (w:World) (hS:Sent w A) (h1:w.cell? ⟨pb,0+1,none⟩=some (.iface 155 (.pointer (some (A 0))))) :
 Calls Tryz.prog 35 #[.iface 112 (.pointer (some ⟨pb,0,none⟩))] w fun e w'=>e = .returned (.int .i64 1)∧w'=w:=by
 have g0:=hS.cell 0 (by omega);have g1:=hS.cell 1 (by omega);have g2:=hS.cell 2 (by omega);have g3:=hS.cell 3 (by omega);have g4:=hS.cell 4 (by omega);obtain ⟨c0,t0,r0⟩:=hS.row 0 (by omega);obtain ⟨c1,t1,r1⟩:=hS.row 1 (by omega);obtain ⟨c2,t2,r2⟩:=hS.row 2 (by omega);obtain ⟨c3,t3,r3⟩:=hS.row 3 (by omega);obtain ⟨c4,t4,r4⟩:=hS.row 4 (by omega);clear hS;generalize A 0=a0 at *;generalize A 1=a1 at *;generalize A 2=a2 at *;generalize A 3=a3 at *;generalize A 4=a4 at *
 go_enter Tryz.func35,Tryz.ntmps35
 go_wp2_with fail
 refine (er_same pb 0 a0 _ h1).mono ?_;rintro x w' ⟨rfl,rfl⟩
 go_wp2_with fail
 go_ret
 exact ⟨rfl,rfl⟩
set_option maxRecDepth 100000 in
theorem codeOf_1 (A:Nat→Addr) (pb:Nat) (w:World) (hS:Sent w A) (h1:w.cell? ⟨pb,0+1,none⟩=some (.iface 155 (.pointer (some (A 1))))) :
 Calls Tryz.prog 35 #[.iface 112 (.pointer (some ⟨pb,0,none⟩))] w fun e w'=>e = .returned (.int .i64 2)∧w'=w:=by
 have g0:=hS.cell 0 (by omega);have g1:=hS.cell 1 (by omega);have g2:=hS.cell 2 (by omega);have g3:=hS.cell 3 (by omega);have g4:=hS.cell 4 (by omega);obtain ⟨c0,t0,r0⟩:=hS.row 0 (by omega);obtain ⟨c1,t1,r1⟩:=hS.row 1 (by omega);obtain ⟨c2,t2,r2⟩:=hS.row 2 (by omega);obtain ⟨c3,t3,r3⟩:=hS.row 3 (by omega);obtain ⟨c4,t4,r4⟩:=hS.row 4 (by omega);have n0:=hS.apart 1 0 (by omega) (by omega) (by omega);clear hS;generalize A 0=a0 at *;generalize A 1=a1 at *;generalize A 2=a2 at *;generalize A 3=a3 at *;generalize A 4=a4 at *
 go_enter Tryz.func35,Tryz.ntmps35
 go_wp2_with fail
 refine (er_other pb 0 a0 a1 c1 c0 t1 t0 _ h1 n0 r1 r0).mono ?_;rintro x w' ⟨rfl,rfl⟩
 go_wp2_with fail
 refine (er_same pb 0 a1 _ h1).mono ?_;rintro x w' ⟨rfl,rfl⟩
 go_wp2_with fail
 go_ret
 exact ⟨rfl,rfl⟩
set_option maxRecDepth 100000 in
theorem codeOf_2 (A:Nat→Addr) (pb:Nat) (w:World) (hS:Sent w A) (h1:w.cell? ⟨pb,0+1,none⟩=some (.iface 155 (.pointer (some (A 2))))) :
 Calls Tryz.prog 35 #[.iface 112 (.pointer (some ⟨pb,0,none⟩))] w fun e w'=>e = .returned (.int .i64 3)∧w'=w:=by
 have g0:=hS.cell 0 (by omega);have g1:=hS.cell 1 (by omega);have g2:=hS.cell 2 (by omega);have g3:=hS.cell 3 (by omega);have g4:=hS.cell 4 (by omega);obtain ⟨c0,t0,r0⟩:=hS.row 0 (by omega);obtain ⟨c1,t1,r1⟩:=hS.row 1 (by omega);obtain ⟨c2,t2,r2⟩:=hS.row 2 (by omega);obtain ⟨c3,t3,r3⟩:=hS.row 3 (by omega);obtain ⟨c4,t4,r4⟩:=hS.row 4 (by omega);have n0:=hS.apart 2 0 (by omega) (by omega) (by omega);have n1:=hS.apart 2 1 (by omega) (by omega) (by omega);clear hS;generalize A 0=a0 at *;generalize A 1=a1 at *;generalize A 2=a2 at *;generalize A 3=a3 at *;generalize A 4=a4 at *
 go_enter Tryz.func35,Tryz.ntmps35
 go_wp2_with fail
 refine (er_other pb 0 a0 a2 c2 c0 t2 t0 _ h1 n0 r2 r0).mono ?_;rintro x w' ⟨rfl,rfl⟩
 go_wp2_with fail
 refine (er_other pb 0 a1 a2 c2 c1 t2 t1 _ h1 n1 r2 r1).mono ?_;rintro x w' ⟨rfl,rfl⟩
 go_wp2_with fail
 refine (er_same pb 0 a2 _ h1).mono ?_;rintro x w' ⟨rfl,rfl⟩
 go_wp2_with fail
 go_ret
 exact ⟨rfl,rfl⟩
set_option maxRecDepth 100000 in
theorem codeOf_3 (A:Nat→Addr) (pb:Nat) (w:World) (hS:Sent w A) (h1:w.cell? ⟨pb,0+1,none⟩=some (.iface 155 (.pointer (some (A 3))))) :
 Calls Tryz.prog 35 #[.iface 112 (.pointer (some ⟨pb,0,none⟩))] w fun e w'=>e = .returned (.int .i64 4)∧w'=w:=by
 have g0:=hS.cell 0 (by omega);have g1:=hS.cell 1 (by omega);have g2:=hS.cell 2 (by omega);have g3:=hS.cell 3 (by omega);have g4:=hS.cell 4 (by omega);obtain ⟨c0,t0,r0⟩:=hS.row 0 (by omega);obtain ⟨c1,t1,r1⟩:=hS.row 1 (by omega);obtain ⟨c2,t2,r2⟩:=hS.row 2 (by omega);obtain ⟨c3,t3,r3⟩:=hS.row 3 (by omega);obtain ⟨c4,t4,r4⟩:=hS.row 4 (by omega);have n0:=hS.apart 3 0 (by omega) (by omega) (by omega);have n1:=hS.apart 3 1 (by omega) (by omega) (by omega);have n2:=hS.apart 3 2 (by omega) (by omega) (by omega);clear hS;generalize A 0=a0 at *;generalize A 1=a1 at *;generalize A 2=a2 at *;generalize A 3=a3 at *;generalize A 4=a4 at *
 go_enter Tryz.func35,Tryz.ntmps35
 go_wp2_with fail
 refine (er_other pb 0 a0 a3 c3 c0 t3 t0 _ h1 n0 r3 r0).mono ?_;rintro x w' ⟨rfl,rfl⟩
 go_wp2_with fail
 refine (er_other pb 0 a1 a3 c3 c1 t3 t1 _ h1 n1 r3 r1).mono ?_;rintro x w' ⟨rfl,rfl⟩
 go_wp2_with fail
 refine (er_other pb 0 a2 a3 c3 c2 t3 t2 _ h1 n2 r3 r2).mono ?_;rintro x w' ⟨rfl,rfl⟩
 go_wp2_with fail
 refine (er_same pb 0 a3 _ h1).mono ?_;rintro x w' ⟨rfl,rfl⟩
 go_wp2_with fail
 go_ret
 exact ⟨rfl,rfl⟩
set_option maxRecDepth 100000 in
theorem codeOf_4 (A:Nat→Addr) (pb:Nat) (w:World) (hS:Sent w A) (h1:w.cell? ⟨pb,0+1,none⟩=some (.iface 155 (.pointer (some (A 4))))) :
 Calls Tryz.prog 35 #[.iface 112 (.pointer (some ⟨pb,0,none⟩))] w fun e w'=>e = .returned (.int .i64 5)∧w'=w:=by
 have g0:=hS.cell 0 (by omega);have g1:=hS.cell 1 (by omega);have g2:=hS.cell 2 (by omega);have g3:=hS.cell 3 (by omega);have g4:=hS.cell 4 (by omega);obtain ⟨c0,t0,r0⟩:=hS.row 0 (by omega);obtain ⟨c1,t1,r1⟩:=hS.row 1 (by omega);obtain ⟨c2,t2,r2⟩:=hS.row 2 (by omega);obtain ⟨c3,t3,r3⟩:=hS.row 3 (by omega);obtain ⟨c4,t4,r4⟩:=hS.row 4 (by omega);have n0:=hS.apart 4 0 (by omega) (by omega) (by omega);have n1:=hS.apart 4 1 (by omega) (by omega) (by omega);have n2:=hS.apart 4 2 (by omega) (by omega) (by omega);have n3:=hS.apart 4 3 (by omega) (by omega) (by omega);clear hS;generalize A 0=a0 at *;generalize A 1=a1 at *;generalize A 2=a2 at *;generalize A 3=a3 at *;generalize A 4=a4 at *
 go_enter Tryz.func35,Tryz.ntmps35
 go_wp2_with fail
 refine (er_other pb 0 a0 a4 c4 c0 t4 t0 _ h1 n0 r4 r0).mono ?_;rintro x w' ⟨rfl,rfl⟩
 go_wp2_with fail
 refine (er_other pb 0 a1 a4 c4 c1 t4 t1 _ h1 n1 r4 r1).mono ?_;rintro x w' ⟨rfl,rfl⟩
 go_wp2_with fail
 refine (er_other pb 0 a2 a4 c4 c2 t4 t2 _ h1 n2 r4 r2).mono ?_;rintro x w' ⟨rfl,rfl⟩
 go_wp2_with fail
 refine (er_other pb 0 a3 a4 c4 c3 t4 t3 _ h1 n3 r4 r3).mono ?_;rintro x w' ⟨rfl,rfl⟩
 go_wp2_with fail
 refine (er_same pb 0 a4 _ h1).mono ?_;rintro x w' ⟨rfl,rfl⟩
 go_wp2_with fail
 go_ret
 exact ⟨rfl,rfl⟩
set_option maxRecDepth 100000 in
theorem codeOf_nil (A:Nat→Addr) (w:World) (hS:Sent w A) :
 Calls Tryz.prog 35 #[.nilIface] w fun e w'=>e = .returned (.int .i64 0)∧w'=w:=by
 have g0:=hS.cell 0 (by omega);have g1:=hS.cell 1 (by omega);have g2:=hS.cell 2 (by omega);have g3:=hS.cell 3 (by omega);have g4:=hS.cell 4 (by omega);clear hS;generalize A 0=a0 at *;generalize A 1=a1 at *;generalize A 2=a2 at *;generalize A 3=a3 at *;generalize A 4=a4 at *
 go_enter Tryz.func35,Tryz.ntmps35
 go_wp2_with fail
 refine (er_nil a0 _).mono ?_;rintro x w' ⟨rfl,rfl⟩
 go_wp2_with fail
 refine (er_nil a1 _).mono ?_;rintro x w' ⟨rfl,rfl⟩
 go_wp2_with fail
 refine (er_nil a2 _).mono ?_;rintro x w' ⟨rfl,rfl⟩
 go_wp2_with fail
 refine (er_nil a3 _).mono ?_;rintro x w' ⟨rfl,rfl⟩
 go_wp2_with fail
 refine (er_nil a4 _).mono ?_;rintro x w' ⟨rfl,rfl⟩
 go_wp2_with fail
 go_ret
 exact ⟨rfl,rfl⟩
end Go.Proofs.YtnknanppoenigaaGreatDoor.Q
