/- Parts of the proof: what functions of the program and of the reference answer.
   No condition. -/
import Derived.Test.YtnknanppoenigaaGreatDoorZSpreadBooks1
import Derived.Test.YtnknanppoenigaaGreatDoorZSpreadBooks3
import Derived.Test.YtnknanppoenigaaGreatDoorZSpreadBooks6
import Derived.Test.YtnknanppoenigaaGreatDoorZSpreadBooks11
import Derived.Test.YtnknanppoenigaaGreatDoorZSpreadBooks8
import Derived.Test.YtnknanppoenigaaGreatDoorZSpreadBooks2
import Derived.Test.YtnknanppoenigaaGreatDoorZSpreadBooks14
import Derived.Test.YtnknanppoenigaaGreatDoorZSpreadBooks15
import Derived.Test.YtnknanppoenigaaGreatDoorZSpreadBooks7
import Derived.Test.YtnknanppoenigaaGreatDoorZSpreadBooks16
import Derived.Test.YtnknanppoenigaaGreatDoorZSpreadBooks4
import Derived.Test.YtnknanppoenigaaGreatDoorZSpreadBooks12
import Derived.Test.YtnknanppoenigaaGreatDoorZSpreadBooks9
import Derived.Test.YtnknanppoenigaaGreatDoorZSpreadBooks13
import Derived.Test.YtnknanppoenigaaGreatDoorZSpreadBooks10
namespace Go.Proofs.YtnknanppoenigaaGreatDoor.Q
open Go.RowKit Go.Proofs.YtnknanppoenigaaGreatDoorW.PrintWords Go.Proofs.YtnknanppoenigaaGreatDoorW.PrintLast Go.Proofs.YtnknanppoenigaaGreatDoorW.PrintMore
set_option linter.unusedVariables false
set_option linter.unusedSimpArgs false
theorem per_apart {ps:List Per} (h:yearP ps) {i:Nat}:∀ n:Nat,((i+1+n:Nat):Int) < (ps.length:Int)→(rd_T63 ps (i:Int)).f1 < (rd_T63 ps ((i+1+n:Nat):Int)).f0
 | 0,hn=>by
  have h2:=(h.2 ((i+1:Nat):Int) (by omega) (by simpa using hn)).2.2.2 (by omega);rw [show ((i+1:Nat):Int) - 1=(i:Int) by omega] at h2;rw [show i+1+0=i+1 by omega,h2];omega
 | n+1,hn=>by
  have ih:=per_apart h (i:=i) n (by omega);have h1:=(h.2 ((i+1+n:Nat):Int) (by omega) (by omega)).2.2.1;have h2:=(h.2 ((i+1+(n+1):Nat):Int) (by omega) hn).2.2.2 (by omega);rw [show ((i+1+(n+1):Nat):Int) - 1=((i+1+n:Nat):Int) by omega] at h2;rw [h2];omega
theorem per_lt {ps:List Per} (h:yearP ps) {i j:Nat} (hij:i < j) (hj:(j:Int) < (ps.length:Int)):(rd_T63 ps (i:Int)).f1 < (rd_T63 ps (j:Int)).f0:=by
 have:=per_apart h (i:=i) (j - i - 1) (by omega);rw [show i+1+(j - i - 1)=j by omega] at this;exact this
theorem perGo_found (l:List Per) (day:Int) {i:Int} (hd:(rd_T63 l i).f0≤day∧day≤(rd_T63 l i).f1):∀ (n:Nat) (k:Int),0≤k→k≤i→i < k+n→0≤perGo l day n k
 | 0,k,_,h1,h2=>by omega
 | n+1,k,h0,h1,h2=>by
  unfold perGo;by_cases e:k=i
  ·subst e;rw [if_pos hd.1,if_pos hd.2];exact h0
  ·have ih:=perGo_found l day hd n (k+1) (by omega) (by omega) (by omega)
   split
   ·split
    ·exact h0
    ·exact ih
   ·exact ih
theorem perV_last {ps:List Per} (h:yearP ps) {i:Nat} (hi:(i:Int) < (ps.length:Int)):0≤perV ps (rd_T63 ps (i:Int)).f1:=by
 unfold perV;rw [if_neg (by have:=h.1.2;omega)];exact perGo_found ps _ (i:=(i:Int)) ⟨(h.2 (i:Int) (by omega) hi).2.2.1,Int.le_refl _⟩ ps.length 0 (by omega) (by omega) (by omega)
theorem rec_zero {ch:List Acc} {d c:Int} {es:List Ent} {h:Int} {ps:List Per} {b:Int} {e:Ent} (q:booksB ch d c es h ps 0 b=true) (he:entryB ch d c e=true) (hp:0≤perV ps e.f0) (hl:es.length≤999):recC ch d c es h ps 0 b e=0:=by
 unfold recC;rw [if_pos q,if_pos he,if_neg (by omega),if_neg (by omega),if_neg (by omega)]
theorem spr_list {ch:List Acc} {d c t fr tt dim:Int} {ps:List Per} (hn:sprI ch d c t fr tt dim ps≠[]) :
 sprI ch d c t fr tt dim ps=(List.range ps.length).map (sprE fr tt dim ps (sharesR t (ps.map spanR)))∧(sharesR t (ps.map spanR)).length=ps.length∧∀ j:Nat,j < ps.length→okE ch d c (sprE fr tt dim ps (sharesR t (ps.map spanR)) j)=true:=by
 unfold sprI at hn ⊢
 split at hn
 ·rename_i q
  rw [if_pos q];unfold sprF at hn ⊢
  split at hn
  ·rename_i k
   rw [if_pos k]
   have hl:(sharesR t (ps.map spanR)).length=ps.length:=by
    rcases sharesR_len t (ps.map spanR) with h | h
    ·exfalso
     rw [h] at hn;exact hn rfl
    ·rw [h,List.length_map]
   rw [hl];exact ⟨rfl,rfl,fun j hj=>k j (Nat.zero_le _) (by omega)⟩
  ·exact absurd rfl hn
 ·exact absurd rfl hn
theorem basV_range (a d c fr tt:Int) (g:Nat→Ent):∀ n:Nat,(∀ i,i < n→inB (g i).f0 fr tt=false)→basV a d c fr tt ((List.range n).map g)=0
 | 0,_=>rfl
 | n+1,h=>by
  rw [List.range_succ,List.map_append,basV_app,basV_range a d c fr tt g n (fun i hi=>h i (by omega))];simp only [List.map_cons,List.map_nil,basV];rw [h n (by omega)];simp
theorem basV_one (a d c fr tt:Int) (g:Nat→Ent) (p:Nat) (hp:inB (g p).f0 fr tt=true):∀ n:Nat,p < n→(∀ i,i < n→i≠p→inB (g i).f0 fr tt=false)→basV a d c fr tt ((List.range n).map g)=basL a d c (g p).f3
 | 0,h,_=>by omega
 | n+1,h,ho=>by
  rw [List.range_succ,List.map_append,basV_app];simp only [List.map_cons,List.map_nil,basV];by_cases e:p=n
  ·subst e;rw [basV_range a d c fr tt g p (fun i hi=>ho i (by omega) (by omega)),hp];simp
  ·rw [basV_one a d c fr tt g p hp n (by omega) (fun i hi hne=>ho i (by omega) hne),ho n (by omega) (fun x=>e x.symm)];simp
theorem sprE_in {ps:List Per} (h:yearP ps) (fr tt dim:Int) (sh:List Int) {p i:Nat} (hp:p < ps.length) (hi:i < ps.length):inB (sprE fr tt dim ps sh i).f0 (rd_T63 ps (p:Int)).f0 (rd_T63 ps (p:Int)).f1=decide (i=p):=by
 have h1:=(h.2 (p:Int) (by omega) (by omega)).2.2.1;have h2:=(h.2 (i:Int) (by omega) (by omega)).2.2.1;show inB (rd_T63 ps (i:Int)).f1 _ _=_;by_cases e:i=p
 ·subst e;rw [inB_of ⟨h1,Int.le_refl _⟩];simp
 ·rw [decide_eq_false e];apply inB_not;rcases Nat.lt_or_ge i p with q | q
  ·have:=per_lt h q (by omega);omega
  ·have:=per_lt h (show p < i by omega) (by omega);omega
theorem spr_moved {ps:List Per} (h:yearP ps) (a fr tt dim:Int) (sh:List Int) {p:Nat} (hp:p < ps.length):basV a (-1) (-1) (rd_T63 ps (p:Int)).f0 (rd_T63 ps (p:Int)).f1 ((List.range ps.length).map (sprE fr tt dim ps sh))=basL a (-1) (-1) (sprE fr tt dim ps sh p).f3 :=
 basV_one a (-1) (-1) _ _ _ p (by rw [sprE_in h fr tt dim sh hp hp];simp) ps.length hp (fun i hi hne=>by rw [sprE_in h fr tt dim sh hp hi];exact decide_eq_false hne)
theorem spr_to {ps:List Per} {fr tt dim:Int} {sh:List Int} {p:Nat} (h0:0≤tt) (hne:fr≠tt):basL tt (-1) (-1) (sprE fr tt dim ps sh p).f3=rd sh (p:Int):=by
 show basL tt (-1) (-1) [⟨tt,dim,0,rd sh (p:Int),rd sh (p:Int)⟩,⟨fr,dim,0,_,_⟩]=_;simp only [basL,selL];have h1:decide (tt = -1)=false:=decide_eq_false (by omega);have h2:decide (tt=fr)=false:=decide_eq_false (fun e=>hne e.symm);simp [h1,h2]
theorem spr_fr {ps:List Per} {fr tt dim:Int} {sh:List Int} {p:Nat} (h0:0≤fr) (hne:fr≠tt) (hs:0≤rd sh (p:Int)∧rd sh (p:Int)≤4000000000000000000):basL fr (-1) (-1) (sprE fr tt dim ps sh p).f3 = - rd sh (p:Int):=by
 have hw:wrap64 (-(rd sh (p:Int))) = -(rd sh (p:Int)):=by unfold wrap64;omega
 show basL fr (-1) (-1) [⟨tt,dim,0,rd sh (p:Int),rd sh (p:Int)⟩,⟨fr,dim,0,_,wrap64 (-(rd sh (p:Int)))⟩]=_;rw [hw];simp only [basL,selL];have h1:decide (fr = -1)=false:=decide_eq_false (by omega);have h2:decide (fr=tt)=false:=decide_eq_false hne;simp [h1,h2]
theorem sumS_nn:∀ (l:List Int),(∀ x∈l,0≤x)→0≤sumS l
 | [],_=>Int.le_refl _
 | x :: l,h=>by
  have:=sumS_nn l (fun y hy=>h y (List.mem_cons_of_mem _ hy));have:=h x List.mem_cons_self;simp only [sumS];omega
theorem sumS_take_le {l:List Int} (h:∀ x∈l,0≤x) (n:Nat):sumS (l.take n)≤sumS l:=by
 have h1:=sumS_app (l.take n) (l.drop n);rw [List.take_append_drop] at h1;have:=sumS_nn (l.drop n) (fun x hx=>h x (List.mem_of_mem_drop hx));omega
theorem sumS_step {l:List Int} {i:Int} (h0:0≤i) (h1:i < (l.length:Int)):sumS (l.take (i+1).toNat)=sumS (l.take i.toNat)+rd l i:=by
 rw [take_rd h0 h1,sumS_app];simp [sumS]
theorem basL_dims {a:Int} (n:Nat):∀ l:List Lin,(∀ x∈l,0≤x.f1∧x.f1 < (n:Int))→(∀ k:Nat,k < n→0≤(k:Int))→basL a (-1) (-1) l=sumN n (fun k=>basL a (k:Int) (-1) l)
 | [],_,_=>by simp only [basL];exact (sumN_zero n).symm
 | x :: l,h,hk=>by
  have ih:=basL_dims (a:=a) n l (fun y hy=>h y (List.mem_cons_of_mem _ hy)) hk;have hx:=h x List.mem_cons_self;simp only [basL];rw [sumN_add,← ih]
  have e:sumN n (fun k=>if selL a (k:Int) (-1) x=true then x.f4 else 0)=if selL a (-1) (-1) x=true then x.f4 else 0:=by
   by_cases q:(decide (a = -1) || decide (a=x.f0))=true
   ·rw [if_pos (show selL a (-1) (-1) x=true by unfold selL;simp only [q];simp)]
    have:sumN n (fun k=>if selL a (k:Int) (-1) x=true then x.f4 else 0)=sumN n (fun k=>if (k:Int)=x.f1 then x.f4 else 0):=sumN_congr (fun k _=>by
     have h1:decide ((k:Int) = -1)=false:=decide_eq_false (by omega);unfold selL;simp only [q,h1];by_cases e:(k:Int)=x.f1
     ·rw [if_pos e];simp [e]
     ·rw [if_neg e];simp [e])
    rw [this,sumN_one,if_pos hx]
   ·rw [if_neg (show ¬ selL a (-1) (-1) x=true by unfold selL;simp only [q];simp)]
    have:sumN n (fun k=>if selL a (k:Int) (-1) x=true then x.f4 else 0)=sumN n (fun _=>0):=sumN_congr (fun k _=>by
     unfold selL;simp only [q]
     simp)
    rw [this,sumN_zero]
  rw [e]
theorem basV_dims {a fr tt:Int} (n:Nat):∀ es:List Ent,(∀ e∈es,∀ x∈e.f3,0≤x.f1∧x.f1 < (n:Int))→basV a (-1) (-1) fr tt es=sumN n (fun k=>basV a (k:Int) (-1) fr tt es)
 | [],_=>by simp only [basV];exact (sumN_zero n).symm
 | e :: es,h=>by
  have ih:=basV_dims (a:=a) (fr:=fr) (tt:=tt) n es (fun y hy=>h y (List.mem_cons_of_mem _ hy));simp only [basV];rw [sumN_add,← ih];by_cases q:inB e.f0 fr tt=true
  ·rw [if_pos q,basL_dims n e.f3 (h e List.mem_cons_self) (fun k _=>by omega)]
   congr 1
   exact sumN_congr (fun k _=>by rw [if_pos q])
  ·rw [if_neg q]
   have:sumN n (fun k=>if inB e.f0 fr tt=true then basL a (k:Int) (-1) e.f3 else 0)=0:=by
    rw [sumN_congr (h:=fun _=>0) (fun k _=>by rw [if_neg q])];exact sumN_zero n
   rw [this]
theorem closed_none {ch:List Acc} {d c h:Int} {p:List Ent} (q:ledgerP ch d c p h) {a fr tt:Int} (hz:∀ x:Int,0≤x→x < d→basV a x (-1) fr tt p=0):basV a (-1) (-1) fr tt p=0:=by
 have hd:=(frame_len q.1).2.1
 rw [basV_dims d.toNat p (fun e he x hx=>by
  have:=(q.2.2.1 e he).2.2.2.2.2.1 x hx;have h1:=this.2.1
  omega)]
 rw [sumN_congr (h:=fun _=>0) (fun k hk=>hz (k:Int) (by omega) (by omega))];exact sumN_zero _
theorem books_closed {ch:List Acc} {d c:Int} {es:List Ent} {h:Int} {ps:List Per} {a b i:Int} (q:booksB ch d c es h ps a b=true) (h0:0≤i) (h1:i≤(ps.length:Int)):booksB ch d c es h ps i b=true :=
 booksB_true.2 (by have:=booksB_true.1 q;exact ⟨this.1,this.2.1,⟨h0,h1⟩,this.2.2.2⟩)
theorem rec_ok {ch:List Acc} {d c:Int} {es:List Ent} {h:Int} {ps:List Per} {a b:Int} {e:Ent} (q:booksB ch d c es h ps a b=true) (hc:recC ch d c es h ps a b e=0) :
 es.length≤999∧entryB ch d c e=true∧booksB ch d c (es++[e]) (headV (es++[e])) ps a b=true:=by
 unfold recC at hc;rw [if_pos q] at hc;by_cases qe:entryB ch d c e=true
 ·rw [if_pos qe] at hc;by_cases q5:perV ps e.f0 < 0
  ·rw [if_pos q5] at hc;omega
  ·rw [if_neg q5] at hc;by_cases q6:perV ps e.f0 < a
   ·rw [if_pos q6] at hc;omega
   ·rw [if_neg q6] at hc;by_cases q7:es.length=1000
    ·rw [if_pos q7] at hc;omega
    ·have p:=booksB_true.1 q;have hl:=p.1.2.1;refine ⟨by omega,qe,booksB_true.2 ⟨⟨p.1.1,by rw [List.length_append];simp;omega,fun x hx=>?_,rfl⟩,p.2⟩⟩;rcases List.mem_append.1 hx with hx | hx
     ·exact p.1.2.2.1 x hx
     ·rw [List.mem_singleton.1 hx];exact entryB_true.1 qe
 ·rw [if_neg qe] at hc;omega
theorem rec_parts {ch:List Acc} {d c:Int} {es:List Ent} {h:Int} {ps:List Per} {a b:Int} {e:Ent} (q:booksB ch d c es h ps a b=true) :
 ∃ (r1:List Ent) (rh:Int),recR ⟨ch,d,c,es,h,ps,a,b⟩ e=(⟨ch,d,c,r1,rh,ps,a,b⟩,recC ch d c es h ps a b e)∧booksB ch d c r1 rh ps a b=true ∧
  ((recC ch d c es h ps a b e=0∧r1=es++[e]∧r1.length=es.length+1)∨(recC ch d c es h ps a b e≠0∧r1=es)):=by
 have hne:recC ch d c es h ps a b e≠1:=by
  unfold recC;rw [if_pos q]
  split
  ·split
   ·omega
   ·split
    ·omega
    ·split <;> omega
  ·omega
 unfold recR;rw [if_neg (show ¬ recC ch d c es h ps a b e=1 from hne)];by_cases hc:recC ch d c es h ps a b e=0
 ·rw [if_pos (show recC ch d c es h ps a b e=0 from hc)];have:=rec_ok q hc;exact ⟨es++[e],headV (es++[e]),by rw [hc],this.2.2,.inl ⟨hc,rfl,by rw [List.length_append];rfl⟩⟩
 ·rw [if_neg (show ¬ recC ch d c es h ps a b e=0 from hc)];exact ⟨es,h,rfl,q,.inr ⟨hc,rfl⟩⟩
set_option maxHeartbeats 8000000 in
set_option maxRecDepth 100000 in
theorem spec_DrawBooksOk.e (w:World) (A:Option Addr) (cc:Nat) (c:List Int) (hr0:Kd.C (Kd.int .u8) w A c.length c) (hc0:c.length≤cc) (hc:c.length≤1048576) :
 Calls Tryz.prog 5 #[.slice A c.length cc] w fun e w'=>∃ (v0 v3 v5:Value) (ch:List Acc) (d u:Int) (es:List Ent) (h:Int) (ps:List Per) (cl kp:Int),e = .returned (.agg #[v0,.int .i64 d,.int .i64 u,v3,.int .i64 h,v5,.int .i64 cl,.int .i64 kp])∧Kd.R k48 48 w' w.heap.size (fun _=>True) v0 ch∧Kd.S k41 41 w' w.heap.size (fun _=>True) v3 es∧Kd.R k63 63 w' w.heap.size (fun _=>True) v5 ps∧goodB ch es ps∧Below w.heap.size w w':=by
 have H0:=Aside0.mk hr0;have BR:=Aside0.mk (blk_new w (.cells #[.slice none 0 0,.int .i64 0,.int .i64 0,.slice none 0 0,.int .i64 0,.slice none 0 0,.int .i64 0,.int .i64 0] 32));have hz:w.heap.size < (w.alloc (.cells #[.slice none 0 0,.int .i64 0,.int .i64 0,.slice none 0 0,.int .i64 0,.slice none 0 0,.int .i64 0,.int .i64 0] 32)).heap.size:=by simp
 have HBW:=Aside0.mk (below_alloc (Below.refl w.heap.size w) (.cells #[.slice none 0 0,.int .i64 0,.int .i64 0,.slice none 0 0,.int .i64 0,.slice none 0 0,.int .i64 0,.int .i64 0] 32));clear hr0
 go_enter Tryz.func5,Tryz.ntmps5
 go_wp2_with fail
 generalize w.alloc (Obj.cells #[.slice none 0 0,.int .i64 0,.int .i64 0,.slice none 0 0,.int .i64 0,.slice none 0 0,.int .i64 0,.int .i64 0] 32)=w1 at *;refine (spec_l1New.e A cc c _ (Kd.C_below H0.out HBW.out) hc0 hc).mono ?_;rintro x w2 ⟨g,rfl,hI,hb⟩;replace BR:=Aside0.mk (y03 BR.out hb);have D:=Aside0.mk (Drew.refl hI hb);have HL:=hb.size;have NR:w.heap.size≠g:=by have:=hI.ge;omega
 clear hI hb
 go_wp2_with fail
 refine (spec_l1Below.e 6 D.out.cur D.out.bel hc (by omega)).mono ?_;rintro x w3 ⟨n,rfl,⟨n0,n1,_⟩,hD⟩;have n2:=n1 (by omega);replace BR:=Aside0.mk (hD.blk BR.out NR);replace D:=Aside0.mk (D.out.call hD);clear hD n1;have hs3:=D.out.size
 go_wp2_with fail
 refine (spec_l6DrawBooks.e w1 _ g c n D.out.cur D.out.bel hc (by omega)).mono ?_;rintro x w4 ⟨v0,v3,v5,ch,d,u,es,h,ps,cl,kp,rfl,hR0,hS3,hR5,⟨hg,hp1,hch3⟩,hD⟩;obtain ⟨A0,c0,rfl⟩:=Kd.R_slice hR0;obtain ⟨A3,c3,rfl⟩:=Kd.S_slice hS3;obtain ⟨A5,c5,rfl⟩:=Kd.R_slice hR5;have RC:=Aside0.mk (Kd.R_mono (hD.cur.apart (Kd.R_lower hR0 (base':=w2.heap.size) (by omega)) (by decide)) (ok':=fun k=>k≠g) (fun k hk=>hk.2));have RE:=Aside0.mk (Kd.S_mono (hD.cur.apartS (Kd.S_lower hS3 (base':=w2.heap.size) (by omega)) (by decide)) (ok':=fun k=>k≠g) (fun k hk=>hk.2));have RP:=Aside0.mk (Kd.R_mono (hD.cur.apart (Kd.R_lower hR5 (base':=w2.heap.size) (by omega)) (by decide)) (ok':=fun k=>k≠g) (fun k hk=>hk.2));replace BR:=Aside0.mk (hD.blk BR.out NR);replace D:=Aside0.mk (D.out.call hD);have HG:=Aside0.mk hg;have chl:=hg.1.1;have psl:=hg.2.2;clear hR0 hS3 hR5 hg hD
 go_wp2_with fail
 refine (spec_l6Spoil.e w1 _ g c A0 c0 ch d u A3 c3 es h A5 c5 ps cl kp w2.heap.size D.out.cur D.out.bel hc HL D.out.size RP.out hp1 (by omega) (by omega)).mono ?_;rintro x w5 ⟨A6,c6,qs,h',cl',kp',rfl,hRq,hql,hE⟩;replace RC:=Aside0.mk (R_keepRow RC.out RP.out hE.keep (fun _ hk=>hk) (by decide));replace RE:=Aside0.mk (S_keepRow RE.out RP.out hE.keep (fun _ hk=>hk) (by decide));replace BR:=Aside0.mk (KeepBut.blkRow hE.keep BR.out NR (Kd.R_ne RP.out BR.out (by decide)));replace D:=Aside0.mk (hE.own D.out (fun b hb=>Kd.R_base RP.out b hb));have RQ:=Aside0.mk hRq;have GB:=Aside0.mk (show goodB ch es qs from ⟨HG.out.1,HG.out.2.1,by omega⟩);clear hRq hE RP HG;have z0:=(y00 BR.out 0).trans rfl;have zz0:=y02 BR.out 0;have z1:=(y00 BR.out 1).trans rfl;have zz1:=y02 BR.out 1;have z2:=(y00 BR.out 2).trans rfl;have zz2:=y02 BR.out 2;have z3:=(y00 BR.out 3).trans rfl;have zz3:=y02 BR.out 3;have z4:=(y00 BR.out 4).trans rfl;have zz4:=y02 BR.out 4;have z5:=(y00 BR.out 5).trans rfl;have zz5:=y02 BR.out 5;have z6:=(y00 BR.out 6).trans rfl;have zz6:=y02 BR.out 6;have z7:=(y00 BR.out 7).trans rfl;have zz7:=y02 BR.out 7
 go_wp2_with fail
 have BR2:=Aside0.mk (put8_blk BR.out (.slice A0 ch.length c0) (.int .i64 d) (.int .i64 u) (.slice A3 es.length c3) (.int .i64 h') (.slice A6 qs.length c6) (.int .i64 cl') (.int .i64 kp'));have HBE:=below_into (w:=w) D.out.bel HBW.out;have hw:=D.out.size;refine bodyPost_ret (results_c1 rfl _ _ w.heap.size 32 #[.slice A0 ch.length c0,.int .i64 d,.int .i64 u,.slice A3 es.length c3,.int .i64 h',.slice A6 qs.length c6,.int .i64 cl',.int .i64 kp'] (0,0) _ rfl BR2.out Tryz.underlying32 rfl (by kernel_rfl)) rfl ?_;exact ⟨_,_,_,ch,d,u,es,h',qs,cl',kp',rfl,Kd.R_lower (Kd.R_mono (put8_R RC.out BR.out (by decide) _ _ _ _ _ _ _ _) (fun _ _=>trivial)) (by omega),Kd.S_lower (Kd.S_mono (put8_S RE.out BR.out (by decide) _ _ _ _ _ _ _ _) (fun _ _=>trivial)) (by omega),Kd.R_lower (Kd.R_mono (put8_R RQ.out BR.out (by decide) _ _ _ _ _ _ _ _) (fun _ _=>trivial)) (by omega),GB.out,put8_B HBE (Nat.le_refl _) _ _ _ _ _ _ _ _⟩
theorem impl_Record.at (A:Nat→Addr) (A0:Option Addr) (c0:Nat) (l0:List Acc) (d c:Int) (A1:Option Addr) (c1:Nat) (l1:List Ent) (h:Int) (A2:Option Addr) (c2:Nat) (l2:List Per) (a b:Int) (e0 e1:Int) (e2:ByteArray) (A3:Option Addr) (c3:Nat) (l3:List Lin) (w:World) (r0:List Acc) (rd rc:Int) (r1:List Ent) (rh:Int) (r2:List Per) (ra rb rk:Int) (hS:Sent w A) (hr0:Kd.C k48 w A0 l0.length l0) (hc0:l0.length≤c0) (hs:∀ x∈l0,x.f0.size≤maxLen) (hr1:Kd.C k41 w A1 l1.length l1) (hc1:l1.length≤c1) (hm:∀ e∈l1,e.f2.size≤maxLen) (hr2:Kd.C k63 w A2 l2.length l2) (hc2:l2.length≤c2) (hsm:smallB l0 l1 l2) (hr3:Kd.C k67 w A3 l3.length l3) (hc3:l3.length≤c3) (he:e2.size≤maxLen) (hl3:l3.length≤1048576) (hres:recR ⟨l0,d,c,l1,h,l2,a,b⟩ ⟨e0,e1,e2,l3⟩=(⟨r0,rd,rc,r1,rh,r2,ra,rb⟩,rk)) :
 Calls Tryz.prog 11 #[.agg #[.slice A0 l0.length c0,.int .i64 d,.int .i64 c,.slice A1 l1.length c1,.int .i64 h,.slice A2 l2.length c2,.int .i64 a,.int .i64 b],.agg #[.int .i64 e0,.int .i64 e1,.string e2,.slice A3 l3.length c3]] w fun e w'=>∃ v0 v3 v5:Value,e = .returned (.tuple #[.agg #[v0,.int .i64 rd,.int .i64 rc,v3,.int .i64 rh,v5,.int .i64 ra,.int .i64 rb],.int .i64 rk])∧Kd.R k48 48 w' w.heap.size (fun _=>True) v0 r0∧Kd.S k41 41 w' w.heap.size (fun _=>True) v3 r1∧Kd.R k63 63 w' w.heap.size (fun _=>True) v5 r2∧Below w.heap.size w w':=by
 refine (impl_Record.to A A0 c0 l0 d c A1 c1 l1 h A2 c2 l2 a b e0 e1 e2 A3 c3 l3 w hS hr0 hc0 hs hr1 hc1 hm hr2 hc2 hsm hr3 hc3 he hl3).mono ?_;rintro e w' ⟨v0,v3,v5,he,⟨h1,h2,h3⟩,hb⟩;rw [hres] at he h1 h2 h3;exact ⟨v0,v3,v5,he,h1,h2,h3,hb⟩
theorem R_put8 {α:Type} {dd:Kd α} {e base g t:Nat} {W:World} {ok:Nat→Prop} {v:Value} {xs:List α} {cells:Array Value} (h:dd.R e W base ok v xs) (hb:W.heap[g]?=some (.cells cells t (0,0))) (ht:∀ q,q∈e :: dd.E→q≠t) (u0 u1 u2 u3 u4 u5 u6 u7:Value):dd.R e ((((((((W.setCell ⟨g,0,none⟩ u0).setCell ⟨g,1,none⟩ u1).setCell ⟨g,2,none⟩ u2).setCell ⟨g,3,none⟩ u3).setCell ⟨g,4,none⟩ u4).setCell ⟨g,5,none⟩ u5).setCell ⟨g,6,none⟩ u6).setCell ⟨g,7,none⟩ u7) base ok v xs :=
 Kd.R_mono (ok:=fun k=>ok k∧k≠g) (R_set8 (Kd.R_types h hb ht) (fun _ hk=>hk.2) _ _ _ _ _ _ _ _) (fun _ hk=>hk.1)
theorem S_put8 {α:Type} {dd:Kd α} {e base g t:Nat} {W:World} {ok:Nat→Prop} {v:Value} {xs:List α} {cells:Array Value} (h:Kd.S dd e W base ok v xs) (hb:W.heap[g]?=some (.cells cells t (0,0))) (ht:∀ q,q∈e :: dd.E→q≠t) (u0 u1 u2 u3 u4 u5 u6 u7:Value):Kd.S dd e ((((((((W.setCell ⟨g,0,none⟩ u0).setCell ⟨g,1,none⟩ u1).setCell ⟨g,2,none⟩ u2).setCell ⟨g,3,none⟩ u3).setCell ⟨g,4,none⟩ u4).setCell ⟨g,5,none⟩ u5).setCell ⟨g,6,none⟩ u6).setCell ⟨g,7,none⟩ u7) base ok v xs :=
 Kd.S_mono (ok:=fun k=>ok k∧k≠g) (S_set8 (Kd.S_types h hb ht) (fun _ hk=>hk.2) _ _ _ _ _ _ _ _) (fun _ hk=>hk.1)
theorem Three.C {w w':World} {v0 v1 v2:Value} {r:List Int × List Int × List Int} (h:Three w w' v0 v1 v2 r):∃ A0 c0 A1 c1 A2 c2,v0 = .slice A0 r.1.length c0∧v1 = .slice A1 r.2.1.length c1∧v2 = .slice A2 r.2.2.length c2∧(r.1.length≤c0∧r.2.1.length≤c1∧r.2.2.length≤c2)∧Kd.C (Kd.int .i64) w' A0 r.1.length r.1∧Kd.C (Kd.int .i64) w' A1 r.2.1.length r.2.1∧Kd.C (Kd.int .i64) w' A2 r.2.2.length r.2.2:=by
 obtain ⟨a0,b0,a1,b1,a2,b2,_,_,_,_,_,_,_,h0,h1,h2⟩:=h;obtain ⟨A0,c0,e0,n0,k0⟩:=Kd.R_reads h0;obtain ⟨A1,c1,e1,n1,k1⟩:=Kd.R_reads h1;obtain ⟨A2,c2,e2,n2,k2⟩:=Kd.R_reads h2;exact ⟨A0,c0,A1,c1,A2,c2,e0,e1,e2,⟨n0,n1,n2⟩,k0,k1,k2⟩
theorem take_ent {l:List Ent} {i:Int} (h0:0≤i) (h:i < (l.length:Int)):l.take (i+1).toNat=l.take i.toNat++[rd_T41 l i]:=by
 rw [show (i+1).toNat=i.toNat+1 by omega,List.take_add_one,List.getElem?_eq_getElem (by omega)];unfold rd_T41;rw [List.getD_eq_getElem?_getD,List.getElem?_eq_getElem (by omega)];rfl
set_option maxHeartbeats 32000000 in
set_option maxRecDepth 100000 in
theorem laws_FnSpreadBooks.to (SA:Nat→Addr) (A0:Option Addr) (c0:Nat) (l0:List Int) (w:World) (hS:Sent w SA) (hr0:Kd.C (Kd.int .u8) w A0 l0.length l0) (hc0:l0.length≤c0) (hw:l0.length≤maxLen∧∀ a∈l0,(Lit.int .u8 a).wf=true) :
 Calls Tryz.prog 3 #[.slice A0 l0.length c0] w fun e w'=>e = .returned (.bool true)∧Below w.heap.size w w':=by
 have SN0:=Aside0.mk hS;have H0:=Aside0.mk hr0;obtain ⟨r,hr,hrb⟩:=at_byte l0 hw.2;have HAT:=Aside0.mk hr;clear hr0 hw hS hr
 go_enter Tryz.func3,Tryz.ntmps3
 go_wp2_with fail
 refine (laws_big.calls A0 c0 l0 _ _ H0.out hc0 rfl).mono ?_;rintro x w1 ⟨rfl,hd⟩;have HB:=Aside0.mk hd.below;by_cases hbig:(l0.length:Int) > 1048576
 ·have hb':decide ((l0.length:Int) > 1048576)=true:=decide_eq_true hbig;clear hd
  go_wp2_with fail
  go_ret
  exact ⟨rfl,HB.out⟩
 have hb':decide ((l0.length:Int) > 1048576)=false:=decide_eq_false hbig;replace H0:=Aside0.mk (Kd.C_below H0.out HB.out);clear hd
 go_wp2_with fail
 refine (spec_DrawBooksOk.e _ A0 c0 l0 H0.out hc0 (by omega)).mono ?_;rintro x w2 ⟨v0,v3,v5,ch,d,u,es,h,ps,cl,kp,rfl,hR0,hS3,hR5,hg,hb⟩;obtain ⟨A,c,rfl,n0,_⟩:=Kd.R_reads hR0;obtain ⟨A1,c1,rfl,n1,_⟩:=Kd.S_reads hS3;obtain ⟨A2,c2,rfl,n2,_⟩:=Kd.R_reads hR5;have R0:=Aside0.mk (Kd.R_mono (Kd.R_bound hR0) (ok':=fun k=>k < w2.heap.size) (fun k hk=>hk.2.2.1));have R1:=Aside0.mk (Kd.S_mono (Kd.S_bound hS3) (ok':=fun k=>k < w2.heap.size) (fun k hk=>hk.2.2.1));have R2:=Aside0.mk (Kd.R_mono (Kd.R_bound hR5) (ok':=fun k=>k < w2.heap.size) (fun k hk=>hk.2.2.1));have HS:=Aside0.mk (show ∀ x∈ch,x.f0.size≤maxLen from fun x hx=>Nat.le_trans (hg.1.2 x hx) (by unfold maxLen;omega));have HM:=Aside0.mk (show ∀ e∈es,e.f2.size≤maxLen from fun x hx=>Nat.le_trans (hg.2.1.2 x hx).1 (by unfold maxLen;omega));have SM:=Aside0.mk (show smallB ch es ps from ⟨by have:=hg.1.1;omega,⟨by have:=hg.2.1.1;omega,fun x hx=>by have:=(hg.2.1.2 x hx).2;omega⟩,by have:=hg.2.2;omega⟩);have hes:=hg.2.1.1;have hps:=hg.2.2;have hch:=hg.1.1;replace H0:=Aside0.mk (Kd.C_below H0.out hb);replace HB:=Aside0.mk (below_into (w:=w) hb HB.out);have hw2:w.heap.size≤w2.heap.size:=HB.out.size;clear hR0 hS3 hR5 hb hg hb'
 go_upto_region 4 with fail
 have BK:=Aside0.mk (blk_new w2 (Obj.cells #[.slice A ch.length c,.int .i64 d,.int .i64 u,.slice A1 es.length c1,.int .i64 h,.slice A2 ps.length c2,.int .i64 cl,.int .i64 kp] 32));have hb:=below_alloc (Below.refl w2.heap.size w2) (Obj.cells #[.slice A ch.length c,.int .i64 d,.int .i64 u,.slice A1 es.length c1,.int .i64 h,.slice A2 ps.length c2,.int .i64 cl,.int .i64 kp] 32);replace H0:=Aside0.mk (Kd.C_below H0.out hb);replace R0:=Aside0.mk (Kd.R_below R0.out hb);replace R1:=Aside0.mk (Kd.S_below R1.out hb);replace R2:=Aside0.mk (Kd.R_below R2.out hb);replace HB:=Aside0.mk (below_into (w:=w) hb HB.out);clear hb;generalize w2.alloc (Obj.cells #[.slice A ch.length c,.int .i64 d,.int .i64 u,.slice A1 es.length c1,.int .i64 h,.slice A2 ps.length c2,.int .i64 cl,.int .i64 kp] 32)=w3 at *
 go_wp2_with fail
 refine (laws_at.calls A0 c0 l0 0 r _ H0.out hc0 HAT.out).mono ?_;rintro x w4 ⟨rfl,hb⟩;have hb:=hb.below;replace H0:=Aside0.mk (Kd.C_below H0.out hb);replace R0:=Aside0.mk (Kd.R_below R0.out hb);replace R1:=Aside0.mk (Kd.S_below R1.out hb);replace R2:=Aside0.mk (Kd.R_below R2.out hb);replace BK:=Aside0.mk (y03 BK.out hb);replace HB:=Aside0.mk (below_into (w:=w) hb HB.out);clear hb H0 HAT hbig;have hwa:IntKind.i64.wrap (r * 77)=r * 77:=by rw [IntKind.wrap_i64];omega
 have hwb:IntKind.i64.wrap (1000+r * 77)=1000+r * 77:=by rw [IntKind.wrap_i64];omega
 have yBK0:=(y00 BK.out 0).trans rfl;have yBK1:=(y00 BK.out 1).trans rfl;have yBK2:=(y00 BK.out 2).trans rfl;have yBK3:=(y00 BK.out 3).trans rfl;have yBK4:=(y00 BK.out 4).trans rfl;have yBK5:=(y00 BK.out 5).trans rfl;have yBK6:=(y00 BK.out 6).trans rfl;have yBK7:=(y00 BK.out 7).trans rfl
 go_wp2_with fail
 refine (spec_BooksOk.to A c ch d u A1 c1 es h A2 c2 ps cl kp _ ((Kd.R_reads' R0.out).2.2) HS.out ((Kd.S_reads' R1.out).2.2) n1 HM.out ((Kd.R_reads' R2.out).2.2)).mono ?_;rintro x w5 ⟨rfl,hb⟩;clear yBK0 yBK1 yBK2 yBK3 yBK4 yBK5 yBK6 yBK7;replace R0:=Aside0.mk (Kd.R_below R0.out hb);replace R1:=Aside0.mk (Kd.S_below R1.out hb);replace R2:=Aside0.mk (Kd.R_below R2.out hb);replace BK:=Aside0.mk (y03 BK.out hb);replace HB:=Aside0.mk (below_into (w:=w) hb HB.out);clear hb hwa hwb;obtain ⟨tot,htot⟩:∃ tot:Int,tot=1000+r * 77:=⟨_,rfl⟩;have ht0:0≤tot:=by omega
 have ht9:tot≤30000:=by omega
 rw [← htot];clear htot hrb;have yBK0:=(y00 BK.out 0).trans rfl;have yBK1:=(y00 BK.out 1).trans rfl;have yBK2:=(y00 BK.out 2).trans rfl;have yBK3:=(y00 BK.out 3).trans rfl;have yBK4:=(y00 BK.out 4).trans rfl;have yBK5:=(y00 BK.out 5).trans rfl;have yBK6:=(y00 BK.out 6).trans rfl;have yBK7:=(y00 BK.out 7).trans rfl;cases q:booksB ch d u es h ps cl kp
 ·go_wp2_with fail
  refine (impl_BooksOk.to A c ch d u A1 c1 es h A2 c2 ps cl kp _ ((Kd.R_reads' R0.out).2.2) HS.out ((Kd.S_reads' R1.out).2.2) HM.out ((Kd.R_reads' R2.out).2.2)).mono ?_;rintro x w6 ⟨rfl,hb⟩;replace HB:=Aside0.mk (below_into (w:=w) hb HB.out);rw [q]
  go_wp2_with fail
  go_ret
  exact ⟨rfl,HB.out⟩
 have zf6:=y02 BK.out 6;have hlen1:1≤ch.length:=by have:=(booksB_true.1 q).2.2.2.1.2.1;have:=(booksB_true.1 q).2.2.2.1.1;omega
 have hQ0:=books_closed q (Int.le_refl 0) (Int.natCast_nonneg ps.length);have hkp:=(booksB_true.1 q).2.2.2.1;have hy:=(booksB_true.1 q).2.1;have hk0:0≤kp:=hkp.1;have hk1:kp < (ch.length:Int):=hkp.2.1;obtain ⟨tt,htt⟩:∃ tt:Int,tt=(ch.length:Int) - 1:=⟨_,rfl⟩;have hwt:IntKind.i64.wrap ((ch.length:Int) - 1)=tt:=by rw [IntKind.wrap_i64];omega
 have hlb:IntKind.i64.wrap (tt+1)=(ch.length:Int):=by rw [IntKind.wrap_i64];omega
 have ht1:tt < (ch.length:Int):=by omega
 have ht2:0≤tt:=by omega
 clear htt;have QY:=Aside0.mk hy;have QB:=Aside0.mk hQ0;clear q hkp hy hQ0
 go_upto_region 8 with fail
 replace R0:=Aside0.mk (Kd.R_far (p:=⟨w2.heap.size,6,none⟩) R0.out (fun k hk=>by show k≠w2.heap.size;omega) (.int .i64 0));replace R1:=Aside0.mk (Kd.S_far (p:=⟨w2.heap.size,6,none⟩) R1.out (fun k hk=>by show k≠w2.heap.size;omega) (.int .i64 0));replace R2:=Aside0.mk (Kd.R_far (p:=⟨w2.heap.size,6,none⟩) R2.out (fun k hk=>by show k≠w2.heap.size;omega) (.int .i64 0));replace BK:=Aside0.mk (show (w5.setCell ⟨w2.heap.size,6,none⟩ (.int .i64 0)).heap[w2.heap.size]?=some (.cells #[.slice A ch.length c,.int .i64 d,.int .i64 u,.slice A1 es.length c1,.int .i64 h,.slice A2 ps.length c2,.int .i64 0,.int .i64 kp] 32 (0,0)) from by exact blk_put BK.out 6 _ rfl);replace HB:=Aside0.mk (below_set (g:=w2.heap.size) (j:=6) (v:=.int .i64 0) HB.out hw2);clear zf6 yBK0 yBK1 yBK2 yBK3 yBK4 yBK5 yBK6 yBK7;generalize w5.setCell ⟨w2.heap.size,6,none⟩ (.int .i64 0)=w6 at *;have yBK0:=(y00 BK.out 0).trans rfl;have yBK1:=(y00 BK.out 1).trans rfl;have yBK2:=(y00 BK.out 2).trans rfl;have yBK3:=(y00 BK.out 3).trans rfl;have yBK4:=(y00 BK.out 4).trans rfl;have yBK5:=(y00 BK.out 5).trans rfl;have yBK6:=(y00 BK.out 6).trans rfl;have yBK7:=(y00 BK.out 7).trans rfl;by_cases hkt:tt=kp
 ·have hkb:(tt == kp)=true:=by simpa using hkt
  go_wp2_with fail
  refine (impl_BooksOk.to A c ch d u A1 c1 es h A2 c2 ps 0 kp _ ((Kd.R_reads' R0.out).2.2) HS.out ((Kd.S_reads' R1.out).2.2) HM.out ((Kd.R_reads' R2.out).2.2)).mono ?_;rintro x w7 ⟨rfl,hb⟩;replace HB:=Aside0.mk (below_into (w:=w) hb HB.out);rw [QB.out]
  go_wp2_with fail
  go_ret
  exact ⟨rfl,HB.out⟩
 have hkb:(tt == kp)=false:=by simpa using hkt
 have HPS:=Aside0.mk (show ∀ p∈ps,(-9223372036854775808≤p.f0∧p.f0≤9223372036854775807)∧(-9223372036854775808≤p.f1∧p.f1≤9223372036854775807) from all_per.1 (fun j _ hj=>by
  have:=QY.out.2 (j:Int) (by omega) (by omega);have h1:=this.1;have h2:=this.2.1
  omega))
 have ITH:=impl_Spread_isI ch d u tot kp tt 0 ps HS.out 1000 (Nat.le_refl _);have STH:=(spec_Spread_isS ch d u tot kp tt 0 ps HS.out 200000 (Nat.le_refl _)).trans (congrArg some (spr_same ch d u tot kp tt 0 ps HPS.out).symm);obtain ⟨ls,hls⟩:∃ ls,ls=sprI ch d u tot kp tt 0 ps:=⟨_,rfl⟩;rw [← hls] at ITH STH;have IT:=Aside0.mk ITH;have ST:=Aside0.mk STH;have HLS:=Aside0.mk hls;clear ITH STH hls HPS
 go_wp2_with fail
 refine (impl_Spread.calls 1000 A c ch d u tot kp tt 0 A2 c2 ps ls _ ((Kd.R_reads' R0.out).2.2) n0 ((Kd.R_reads' R2.out).2.2) n2 IT.out).mono ?_;rintro x w7 ⟨v0,rfl,hX,hb⟩;obtain ⟨X,xc,rfl,nX,_⟩:=Kd.S_reads hX;have hsz:=blk_lt BK.out;have RX:=Aside0.mk (Kd.S_mono (Kd.S_bound hX) (ok':=fun k=>k≠w2.heap.size) (fun k hk=>by have:=hk.2.1;omega));clear hX IT yBK0 yBK1 yBK2 yBK3 yBK4 yBK5 yBK6 yBK7;replace R0:=Aside0.mk (Kd.R_below R0.out hb);replace R1:=Aside0.mk (Kd.S_below R1.out hb);replace R2:=Aside0.mk (Kd.R_below R2.out hb);replace BK:=Aside0.mk (y03 BK.out hb);replace HB:=Aside0.mk (below_into (w:=w) hb HB.out);clear hb hsz;have yBK0:=(y00 BK.out 0).trans rfl;have yBK1:=(y00 BK.out 1).trans rfl;have yBK2:=(y00 BK.out 2).trans rfl;have yBK3:=(y00 BK.out 3).trans rfl;have yBK4:=(y00 BK.out 4).trans rfl;have yBK5:=(y00 BK.out 5).trans rfl;have yBK6:=(y00 BK.out 6).trans rfl;have yBK7:=(y00 BK.out 7).trans rfl
 go_wp2_with fail
 refine (spec_Spread.calls 200000 A c ch d u tot kp tt 0 A2 c2 ps ls _ ((Kd.R_reads' R0.out).2.2) n0 ((Kd.R_reads' R2.out).2.2) n2 ST.out).mono ?_;rintro x w8 ⟨v0,rfl,hX,hb⟩;obtain ⟨Y,yc,rfl⟩:=Kd.S_slice hX;clear hX ST yBK0 yBK1 yBK2 yBK3 yBK4 yBK5 yBK6 yBK7;replace R0:=Aside0.mk (Kd.R_below R0.out hb);replace R1:=Aside0.mk (Kd.S_below R1.out hb);replace R2:=Aside0.mk (Kd.R_below R2.out hb);replace RX:=Aside0.mk (Kd.S_below RX.out hb);replace BK:=Aside0.mk (y03 BK.out hb);replace HB:=Aside0.mk (below_into (w:=w) hb HB.out);clear hb;have hle:((ls.length:Int) != (ls.length:Int))=false:=by simp
 by_cases hl0:ls.length=0
 ·have hlz:((ls.length:Int) == 0)=true:=by simp [hl0]
  clear hl0
  go_wp2_with fail
  go_ret
  exact ⟨rfl,HB.out⟩
 have hlz:((ls.length:Int) == 0)=false:=by simpa using hl0
 have hSL:=spr_list (ch:=ch) (d:=d) (c:=u) (t:=tot) (fr:=kp) (tt:=tt) (dim:=0) (ps:=ps) (fun e=>hl0 (by rw [HLS.out,e];rfl));rw [← HLS.out] at hSL;have hSR:=shares_right (t:=tot) (ws:=ps.map spanR) ht0 (by rw [hSL.2.1];have:=QY.out.1.1;omega);have hlp:ls.length=ps.length:=by rw [hSL.1,List.length_map,List.length_range]
 obtain ⟨sh,hsh⟩:∃ sh,sh=sharesR tot (ps.map spanR):=⟨_,rfl⟩;rw [← hsh] at hSL hSR;have HSL:=Aside0.mk hSL;have HSR:=Aside0.mk hSR;clear hSL hSR hsh HLS hl0;have hlzp:((ps.length:Int) == 0)=false:=by rw [← hlp];exact hlz
 have EOK:=Aside0.mk (show ∀ i:Int,0≤i→i < (ps.length:Int)→entryB ch d u (rd_T41 ls i)=true∧0≤perV ps (rd_T41 ls i).f0∧(rd_T41 ls i).f2.size≤maxLen∧(rd_T41 ls i).f3.length≤1048576 from fun i h0 h1=>by
  have e:rd_T41 ls i=sprE kp tt 0 ps sh i.toNat:=by
   rw [HSL.out.1];unfold rd_T41;rw [List.getD_eq_getElem?_getD,List.getElem?_map,List.getElem?_range (by omega)];rfl
  have hk:=HSL.out.2.2 i.toNat (by omega);unfold okE at hk;rw [Bool.and_eq_true] at hk;rw [e];refine ⟨hk.2,?_,sprT_small,?_⟩
  ·exact perV_last QY.out (i:=i.toNat) (by omega)
  ·show [(_:Lin),_].length≤_
   simp)
 have yBK0:=(y00 BK.out 0).trans rfl;have yBK1:=(y00 BK.out 1).trans rfl;have yBK2:=(y00 BK.out 2).trans rfl;have yBK3:=(y00 BK.out 3).trans rfl;have yBK4:=(y00 BK.out 4).trans rfl;have yBK5:=(y00 BK.out 5).trans rfl;have yBK6:=(y00 BK.out 6).trans rfl;have yBK7:=(y00 BK.out 7).trans rfl
 go_upto_region 18 with fail
 have BF:=Aside0.mk (blk_new w8 (Obj.cells #[.slice A ch.length c,.int .i64 d,.int .i64 u,.slice A1 es.length c1,.int .i64 h,.slice A2 ps.length c2,.int .i64 0,.int .i64 kp] 32));have hb:=below_alloc (Below.refl w8.heap.size w8) (Obj.cells #[.slice A ch.length c,.int .i64 d,.int .i64 u,.slice A1 es.length c1,.int .i64 h,.slice A2 ps.length c2,.int .i64 0,.int .i64 kp] 32);have hbf:w2.heap.size < w8.heap.size:=blk_lt BK.out;clear yBK0 yBK1 yBK2 yBK3 yBK4 yBK5 yBK6 yBK7;replace R0:=Aside0.mk (Kd.R_below R0.out hb);replace R1:=Aside0.mk (Kd.S_below R1.out hb);replace R2:=Aside0.mk (Kd.R_below R2.out hb);replace RX:=Aside0.mk (Kd.S_below RX.out hb);replace BK:=Aside0.mk (y03 BK.out hb);replace HB:=Aside0.mk (below_into (w:=w) hb HB.out);clear hb hlz hle;generalize w8.alloc (Obj.cells #[.slice A ch.length c,.int .i64 d,.int .i64 u,.slice A1 es.length c1,.int .i64 h,.slice A2 ps.length c2,.int .i64 0,.int .i64 kp] 32)=w9 at *;replace R0:=Aside0.mk (Kd.R_lower R0.out (Nat.zero_le _));replace R1:=Aside0.mk (Kd.S_lower R1.out (Nat.zero_le _));replace R2:=Aside0.mk (Kd.R_lower R2.out (Nat.zero_le _));replace RX:=Aside0.mk (Kd.S_lower RX.out (Nat.zero_le _))
 go_wp2_with fail
 go_loopg [9] ps.length (fun kq v9 W=>∃ (i:Int) (P0 P1 P2:Option Addr) (p0 p1 p2:Nat) (m1:List Ent) (hh:Int),v9 = .int .i64 i∧0≤i∧i≤(ps.length:Int)∧kq+i.toNat=ps.length∧Aside0 (ch.length≤p0)∧Aside0 (m1.length≤p1)∧Aside0 (ps.length≤p2)∧Aside0 (m1=es++ls.take i.toNat)∧Aside0 (booksB ch d u m1 hh ps 0 kp=true)∧Aside0 (k48.R 48 W 0 (fun k=>k < w2.heap.size) (.slice A ch.length c) ch)∧Aside0 (Kd.S k41 41 W 0 (fun k=>k < w2.heap.size) (.slice A1 es.length c1) es)∧Aside0 (k63.R 63 W 0 (fun k=>k < w2.heap.size) (.slice A2 ps.length c2) ps)∧Aside0 (Kd.S k41 41 W 0 (fun k=>k≠w2.heap.size) (.slice X ls.length xc) ls)∧Aside0 (Kd.C k48 W P0 ch.length ch)∧Aside0 (Kd.C k41 W P1 m1.length m1)∧Aside0 (Kd.C k63 W P2 ps.length ps)∧Aside0 (W.heap[w2.heap.size]?=some (.cells #[.slice P0 ch.length p0,.int .i64 d,.int .i64 u,.slice P1 m1.length p1,.int .i64 hh,.slice P2 ps.length p2,.int .i64 0,.int .i64 kp] 32 (0,0)))∧Aside0 (W.heap[w8.heap.size]?=some (.cells #[.slice A ch.length c,.int .i64 d,.int .i64 u,.slice A1 es.length c1,.int .i64 h,.slice A2 ps.length c2,.int .i64 0,.int .i64 kp] 32 (0,0)))∧Aside0 (Below w.heap.size w W))
 case atStart=>exact ⟨0,A,A1,A2,c,c1,c2,es,h,rfl,by omega,by omega,by omega,⟨n0⟩,⟨n1⟩,⟨n2⟩,⟨by simp⟩,QB,R0,R1,R2,RX,⟨(Kd.R_reads' R0.out).2.2⟩,⟨(Kd.S_reads' R1.out).2.2⟩,⟨(Kd.R_reads' R2.out).2.2⟩,BK,BF,HB⟩
 case round =>
  clear R0 R1 R2 RX BK BF HB;obtain ⟨i,P0,P1,P2,p0,p1,p2,m1,hh,rfl,i0,i1,hki,m0,g1,g2,HM1,HQB,R0,R1,R2,RX,Q0,Q1,Q2,BK,BF,HB⟩:=hrel;obtain ⟨wo,rfl⟩:∃ wo:World,wo=wr:=⟨_,rfl⟩;by_cases hi:i < (ps.length:Int)
  ·obtain ⟨k1,rfl⟩:∃ k,gk=k+1:=⟨gk - 1,by omega⟩;have hib:decide (i < (ls.length:Int))=true:=decide_eq_true (by omega);have hin:i < (ls.length:Int):=by omega
   obtain ⟨ad,E3,x3,e0,z0,z1,z2,z3,nE,KE⟩:=at_T41 (Kd.S_reads' RX.out).2.2 i i0 hin;cases e0;have hen:=EOK.out i i0 hi;have hst:=take_ent i0 hin;have hml:m1.length=es.length+i.toNat:=by rw [HM1.out,List.length_append,List.length_take,Nat.min_eq_left (by omega)]
   have hm9:m1.length≤999:=by omega
   have hrc:=rec_zero HQB.out hen.1 hen.2.1 hm9;obtain ⟨s1,sh1,hRR,hqn,hway⟩:=rec_parts (e:=rd_T41 ls i) HQB.out;rw [hrc] at hRR hway;obtain ⟨hs1,hsl⟩:s1=m1++[rd_T41 ls i]∧s1.length=m1.length+1:=by rcases hway with ⟨_,a,b⟩ | ⟨a,_⟩;exact ⟨a,b⟩;exact absurd rfl a
   have HM2:=Aside0.mk (show s1=es++ls.take (i+1).toNat by rw [hst,← List.append_assoc,← HM1.out];exact hs1);have HMM:=Aside0.mk (show ∀ e∈m1,e.f2.size≤maxLen from fun e he=>Nat.le_trans ((booksB_true.1 HQB.out).1.2.2.1 e he).2.2.1 (by unfold maxLen;omega));have SMM:=Aside0.mk (show smallB ch m1 ps from ⟨SM.out.1,⟨by omega,fun e he=>by have:=((booksB_true.1 HQB.out).1.2.2.1 e he).2.2.2.1.2;omega⟩,SM.out.2.2⟩);have HQN:=Aside0.mk hqn;have HEN:=Aside0.mk hen;have KEE:=Aside0.mk KE;clear hen hst hml hrc hway hs1 hsl hqn KE;generalize rd_T41 ls i=en at *;obtain ⟨q0,q1,q2,q3⟩:=en;have HRR:=Aside0.mk hRR;have NEE:=Aside0.mk nE;clear hRR nE;have hzA:=World.block_lt_of_cell? _ _ z0;have hz:=blk_lt BK.out;have yBK0:=(y00 BK.out 0).trans rfl;have yBK1:=(y00 BK.out 1).trans rfl;have yBK2:=(y00 BK.out 2).trans rfl;have yBK3:=(y00 BK.out 3).trans rfl;have yBK4:=(y00 BK.out 4).trans rfl;have yBK5:=(y00 BK.out 5).trans rfl;have yBK6:=(y00 BK.out 6).trans rfl;have yBK7:=(y00 BK.out 7).trans rfl
   go_upto_region 21 with fail
   have HV:=Aside0.mk (Below.refl wo.heap.size wo)
   go_cut [10,11] (fun s10_ s11_ wx=>∃ (b_:Nat) (A_0 A_1 A_2:Option Addr) (c_0 c_1 c_2:Nat),s10_ = .pointer (some ⟨b_,0,none⟩)∧s11_ = .int .i64 0∧wo.heap.size≤b_∧wx.heap[b_]?=some (.cells #[.slice A_0 ch.length c_0,.int .i64 d,.int .i64 u,.slice A_1 s1.length c_1,.int .i64 sh1,.slice A_2 ps.length c_2,.int .i64 0,.int .i64 kp] 32 (0,0))∧Aside0 (ch.length≤c_0)∧Aside0 (s1.length≤c_1)∧Aside0 (ps.length≤c_2)∧Aside0 (k48.R 48 wx wo.heap.size (Iv wo.heap.size wx.heap.size) (.slice A_0 ch.length c_0) ch)∧Aside0 (Kd.S k41 41 wx wo.heap.size (Iv wo.heap.size wx.heap.size) (.slice A_1 s1.length c_1) s1)∧Aside0 (k63.R 63 wx wo.heap.size (Iv wo.heap.size wx.heap.size) (.slice A_2 ps.length c_2) ps)∧Aside0 (Below wo.heap.size wo wx))
   case first =>
    go_region_held3 (fun w'=>w'.cell? ⟨w2.heap.size,0,none⟩=some (.slice P0 ch.length p0)∧w'.cell? ⟨w2.heap.size,1,none⟩=some (.int .i64 d)∧w'.cell? ⟨w2.heap.size,2,none⟩=some (.int .i64 u)∧w'.cell? ⟨w2.heap.size,3,none⟩=some (.slice P1 m1.length p1)∧w'.cell? ⟨w2.heap.size,4,none⟩=some (.int .i64 hh)∧w'.cell? ⟨w2.heap.size,5,none⟩=some (.slice P2 ps.length p2)∧w'.cell? ⟨w2.heap.size,6,none⟩=some (.int .i64 0)∧w'.cell? ⟨w2.heap.size,7,none⟩=some (.int .i64 kp)∧w'.cell? (ad.add (i.toNat * 4))=some (.int .i64 q0)∧w'.cell? ⟨(ad.add (i.toNat * 4)).block,(ad.add (i.toNat * 4)).off+1,none⟩=some (.int .i64 q1)∧w'.cell? ⟨(ad.add (i.toNat * 4)).block,(ad.add (i.toNat * 4)).off+2,none⟩=some (.string q2)∧w'.cell? ⟨(ad.add (i.toNat * 4)).block,(ad.add (i.toNat * 4)).off+3,none⟩=some (.slice E3 q3.length x3)) ((first | (have hH:=‹_∧_›;obtain ⟨t0,t1,t2,t3,t4,t5,t6,t7,t8,t9,t10,t11⟩:=hH;first | (with_reducible exact ⟨y01 hb t0,y01 hb t1,y01 hb t2,y01 hb t3,y01 hb t4,y01 hb t5,y01 hb t6,y01 hb t7,y01 hb t8,y01 hb t9,y01 hb t10,y01 hb t11⟩) | (with_reducible exact ⟨y01 (below_alloc (Below.refl _ _) _) t0,y01 (below_alloc (Below.refl _ _) _) t1,y01 (below_alloc (Below.refl _ _) _) t2,y01 (below_alloc (Below.refl _ _) _) t3,y01 (below_alloc (Below.refl _ _) _) t4,y01 (below_alloc (Below.refl _ _) _) t5,y01 (below_alloc (Below.refl _ _) _) t6,y01 (below_alloc (Below.refl _ _) _) t7,y01 (below_alloc (Below.refl _ _) _) t8,y01 (below_alloc (Below.refl _ _) _) t9,y01 (below_alloc (Below.refl _ _) _) t10,y01 (below_alloc (Below.refl _ _) _) t11⟩) | (with_reducible refine ⟨cell_alloc2 t0 ?_,cell_alloc2 t1 ?_,cell_alloc2 t2 ?_,cell_alloc2 t3 ?_,cell_alloc2 t4 ?_,cell_alloc2 t5 ?_,cell_alloc2 t6 ?_,cell_alloc2 t7 ?_,cell_alloc2 t8 ?_,cell_alloc2 t9 ?_,cell_alloc2 t10 ?_,cell_alloc2 t11 ?_⟩ <;> (first | omega | (simp;omega))) | (refine ⟨?_,?_,?_,?_,?_,?_,?_,?_,?_,?_,?_,?_⟩ <;> ((repeat (with_reducible refine cell_off ?_ _ ?_;(· ((simp;omega)))));assumption))) | go_keep))
     (((go_at_call 11;refine (impl_Record.at SA P0 p0 ch d u P1 p1 m1 hh P2 p2 ps 0 kp q0 q1 q2 E3 x3 q3 _ ch d u s1 sh1 ps 0 kp 0 (SN0.out.below (by with_reducible repeat (first | exact HB.out | refine below_drew1 ?_ | refine below_alloc ?_ _)) rfl) (Kd.C_below Q0.out (by with_reducible repeat (first | exact Below.refl _ _ | refine below_drew1 ?_ | refine below_alloc ?_ _))) m0.out HS.out (Kd.C_below Q1.out (by with_reducible repeat (first | exact Below.refl _ _ | refine below_drew1 ?_ | refine below_alloc ?_ _))) g1.out HMM.out (Kd.C_below Q2.out (by with_reducible repeat (first | exact Below.refl _ _ | refine below_drew1 ?_ | refine below_alloc ?_ _))) g2.out SMM.out (Kd.C_below KEE.out (by with_reducible repeat (first | exact Below.refl _ _ | refine below_drew1 ?_ | refine below_alloc ?_ _))) NEE.out HEN.out.2.2.1 HEN.out.2.2.2 HRR.out).mono ?_;rintro x wS ⟨v0,v3,v5,rfl,hR0,hR3,hR5,hb⟩;have HVS:=Aside0.mk (below_into (w:=wo) hb (by with_reducible repeat (first | exact HV.out | refine below_drew1 ?_ | refine below_alloc ?_ _)));have SZS:=HVS.out.size;have SBS:=below_start hb (show Below wo.heap.size wo _ from (by with_reducible repeat (first | exact HV.out | refine below_drew1 ?_ | refine below_alloc ?_ _)));obtain ⟨T0,t0,rfl,n0_,g0_⟩:=Kd.R_reads hR0;have NT0:=Aside0.mk n0_;have RR0:=Aside0.mk (R_iv hR0);obtain ⟨T1,t1,rfl,n1_,g1_⟩:=Kd.S_reads hR3;have NT1:=Aside0.mk n1_;have RR1:=Aside0.mk (S_iv hR3);obtain ⟨T2,t2,rfl,n2_,g2_⟩:=Kd.R_reads hR5;have NT2:=Aside0.mk n2_;have RR2:=Aside0.mk (R_iv hR5);clear hR0 hR3 hR5 n0_ n1_ n2_ g0_ g1_ g2_;(first | (have BQ:wS.heap[wo.heap.size]?=some (.cells #[.slice none 0 0,.int .i64 0,.int .i64 0,.slice none 0 0,.int .i64 0,.slice none 0 0,.int .i64 0,.int .i64 0] 32 (0,0)):=y03 ?_ hb;rotate_left;(· (with_reducible repeat (first | exact blk_new _ _ | refine blk_drew ?_)))) | skip);(try (have Y0:=(y00 BQ 0).trans (show _=some (.slice none 0 0) from rfl);have Z0:=y02 BQ 0;have Y1:=(y00 BQ 1).trans (show _=some (.int .i64 0) from rfl);have Z1:=y02 BQ 1;have Y2:=(y00 BQ 2).trans (show _=some (.int .i64 0) from rfl);have Z2:=y02 BQ 2;have Y3:=(y00 BQ 3).trans (show _=some (.slice none 0 0) from rfl);have Z3:=y02 BQ 3;have Y4:=(y00 BQ 4).trans (show _=some (.int .i64 0) from rfl);have Z4:=y02 BQ 4;have Y5:=(y00 BQ 5).trans (show _=some (.slice none 0 0) from rfl);have Z5:=y02 BQ 5;have Y6:=(y00 BQ 6).trans (show _=some (.int .i64 0) from rfl);have Z6:=y02 BQ 6;have Y7:=(y00 BQ 7).trans (show _=some (.int .i64 0) from rfl);have Z7:=y02 BQ 7)))))
    all_goals (try go_wp2_with fail)
    all_goals go_meet
    all_goals (
     refine ⟨_,T0,T1,T2,t0,t1,t2,rfl,rfl,?_,?_,NT0,NT1,NT2,⟨?_⟩,⟨?_⟩,⟨?_⟩,⟨?_⟩⟩
     ·first | exact Nat.le_refl _ | exact SZS
     ·first | exact blk8 BQ _ _ _ _ _ _ _ _ | exact blk_new _ _
     ·(with_reducible repeat (fail));have RXX:=R_iv_lower RR0.out SBS (Nat.le_refl _)
      first | ((with_reducible refine Kd.R_mono (Kd.R_alloc RXX _) ?_);exact fun k hk=>⟨hk.1,Nat.lt_of_lt_of_le hk.2 (by simp)⟩) | ((with_reducible refine Kd.R_mono (R_put8 RXX BQ ?_ _ _ _ _ _ _ _ _) ?_);(· decide);(· exact fun k hk=>⟨hk.1,Nat.lt_of_lt_of_le hk.2 (by simp)⟩))
     ·(with_reducible repeat (fail));have RXX:=S_iv_lower RR1.out SBS (Nat.le_refl _)
      first | ((with_reducible refine Kd.S_mono (Kd.S_alloc RXX _) ?_);exact fun k hk=>⟨hk.1,Nat.lt_of_lt_of_le hk.2 (by simp)⟩) | ((with_reducible refine Kd.S_mono (S_put8 RXX BQ ?_ _ _ _ _ _ _ _ _) ?_);(· decide);(· exact fun k hk=>⟨hk.1,Nat.lt_of_lt_of_le hk.2 (by simp)⟩))
     ·(with_reducible repeat (fail));have RXX:=R_iv_lower RR2.out SBS (Nat.le_refl _)
      first | ((with_reducible refine Kd.R_mono (Kd.R_alloc RXX _) ?_);exact fun k hk=>⟨hk.1,Nat.lt_of_lt_of_le hk.2 (by simp)⟩) | ((with_reducible refine Kd.R_mono (R_put8 RXX BQ ?_ _ _ _ _ _ _ _ _) ?_);(· decide);(· exact fun k hk=>⟨hk.1,Nat.lt_of_lt_of_le hk.2 (by simp)⟩))
     ·first | (with_reducible exact below_alloc HVS.out _) | ((with_reducible refine below_set8 HVS.out ?_ _ _ _ _ _ _ _ _);(with_reducible exact Nat.le_refl _)))
   obtain ⟨bN,T0,T1,T2,t0,t1,t2,rfl,rfl,hble,BNN,NT0,NT1,NT2,RT0,RT1,RT2,HVV⟩:=hcut;obtain ⟨wa,rfl⟩:∃ W_:World,W_=wc:=⟨_,rfl⟩;have hb:=HVV.out;have hzz:=hb.size;clear Q0 Q1 Q2 z0 z1 z2 z3 KEE HVV HV yBK0 yBK1 yBK2 yBK3 yBK4 yBK5 yBK6 yBK7;replace R0:=Aside0.mk (Kd.R_below R0.out hb);replace R1:=Aside0.mk (Kd.S_below R1.out hb);replace R2:=Aside0.mk (Kd.R_below R2.out hb);replace RX:=Aside0.mk (Kd.S_below RX.out hb);replace BK:=Aside0.mk (y03 BK.out hb);replace BF:=Aside0.mk (y03 BF.out hb);replace HB:=Aside0.mk (below_into (w:=w) hb HB.out);have yBK0:=(y00 BK.out 0).trans rfl;have yBK1:=(y00 BK.out 1).trans rfl;have yBK2:=(y00 BK.out 2).trans rfl;have yBK3:=(y00 BK.out 3).trans rfl;have yBK4:=(y00 BK.out 4).trans rfl;have yBK5:=(y00 BK.out 5).trans rfl;have yBK6:=(y00 BK.out 6).trans rfl;have yBK7:=(y00 BK.out 7).trans rfl;have zf0:=y02 BK.out 0;have zf1:=y02 BK.out 1;have zf2:=y02 BK.out 2;have zf3:=y02 BK.out 3;have zf4:=y02 BK.out 4;have zf5:=y02 BK.out 5;have zf6:=y02 BK.out 6;have zf7:=y02 BK.out 7;have n0_:wa.cell? ⟨bN,0,none⟩=some (.slice T0 ch.length t0):=(y00 BNN 0).trans rfl;have n1_:wa.cell? ⟨bN,1,none⟩=some (.int .i64 d):=(y00 BNN 1).trans rfl;have n2_:wa.cell? ⟨bN,2,none⟩=some (.int .i64 u):=(y00 BNN 2).trans rfl;have n3_:wa.cell? ⟨bN,3,none⟩=some (.slice T1 s1.length t1):=(y00 BNN 3).trans rfl;have n4_:wa.cell? ⟨bN,4,none⟩=some (.int .i64 sh1):=(y00 BNN 4).trans rfl;have n5_:wa.cell? ⟨bN,5,none⟩=some (.slice T2 ps.length t2):=(y00 BNN 5).trans rfl;have n6_:wa.cell? ⟨bN,6,none⟩=some (.int .i64 0):=(y00 BNN 6).trans rfl;have n7_:wa.cell? ⟨bN,7,none⟩=some (.int .i64 kp):=(y00 BNN 7).trans rfl;have hne0:((0:Int) != 0)=false:=by simp
   clear hb
   go_wp2_with fail
   go_roundg k1
   case rel=>exact ⟨i+1,T0,T1,T2,t0,t1,t2,s1,sh1,by go_num,by omega,by omega,by omega,NT0,NT1,NT2,HM2,HQN,⟨R_set8 R0.out (fun k hk=>by omega) _ _ _ _ _ _ _ _⟩,⟨S_set8 R1.out (fun k hk=>by omega) _ _ _ _ _ _ _ _⟩,⟨R_set8 R2.out (fun k hk=>by omega) _ _ _ _ _ _ _ _⟩,⟨S_set8 RX.out (fun k hk=>by exact hk) _ _ _ _ _ _ _ _⟩,⟨(Kd.R_reads' (R_set8 (Kd.R_mono RT0.out (ok':=fun k=>k≠w2.heap.size) (fun k hk=>by have:=hk.1;omega)) (fun k hk=>hk) _ _ _ _ _ _ _ _)).2.2⟩,⟨(Kd.S_reads' (S_set8 (Kd.S_mono RT1.out (ok':=fun k=>k≠w2.heap.size) (fun k hk=>by have:=hk.1;omega)) (fun k hk=>hk) _ _ _ _ _ _ _ _)).2.2⟩,⟨(Kd.R_reads' (R_set8 (Kd.R_mono RT2.out (ok':=fun k=>k≠w2.heap.size) (fun k hk=>by have:=hk.1;omega)) (fun k hk=>hk) _ _ _ _ _ _ _ _)).2.2⟩,⟨by exact blk8 BK.out _ _ _ _ _ _ _ _⟩,⟨put8_far BF.out (by omega) _ _ _ _ _ _ _ _⟩,⟨below_set8 HB.out hw2 _ _ _ _ _ _ _ _⟩⟩
   case measure=>omega
  ·have hin:decide (i < (ls.length:Int))=false:=decide_eq_false (by omega);obtain rfl:i=(ps.length:Int):=by omega
   have hmE:m1=es++ls:=by rw [HM1.out,List.take_of_length_le (by omega)]
   have HMM:=Aside0.mk (show ∀ e∈m1,e.f2.size≤maxLen from fun e he=>Nat.le_trans ((booksB_true.1 HQB.out).1.2.2.1 e he).2.2.1 (by unfold maxLen;omega));have SMM:=Aside0.mk (show smallB ch m1 ps from ⟨SM.out.1,⟨by have:=(booksB_true.1 HQB.out).1.2.1;omega,fun e he=>by have:=((booksB_true.1 HQB.out).1.2.2.1 e he).2.2.2.1.2;omega⟩,SM.out.2.2⟩);have HSH:=Aside0.mk (show ∀ p:Int,0≤p→p < (ps.length:Int)→0≤rd sh p∧rd sh p≤1000000000000000200 from fun p a b=>HSR.out.2.1 _ (mem_rd a (by rw [HSL.out.2.1];exact b)))
   have HMV:=Aside0.mk (show ∀ p:Int,0≤p→p < (ps.length:Int)→(movesR ch d u es h ps 0 kp p).2.1.length=ch.length∧(movesR ch d u m1 hh ps 0 kp p).2.1.length=ch.length∧rd (movesR ch d u m1 hh ps 0 kp p).2.1 tt - rd (movesR ch d u es h ps 0 kp p).2.1 tt=rd sh p∧rd (movesR ch d u es h ps 0 kp p).2.1 kp - rd (movesR ch d u m1 hh ps 0 kp p).2.1 kp=rd sh p from fun p a b=>by
    have hp:p.toNat < ps.length:=by omega
    have hpp:((p.toNat:Nat):Int)=p:=by omega
    have v1:=spr_moved QY.out tt kp tt 0 sh hp;have v2:=spr_moved QY.out kp kp tt 0 sh hp;rw [← HSL.out.1,hpp] at v1 v2;rw [spr_to (by omega) (fun e=>hkt e.symm),hpp] at v1;rw [spr_fr hk0 (fun e=>hkt e.symm) (by rw [hpp];have:=HSH.out p a b;omega),hpp] at v2;refine ⟨(moves_len QB.out a b).2.1,(moves_len HQB.out a b).2.1,?_,?_⟩
    ·rw [moves_at QB.out a b,moves_at HQB.out a b];simp only [];rw [mapN_rd (by omega) (by omega),mapN_rd (by omega) (by omega),hmE,basV_app,show ((tt.toNat:Nat):Int)=tt by omega,v1];omega
    ·rw [moves_at QB.out a b,moves_at HQB.out a b];simp only [];rw [mapN_rd hk0 hk1,mapN_rd hk0 hk1,hmE,basV_app,show ((kp.toNat:Nat):Int)=kp by omega,v2]
     omega)
   have HTK:=Aside0.mk (show ∀ p:Int,0≤p→p < (ps.length:Int)→sumS (sh.take (p+1).toNat)=sumS (sh.take p.toNat)+rd sh p∧0≤sumS (sh.take p.toNat)∧sumS (sh.take (p+1).toNat)≤tot from fun p a b=>⟨sumS_step a (by rw [HSL.out.2.1];exact b),sumS_nn _ (fun x hx=>(HSR.out.2.1 x (List.mem_of_mem_take hx)).1),by have:=sumS_take_le (fun x hx=>(HSR.out.2.1 x hx).1) (p+1).toNat;rw [HSR.out.1] at this;exact this⟩);have HTE:=Aside0.mk (show sumS (sh.take ps.length)=tot by rw [List.take_of_length_le (by rw [HSL.out.2.1];exact Nat.le_refl _)];exact HSR.out.1);clear hmE RX
   go_wp2_with fail
   go_loopg [12,13] ps.length (fun kq v12 v13 W=>∃ p:Int,v13 = .int .i64 p∧0≤p∧p≤(ps.length:Int)∧kq+p.toNat=ps.length∧v12 = .int .i64 (sumS (sh.take p.toNat))∧Aside0 (k48.R 48 W 0 (fun k=>k < w2.heap.size) (.slice A ch.length c) ch)∧Aside0 (Kd.S k41 41 W 0 (fun k=>k < w2.heap.size) (.slice A1 es.length c1) es)∧Aside0 (k63.R 63 W 0 (fun k=>k < w2.heap.size) (.slice A2 ps.length c2) ps)∧Aside0 (Kd.C k48 W P0 ch.length ch)∧Aside0 (Kd.C k41 W P1 m1.length m1)∧Aside0 (Kd.C k63 W P2 ps.length ps)∧Aside0 (W.heap[w2.heap.size]?=some (.cells #[.slice P0 ch.length p0,.int .i64 d,.int .i64 u,.slice P1 m1.length p1,.int .i64 hh,.slice P2 ps.length p2,.int .i64 0,.int .i64 kp] 32 (0,0)))∧Aside0 (W.heap[w8.heap.size]?=some (.cells #[.slice A ch.length c,.int .i64 d,.int .i64 u,.slice A1 es.length c1,.int .i64 h,.slice A2 ps.length c2,.int .i64 0,.int .i64 kp] 32 (0,0)))∧Aside0 (Below w.heap.size w W))
   case atStart=>exact ⟨0,rfl,by omega,by omega,by simp,rfl,R0,R1,R2,Q0,Q1,Q2,BK,BF,HB⟩
   case round =>
    clear R0 R1 R2 Q0 Q1 Q2 BK BF HB;obtain ⟨p,rfl,p0_,p1_,hkp,rfl,R0,R1,R2,Q0,Q1,Q2,BK,BF,HB⟩:=hrel;obtain ⟨wo2,rfl⟩:∃ wo:World,wo=wr:=⟨_,rfl⟩;have yBK0:=(y00 BK.out 0).trans rfl;have yBK1:=(y00 BK.out 1).trans rfl;have yBK2:=(y00 BK.out 2).trans rfl;have yBK3:=(y00 BK.out 3).trans rfl;have yBK4:=(y00 BK.out 4).trans rfl;have yBK5:=(y00 BK.out 5).trans rfl;have yBK6:=(y00 BK.out 6).trans rfl;have yBK7:=(y00 BK.out 7).trans rfl;have yBF0:=(y00 BF.out 0).trans rfl;have yBF1:=(y00 BF.out 1).trans rfl;have yBF2:=(y00 BF.out 2).trans rfl;have yBF3:=(y00 BF.out 3).trans rfl;have yBF4:=(y00 BF.out 4).trans rfl;have yBF5:=(y00 BF.out 5).trans rfl;have yBF6:=(y00 BF.out 6).trans rfl;have yBF7:=(y00 BF.out 7).trans rfl;by_cases hp:p < (ps.length:Int)
    ·obtain ⟨k1,rfl⟩:∃ k,gk=k+1:=⟨gk - 1,by omega⟩;have hpb:decide (p < (ps.length:Int))=true:=decide_eq_true hp;have hmv:=HMV.out p p0_ hp;have htk:=HTK.out p p0_ hp;have hsx:=HSH.out p p0_ hp
     go_wp2_with fail
     refine (impl_Moves.to A c ch d u A1 c1 es h A2 c2 ps 0 kp p _ ((Kd.R_reads' R0.out).2.2) HS.out ((Kd.S_reads' R1.out).2.2) HM.out ((Kd.R_reads' R2.out).2.2)).mono ?_;rintro x wa ⟨v0,v1,v2,rfl,h3,hb⟩;obtain ⟨LA0,LC0,LA1,LC1,LA2,LC2,rfl,rfl,rfl,nL,_,k1_,_⟩:=Three.C h3;have L1:=Aside0.mk k1_;clear h3 k1_ yBK0 yBK1 yBK2 yBK3 yBK4 yBK5 yBK6 yBK7 yBF0 yBF1 yBF2 yBF3 yBF4 yBF5 yBF6 yBF7;replace R0:=Aside0.mk (Kd.R_below R0.out hb);replace R1:=Aside0.mk (Kd.S_below R1.out hb);replace R2:=Aside0.mk (Kd.R_below R2.out hb);replace Q0:=Aside0.mk (Kd.C_below Q0.out hb);replace Q1:=Aside0.mk (Kd.C_below Q1.out hb);replace Q2:=Aside0.mk (Kd.C_below Q2.out hb);replace BK:=Aside0.mk (y03 BK.out hb);replace BF:=Aside0.mk (y03 BF.out hb);replace HB:=Aside0.mk (below_into (w:=w) hb HB.out);clear hb;have yBK0:=(y00 BK.out 0).trans rfl;have yBK1:=(y00 BK.out 1).trans rfl;have yBK2:=(y00 BK.out 2).trans rfl;have yBK3:=(y00 BK.out 3).trans rfl;have yBK4:=(y00 BK.out 4).trans rfl;have yBK5:=(y00 BK.out 5).trans rfl;have yBK6:=(y00 BK.out 6).trans rfl;have yBK7:=(y00 BK.out 7).trans rfl
     go_wp2_with fail
     refine (impl_Moves.to P0 p0 ch d u P1 p1 m1 hh P2 p2 ps 0 kp p _ Q0.out HS.out Q1.out HMM.out Q2.out).mono ?_;rintro x wb ⟨v0,v1,v2,rfl,h3,hb⟩;obtain ⟨NA0,NC0,NA1,NC1,NA2,NC2,rfl,rfl,rfl,nN,_,k1_,_⟩:=Three.C h3;have N1:=Aside0.mk k1_;clear h3 k1_ yBK0 yBK1 yBK2 yBK3 yBK4 yBK5 yBK6 yBK7;replace R0:=Aside0.mk (Kd.R_below R0.out hb);replace R1:=Aside0.mk (Kd.S_below R1.out hb);replace R2:=Aside0.mk (Kd.R_below R2.out hb);replace Q0:=Aside0.mk (Kd.C_below Q0.out hb);replace Q1:=Aside0.mk (Kd.C_below Q1.out hb);replace Q2:=Aside0.mk (Kd.C_below Q2.out hb);replace L1:=Aside0.mk (Kd.C_below L1.out hb);replace BK:=Aside0.mk (y03 BK.out hb);replace BF:=Aside0.mk (y03 BF.out hb);replace HB:=Aside0.mk (below_into (w:=w) hb HB.out);clear hb;obtain ⟨MA,hMA⟩:∃ m,m=movesR ch d u es h ps 0 kp p:=⟨_,rfl⟩;obtain ⟨MB,hMB⟩:∃ m,m=movesR ch d u m1 hh ps 0 kp p:=⟨_,rfl⟩;rw [← hMA,← hMB] at hmv;rw [← hMA] at L1;rw [← hMB] at N1;rw [← hMA,← hMB];rw [hmv.1] at L1;rw [hmv.2.1] at N1
     try rw [hmv.1]
     rw [hmv.2.1];obtain ⟨ad0,e0,x0⟩:=Kd.at_int L1.out tt (by omega) (by omega);obtain ⟨ad1,e1,x1⟩:=Kd.at_int N1.out tt (by omega) (by omega);subst e0 e1;obtain ⟨ad2,e2,x2⟩:=Kd.at_int L1.out kp hk0 hk1;obtain ⟨ad3,e3,x3⟩:=Kd.at_int N1.out kp hk0 hk1;cases e2;cases e3;have hm1:=hmv.2.2.1;have hm2:=hmv.2.2.2;clear hmv hMA hMB nL nN L1 N1;generalize rd MA.2.1 tt=ra at x0 hm1;generalize rd MB.2.1 tt=rm at x1 hm1;generalize rd MA.2.1 kp=rb at x2 hm2;generalize rd MB.2.1 kp=rn at x3 hm2;have hla:((ch.length:Int) != (ch.length:Int))=false:=by simp
     have hwx:IntKind.i64.wrap (rm - ra)=rd sh p:=by rw [hm1,IntKind.wrap_i64];omega
     have hwy:IntKind.i64.wrap (rb - rn)=rd sh p:=by rw [hm2,IntKind.wrap_i64];omega
     have hxx:(rd sh p != rd sh p)=false:=by simp
     have hxn:decide (rd sh p < 0)=false:=decide_eq_false (by omega);have hws:IntKind.i64.wrap (sumS (sh.take p.toNat)+rd sh p)=sumS (sh.take (p+1).toNat):=by rw [← htk.1,IntKind.wrap_i64];omega
     clear hm1 hm2 hsx htk
     go_wp2_with fail
     go_quiet (fail)
     go_wp2_with fail
     have yBK7:=(y00 BK.out 7).trans rfl;replace x2:=x2
     go_quiet (fail)
     go_wp2_with fail
     go_roundg k1
     case rel=>exact ⟨p+1,by go_num,by omega,by omega,by omega,rfl,⟨by with_reducible repeat (first | exact R0.out | refine Kd.R_drewN ?_ _)⟩,⟨by with_reducible repeat (first | exact R1.out | refine Kd.S_drewN ?_ _)⟩,⟨by with_reducible repeat (first | exact R2.out | refine Kd.R_drewN ?_ _)⟩,⟨by with_reducible repeat (first | exact Q0.out | refine Kd.C_drewN ?_ _)⟩,⟨by with_reducible repeat (first | exact Q1.out | refine Kd.C_drewN ?_ _)⟩,⟨by with_reducible repeat (first | exact Q2.out | refine Kd.C_drewN ?_ _)⟩,⟨by with_reducible repeat (first | exact BK.out | refine blk_drewN ?_ _)⟩,⟨by with_reducible repeat (first | exact BF.out | refine blk_drewN ?_ _)⟩,⟨by with_reducible repeat (first | exact HB.out | refine pw_below_drewN ?_ _)⟩⟩
     case measure=>omega
    ·have hpb:decide (p < (ps.length:Int))=false:=decide_eq_false hp;obtain rfl:p=(ps.length:Int):=by omega
     have hte:sumS (sh.take (ps.length:Int).toNat)=tot:=by rw [Int.toNat_natCast];exact HTE.out
     have htf:sumS (sh.take ps.length)=tot:=HTE.out;have htn:(tot != tot)=false:=by simp
     obtain ⟨⟨r0,r1,r2,r3,rk⟩,hC⟩:∃ R,R=closeR ch d u m1 hh ps 0 kp 40000:=⟨_,rfl⟩;have hCL:=closeR_len hC.symm;have hCT:=closeR_text hC.symm;have HCI:=Aside0.mk (show ((∀ x∈ch,x.f0.size≤maxLen)∧(∀ e∈m1,e.f2.size≤maxLen))∧closeR ch d u m1 hh ps 0 kp 40000=(r0,r1,r2,r3,rk) from ⟨⟨HS.out,HMM.out⟩,hC.symm⟩);have HCS:=Aside0.mk ((spec_CloseYear_is ch d u m1 hh ps 0 kp 40000 HS.out HMM.out 10000 (Nat.le_refl _)).trans (congrArg some hC.symm));have HCC:=Aside0.mk hC;clear hC yBF0 yBF1 yBF2 yBF3 yBF4 yBF5 yBF6 yBF7
     go_wp2_with fail
     refine (impl_CloseYear.at P0 p0 ch d u P1 p1 m1 hh P2 p2 ps 0 kp 40000 r0 r1 r2 r3 rk _ Q0.out m0.out Q1.out g1.out Q2.out g2.out HCI.out).mono ?_;rintro x wa ⟨v3,rfl,hR3,hb⟩;obtain ⟨A3,c3,rfl,n3,hC3⟩:=Kd.R_reads hR3;clear hR3 HCI R0 R1 R2 BF yBK0 yBK1 yBK2 yBK3 yBK4 yBK5 yBK6 yBK7;replace Q0:=Aside0.mk (Kd.C_below Q0.out hb);replace Q1:=Aside0.mk (Kd.C_below Q1.out hb);replace Q2:=Aside0.mk (Kd.C_below Q2.out hb);replace BK:=Aside0.mk (y03 BK.out hb);replace HB:=Aside0.mk (below_into (w:=w) hb HB.out);clear hb;have K3:=Aside0.mk hC3;clear hC3
     go_upto_region 40 with fail
     have hb:=below_alloc (Below.refl wa.heap.size wa) (Obj.cells #[.int .i64 r0,.int .i64 r1,.string r2,.slice A3 r3.length c3] 41);have BE:=Aside0.mk (blk_new wa (Obj.cells #[.int .i64 r0,.int .i64 r1,.string r2,.slice A3 r3.length c3] 41));replace Q0:=Aside0.mk (Kd.C_below Q0.out hb);replace Q1:=Aside0.mk (Kd.C_below Q1.out hb);replace Q2:=Aside0.mk (Kd.C_below Q2.out hb);replace K3:=Aside0.mk (Kd.C_below K3.out hb);replace BK:=Aside0.mk (y03 BK.out hb);replace HB:=Aside0.mk (below_into (w:=w) hb HB.out);clear hb;generalize wa.alloc (Obj.cells #[.int .i64 r0,.int .i64 r1,.string r2,.slice A3 r3.length c3] 41)=wb at *;have yBK0:=(y00 BK.out 0).trans rfl;have yBK1:=(y00 BK.out 1).trans rfl;have yBK2:=(y00 BK.out 2).trans rfl;have yBK3:=(y00 BK.out 3).trans rfl;have yBK4:=(y00 BK.out 4).trans rfl;have yBK5:=(y00 BK.out 5).trans rfl;have yBK6:=(y00 BK.out 6).trans rfl;have yBK7:=(y00 BK.out 7).trans rfl
     go_wp2_with fail
     refine (spec_CloseYear.calls 10000 P0 p0 ch d u P1 p1 m1 hh P2 p2 ps 0 kp 40000 r0 r1 r2 r3 rk _ Q0.out m0.out Q1.out g1.out Q2.out g2.out HCS.out).mono ?_;rintro x wd ⟨v4,rfl,hR4,hb⟩;obtain ⟨A4,c4,rfl⟩:=Kd.R_slice hR4;clear hR4 HCS yBK0 yBK1 yBK2 yBK3 yBK4 yBK5 yBK6 yBK7;replace Q0:=Aside0.mk (Kd.C_below Q0.out hb);replace Q1:=Aside0.mk (Kd.C_below Q1.out hb);replace Q2:=Aside0.mk (Kd.C_below Q2.out hb);replace K3:=Aside0.mk (Kd.C_below K3.out hb);replace BK:=Aside0.mk (y03 BK.out hb);replace BE:=Aside0.mk (y03 BE.out hb);replace HB:=Aside0.mk (below_into (w:=w) hb HB.out);clear hb
     go_upto_region 41 with fail
     have hb:=below_alloc (Below.refl wd.heap.size wd) (Obj.cells #[.int .i64 r0,.int .i64 r1,.string r2,.slice A4 r3.length c4] 41);replace Q0:=Aside0.mk (Kd.C_below Q0.out hb);replace Q1:=Aside0.mk (Kd.C_below Q1.out hb);replace Q2:=Aside0.mk (Kd.C_below Q2.out hb);replace K3:=Aside0.mk (Kd.C_below K3.out hb);replace BK:=Aside0.mk (y03 BK.out hb);replace BE:=Aside0.mk (y03 BE.out hb);replace HB:=Aside0.mk (below_into (w:=w) hb HB.out);clear hb;generalize wd.alloc (Obj.cells #[.int .i64 r0,.int .i64 r1,.string r2,.slice A4 r3.length c4] 41)=we at *;have hne:(rk != rk)=false:=by simp
     have heq:(rk == rk)=true:=by simp
     cases rk
     ·go_wp2_with fail
      go_ret
      exact ⟨rfl,HB.out⟩
     clear hne heq;obtain ⟨ad,e0,y0,y1,y2⟩:=at_T48 Q0.out tt ht2 ht1;cases e0;by_cases hk4:4≤knd ch tt
     case neg =>
      have hka:((rd_T48 ch tt).f2 != 4)=true:=bne_iff_ne.2 (fun e=>hk4 (by unfold knd;omega));have hkc:((rd_T48 ch tt).f2 != 5)=true:=bne_iff_ne.2 (fun e=>hk4 (by unfold knd;omega));have yBK0:=(y00 BK.out 0).trans rfl;have yBK1:=(y00 BK.out 1).trans rfl;have yBK2:=(y00 BK.out 2).trans rfl;have yBK3:=(y00 BK.out 3).trans rfl;have yBK4:=(y00 BK.out 4).trans rfl;have yBK5:=(y00 BK.out 5).trans rfl;have yBK6:=(y00 BK.out 6).trans rfl;have yBK7:=(y00 BK.out 7).trans rfl
      go_wp2_with fail
      go_ret
      exact ⟨rfl,HB.out⟩
     obtain ⟨⟨p1_,ph,pk⟩,hP⟩:∃ R,R=postR ch d u m1 hh ⟨r0,r1,r2,r3⟩:=⟨_,rfl⟩;have hway:=year_closed HCC.out.symm rfl hP.symm;have HPI:=Aside0.mk (show ((∀ x∈ch,x.f0.size≤maxLen)∧(∀ e∈m1,e.f2.size≤maxLen)∧r2.size≤maxLen∧m1.length≤1048576∧(∀ y∈m1,y.f3.length≤1048576)∧r3.length≤1048576)∧postR ch d u m1 hh ⟨r0,r1,r2,r3⟩=(p1_,ph,pk) from ⟨⟨HS.out,HMM.out,hCT,SMM.out.2.1.1,SMM.out.2.1.2,hCL⟩,hP.symm⟩);clear hP hCT hCL;have hkd:(rd_T48 ch tt).f2=4∨(rd_T48 ch tt).f2=5:=kind_two QB.out ht2 ht1 hk4;have hkk:(((rd_T48 ch tt).f2 != 4)=true∧((rd_T48 ch tt).f2 != 5)=false)∨((rd_T48 ch tt).f2 != 4)=false:=by rcases hkd with e | e <;> simp [e]
     have yBK0:=(y00 BK.out 0).trans rfl;have yBK1:=(y00 BK.out 1).trans rfl;have yBK2:=(y00 BK.out 2).trans rfl;have yBK3:=(y00 BK.out 3).trans rfl;have yBK4:=(y00 BK.out 4).trans rfl;have yBK5:=(y00 BK.out 5).trans rfl;have yBK6:=(y00 BK.out 6).trans rfl;have yBK7:=(y00 BK.out 7).trans rfl;have yBE0:=(y00 BE.out 0).trans rfl;have yBE1:=(y00 BE.out 1).trans rfl;have yBE2:=(y00 BE.out 2).trans rfl;have yBE3:=(y00 BE.out 3).trans rfl;clear hkd;rcases hkk with ⟨hka,hkc⟩ | hka
     ·go_wp2_with fail
      refine (impl_Post.at (some ad) p0 ch d u P1 p1 m1 hh r0 r1 r2 A3 c3 r3 p1_ ph pk _ Q0.out m0.out Q1.out g1.out K3.out n3 HPI.out).mono ?_;rintro x wf ⟨v5,rfl,hS5,hb⟩;obtain ⟨A5,c5,rfl,n5,hC5⟩:=Kd.S_reads hS5;have HB5:=Aside0.mk (below_into (w:=w) hb HB.out);clear hS5 HPI hb y0 y1 y2 Q0 Q1 Q2 K3 HB BE BK yBK0 yBK1 yBK2 yBK3 yBK4 yBK5 yBK6 yBK7 yBE0 yBE1 yBE2 yBE3;have K5:=Aside0.mk hC5;clear hC5
      go_upto_region 44 with fail
      replace K5:=Aside0.mk (Kd.C_alloc K5.out (Obj.cells #[.slice A5 p1_.length c5,.int .i64 ph] 29));replace HB5:=Aside0.mk (below_alloc HB5.out (Obj.cells #[.slice A5 p1_.length c5,.int .i64 ph] 29));have BN:=Aside0.mk (blk_new wf (Obj.cells #[.slice A5 p1_.length c5,.int .i64 ph] 29));generalize wf.alloc (Obj.cells #[.slice A5 p1_.length c5,.int .i64 ph] 29)=wg at *;rcases hway with rfl | ⟨rfl,hpl,hpf,hpq,hpz⟩
      ·go_wp2_with fail
       go_ret
       exact ⟨rfl,HB5.out⟩
      have yN0:=(y00 BN.out 0).trans rfl;have yN1:=(y00 BN.out 1).trans rfl;have hnone:=closed_none hpq (a:=tt) (fr:=0) (tt:=40000) (fun x h0 h1=>hpz tt x ht2 ht1 hk4 h0 h1)
      go_wp2_with fail
      refine (impl_Balance.to A5 c5 p1_ ph tt (-1) (-1) 0 40000 _ K5.out hpl hpf).mono ?_;rintro xx wh ⟨rfl,hb⟩;rw [hnone];replace HB5:=Aside0.mk (below_into (w:=w) hb HB5.out);clear hb
      go_wp2_with fail
      go_ret
      exact ⟨rfl,HB5.out⟩
     ·go_wp2_with fail
      refine (impl_Post.at (some ad) p0 ch d u P1 p1 m1 hh r0 r1 r2 A3 c3 r3 p1_ ph pk _ Q0.out m0.out Q1.out g1.out K3.out n3 HPI.out).mono ?_;rintro x wf ⟨v5,rfl,hS5,hb⟩;obtain ⟨A5,c5,rfl,n5,hC5⟩:=Kd.S_reads hS5;have HB5:=Aside0.mk (below_into (w:=w) hb HB.out);clear hS5 HPI hb y0 y1 y2 Q0 Q1 Q2 K3 HB BE BK yBK0 yBK1 yBK2 yBK3 yBK4 yBK5 yBK6 yBK7 yBE0 yBE1 yBE2 yBE3;have K5:=Aside0.mk hC5;clear hC5
      go_upto_region 44 with fail
      replace K5:=Aside0.mk (Kd.C_alloc K5.out (Obj.cells #[.slice A5 p1_.length c5,.int .i64 ph] 29));replace HB5:=Aside0.mk (below_alloc HB5.out (Obj.cells #[.slice A5 p1_.length c5,.int .i64 ph] 29));have BN:=Aside0.mk (blk_new wf (Obj.cells #[.slice A5 p1_.length c5,.int .i64 ph] 29));generalize wf.alloc (Obj.cells #[.slice A5 p1_.length c5,.int .i64 ph] 29)=wg at *;rcases hway with rfl | ⟨rfl,hpl,hpf,hpq,hpz⟩
      ·go_wp2_with fail
       go_ret
       exact ⟨rfl,HB5.out⟩
      have yN0:=(y00 BN.out 0).trans rfl;have yN1:=(y00 BN.out 1).trans rfl;have hnone:=closed_none hpq (a:=tt) (fr:=0) (tt:=40000) (fun x h0 h1=>hpz tt x ht2 ht1 hk4 h0 h1)
      go_wp2_with fail
      refine (impl_Balance.to A5 c5 p1_ ph tt (-1) (-1) 0 40000 _ K5.out hpl hpf).mono ?_;rintro xx wh ⟨rfl,hb⟩;rw [hnone];replace HB5:=Aside0.mk (below_into (w:=w) hb HB5.out);clear hb
      go_wp2_with fail
      go_ret
      exact ⟨rfl,HB5.out⟩
end Go.Proofs.YtnknanppoenigaaGreatDoor.Q
