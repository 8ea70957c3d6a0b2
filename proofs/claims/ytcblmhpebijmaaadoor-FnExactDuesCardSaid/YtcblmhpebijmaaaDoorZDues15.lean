/- Parts of the proof: what functions of the program and of the reference answer.
   No condition. -/
import Derived.Test.YtcblmhpebijmaaaDoorZDues1
import Derived.Test.YtcblmhpebijmaaaDoorZDues7
import Derived.Test.YtcblmhpebijmaaaDoorZDues12
import Derived.Test.YtcblmhpebijmaaaDoorZDues4
import Derived.Test.YtcblmhpebijmaaaDoorZDues6
namespace Go.Proofs.YtcblmhpebijmaaaDoor.Q
open Go.RowKit Go.Proofs.YtcblmhpebijmaaaDoorW.PrintWords Go.Proofs.YtcblmhpebijmaaaDoorW.PrintLast Go.Proofs.YtcblmhpebijmaaaDoorW.PrintMore
set_option linter.unusedVariables false
set_option linter.unusedSimpArgs false
theorem Shares_l3 (x5 x8:List Int) (x9 one m:Int) (hm:firstMax x8 m) (hl:x5.length=x8.length):∀ (n k:Nat) (b i:Int),0≤b→b < i→i+n=(x8.length:Int)→x8.length≤200→n < k→(∀ j:Int,0≤j→j < i→rd x8 j≤rd x8 b∧(j < b→rd x8 j < rd x8 b)) →
 spec_Shares.l3 k x5 x8 x9 one b i=spec_Shares.l2 (k - n - 1) (x5.set m.toNat (wrap64 (rd x5 m+one))) (x8.set m.toNat (-1)) (wrap64 (x9 - one)) one:=by
 intro n
 induction n with
 | zero =>
  intro k b i b0 bi hi hc hk hp;obtain ⟨k,rfl⟩:∃ j,k=j+1:=⟨k - 1,by omega⟩;have hb:b=m:=firstMax_one ⟨b0,by omega,fun j j0 j1=>hp j j0 (by omega)⟩ hm;subst hb;rw [spec_Shares.l3,if_neg (by omega),if_pos b0,if_pos (by omega),if_pos (by omega)];rfl
 | succ n ih =>
  intro k b i b0 bi hi hc hk hp;obtain ⟨k,rfl⟩:∃ j,k=j+1:=⟨k - 1,by omega⟩;have hw:wrap64 (i+1)=i+1:=by unfold wrap64;omega
  rw [spec_Shares.l3,if_pos (by omega),if_pos (by omega),if_pos b0,if_pos (by omega),hw];have e:k+1 - (n+1) - 1=k - n - 1:=by omega
  by_cases q:rd x8 i > rd x8 b
  ·rw [if_pos q,e];refine ih k i (i+1) (by omega) (by omega) (by omega) hc (by omega) (fun j j0 j1=>?_);by_cases ej:j=i
   ·subst ej;exact ⟨Int.le_refl _,fun q=>absurd q (by omega)⟩
   ·have:=(hp j j0 (by omega)).1;exact ⟨by omega,fun _=>by omega⟩
  ·rw [if_neg q,e];refine ih k b (i+1) b0 (by omega) (by omega) hc (by omega) (fun j j0 j1=>?_);by_cases ej:j=i
   ·subst ej;exact ⟨by omega,fun q=>absurd q (by omega)⟩
   ·exact hp j j0 (by omega)
set_option maxRecDepth 100000 in
theorem Shares_l2 {one:Int} (ho:one=1∨one = -1):∀ (P:List Cut) (k:Nat) (x5 x8:List Int),P.length≤200→picks x8 P→x5.length=x8.length→x8.length≤200→P.length * 300 < k →
 spec_Shares.l2 k x5 x8 (one * (P.length:Int)) one=some (giveC one x5 P)
 | [],k,x5,x8,_,_,_,_,hk=>by
  obtain ⟨k,rfl⟩:∃ j,k=j+1:=⟨k - 1,by omega⟩;rw [spec_Shares.l2,if_pos (by simp)];rfl
 | c :: cs,k,x5,x8,hP,hp,hl,hc,hk=>by
  obtain ⟨k,rfl⟩:∃ j,k=j+1:=⟨k - 1,by omega⟩;unfold picks at hp;obtain ⟨hm,hp⟩:=hp;have hlen:=hm.2.1;have h0:=hm.1;simp only [List.length_cons] at hP hk
  have hne:¬ one * (((c :: cs).length:Nat):Int)=0:=by
   simp only [List.length_cons];rcases ho with rfl | rfl <;> omega
  rw [spec_Shares.l2,if_neg hne]
  rw [Shares_l3 x5 x8 _ one c.f0 hm hl (x8.length - 1) k 0 1 (by omega) (by omega) (by omega) hc (by omega) (fun j j0 j1=>by
   have:j=0:=by omega
   subst this
   exact ⟨Int.le_refl _,fun q=>absurd q (by omega)⟩)]
  have hs:wrap64 (one * (((c :: cs).length:Nat):Int) - one)=one * (cs.length:Int):=by
   simp only [List.length_cons];unfold wrap64;rcases ho with rfl | rfl <;> omega
  rw [hs,Shares_l2 ho cs _ _ _ (by omega) hp (by simp [hl]) (by simpa using hc) (by omega)];rfl
theorem Shares_l0 (t:Int) (ws:List Int) (hl:ws.length≤200):∀ (n k:Nat) (i:Int),0≤i→i+n=(ws.length:Int)→n < k→(∀ x∈ws.take i.toNat,factP x) →
 spec_Shares.l0 k t ws [] (sumS (ws.take i.toNat)) i=open Classical in if ∀ x∈ws,factP x then (if sumS ws=0 then some [] else spec_Shares.l1 (k - n - 1) t ws [] (sumS ws) [] t 0) else some []:=by
 intro n
 induction n with
 | zero =>
  intro k i i0 hi hk hp;obtain ⟨k,rfl⟩:∃ j,k=j+1:=⟨k - 1,by omega⟩;have e:ws.take i.toNat=ws:=List.take_of_length_le (by omega);rw [e] at hp ⊢;rw [spec_Shares.l0,if_neg (by omega),if_pos hp];rfl
 | succ n ih =>
  intro k i i0 hi hk hp;obtain ⟨k,rfl⟩:∃ j,k=j+1:=⟨k - 1,by omega⟩;have hm:=mem_rd (l:=ws) i0 (by omega);have hw:wrap64 (i+1)=i+1:=by unfold wrap64;omega
  rw [spec_Shares.l0,if_pos (by omega),if_pos i0];by_cases q:factP (rd ws i)
  ·have hf:spec_l1Factor.f (rd ws i)=some true:=by
    unfold spec_l1Factor.f spec_l1In.f;unfold factP at q;simp [inB_of q]
   have hs:=sumS_b hp
   have hs2:wrap64 (sumS (ws.take i.toNat)+rd ws i)=sumS (ws.take (i+1).toNat):=by
    rw [take_rd i0 (by omega),sumS_app];simp only [sumS];have hl2:(ws.take i.toNat).length≤200:=by rw [List.length_take];omega
    unfold factP at q;unfold wrap64;omega
   rw [hf];simp only [Option.bind_some,if_true]
   rw [hs2,hw,ih k (i+1) (by omega) (by omega) (by omega) (fun x hx=>by
    rw [take_rd i0 (by omega)] at hx;rcases List.mem_append.1 hx with hx | hx
    ·exact hp x hx
    ·rw [List.mem_singleton.1 hx];exact q)]
   rw [show k+1 - (n+1) - 1=k - n - 1 by omega]
  ·have hf:spec_l1Factor.f (rd ws i)=some false:=by
    unfold spec_l1Factor.f spec_l1In.f;unfold factP at q;simp [inB_not q]
   rw [hf,if_neg (fun h=>q (h _ hm))];simp
theorem Shares_l1 (t all:Int) (ws:List Int) (hl:ws.length≤200) (ht:-100000000000≤t∧t≤100000000000) (hf:∀ x∈ws,factP x) (ha:all≠0):∀ (n k:Nat) (i:Int),0≤i→i+n=(ws.length:Int)→n < k →
 spec_Shares.l1 k t ws ((quoS t all ws).take i.toNat) all ((rstS t all ws).take i.toNat) (wrap64 (t - sumS ((quoS t all ws).take i.toNat))) i=if wrap64 (t - sumS (quoS t all ws)) < 0 then spec_Shares.j3 (k - n - 1) (quoS t all ws) (rstS t all ws) (wrap64 (t - sumS (quoS t all ws))) (-1) else spec_Shares.j3 (k - n - 1) (quoS t all ws) (rstS t all ws) (wrap64 (t - sumS (quoS t all ws))) 1:=by
 have l1:(quoS t all ws).length=ws.length:=by unfold quoS;rw [List.length_map]
 have l2:(rstS t all ws).length=ws.length:=by unfold rstS;rw [List.length_map]
 intro n
 induction n with
 | zero =>
  intro k i i0 hi hk;obtain ⟨k,rfl⟩:∃ j,k=j+1:=⟨k - 1,by omega⟩;have e:(quoS t all ws).take i.toNat=quoS t all ws:=List.take_of_length_le (by omega);have e2:(rstS t all ws).take i.toNat=rstS t all ws:=List.take_of_length_le (by omega);rw [e,e2,spec_Shares.l1,if_neg (by omega)];rfl
 | succ n ih =>
  intro k i i0 hi hk;obtain ⟨k,rfl⟩:∃ j,k=j+1:=⟨k - 1,by omega⟩;have hm:=mem_rd (l:=ws) i0 (by omega);have hw:wrap64 (i+1)=i+1:=by unfold wrap64;omega
  have hb:=mulB ht (hf _ hm);have hwm:wrap64 (t * rd ws i)=t * rd ws i:=by unfold wrap64;omega
  have hd:=tdivB (a:=t * rd ws i) (b:=all);have hr:=tmodB (a:=t * rd ws i) (b:=all);have hwd:wrap64 (Int.tdiv (t * rd ws i) all)=Int.tdiv (t * rd ws i) all:=by unfold wrap64;omega
  have habs:spec_l1Abs.f (Int.tmod (t * rd ws i) all)=some (absI (Int.tmod (t * rd ws i) all)):=by
   unfold spec_l1Abs.f absI
   split
   ·congr 1;unfold wrap64;omega
   ·rfl
  have hq:rd (quoS t all ws) i=Int.tdiv (t * rd ws i) all:=by
   unfold rd quoS;rw [List.getD_eq_getElem?_getD,List.getD_eq_getElem?_getD,List.getElem?_map,List.getElem?_eq_getElem (by omega)];rfl
  have hq2:rd (rstS t all ws) i=absI (Int.tmod (t * rd ws i) all):=by
   unfold rd rstS;rw [List.getD_eq_getElem?_getD,List.getD_eq_getElem?_getD,List.getElem?_map,List.getElem?_eq_getElem (by omega)];rfl
  rw [spec_Shares.l1,if_pos (by omega),if_pos i0,if_neg ha,if_pos (by rw [List.length_take];omega),hwm,habs];simp only [Option.bind_some];rw [if_pos (by rw [List.length_take];omega),hwd,← hq,← hq2,← take_rd i0 (by omega),← take_rd i0 (by omega),hw,wrap_sub]
  have hs:t - sumS ((quoS t all ws).take i.toNat) - rd (quoS t all ws) i=t - sumS ((quoS t all ws).take (i+1).toNat):=by
   rw [take_rd i0 (by omega),sumS_app];simp only [sumS];omega
  rw [hs,ih k (i+1) (by omega) (by omega) (by omega)];rw [show k+1 - (n+1) - 1=k - n - 1 by omega]
theorem spec_Shares_is (t:Int) (ws:List Int) (k:Nat) (hk:100000≤k):spec_Shares.f k t ws=some (sharesR t ws):=by
 unfold spec_Shares.f spec_l1Amount.f;simp only [Option.bind_some];by_cases ht:-100000000000≤t∧t≤100000000000
 case neg =>
  obtain ⟨k,rfl⟩:∃ j,k=j+1:=⟨k - 1,by omega⟩;rw [inB_not ht,if_neg (by simp),spec_Shares.j0,if_pos rfl];unfold sharesR;rw [if_neg (fun q=>ht q.1)]
 obtain ⟨k,rfl⟩:∃ j,k=j+1:=⟨k - 1,by omega⟩;rw [inB_of ht,if_pos rfl,spec_Shares.j0];by_cases hl:ws.length≤200
 case neg =>
  rw [if_pos (by simp;omega)];unfold sharesR;rw [if_neg (fun q=>hl q.2.1)]
 rw [if_neg (by simp;omega)];have h0:=Shares_l0 t ws hl ws.length k 0 (Int.le_refl _) (by omega) (by omega) (by simp);simp only [Int.toNat_zero,List.take_zero,sumS] at h0;rw [h0];by_cases hf:∀ x∈ws,factP x
 case neg =>
  rw [if_neg hf];unfold sharesR;rw [if_neg (fun q=>hf q.2.2.1)]
 rw [if_pos hf];by_cases hs:sumS ws=0
 ·rw [if_pos hs];unfold sharesR;rw [if_neg (fun q=>q.2.2.2 hs)]
 rw [if_neg hs];have hpos:=sumS_b hf;have h1:=Shares_l1 t (sumS ws) ws hl ht hf hs ws.length (k - ws.length - 1) 0 (Int.le_refl _) (by omega) (by omega);simp only [Int.toNat_zero,List.take_zero,sumS,Int.sub_zero] at h1;rw [show wrap64 t=t by unfold wrap64;omega] at h1;rw [h1];obtain ⟨f1,f2,f3⟩:=left_few (t:=t) (ws:=ws) (fun x hx=>(hf x hx).1) (by omega);have hpk:=picks_rst (t:=t) (ws:=ws) (t - sumS (quoS t (sumS ws) ws)).natAbs (by omega);have e1:(quoS t (sumS ws) ws).length=ws.length:=by unfold quoS;rw [List.length_map]
 have e2:(rstS t (sumS ws) ws).length=ws.length:=by unfold rstS;rw [List.length_map]
 have e3:((msortC ws.length (cutsOf (rstS t (sumS ws) ws))).take (t - sumS (quoS t (sumS ws) ws)).natAbs).length=(t - sumS (quoS t (sumS ws) ws)).natAbs:=by
  rw [List.length_take,(msortC_perm _ _).length_eq];unfold cutsOf;rw [List.length_map,List.length_range,e2];omega
 have hsr:sharesR t ws=giveC (oneS (t - sumS (quoS t (sumS ws) ws))) (quoS t (sumS ws) ws) ((msortC ws.length (cutsOf (rstS t (sumS ws) ws))).take (t - sumS (quoS t (sumS ws) ws)).natAbs):=by
  unfold sharesR;rw [if_pos ⟨ht,hl,hf,hs⟩]
 rw [hsr];clear hsr;generalize t - sumS (quoS t (sumS ws) ws)=L at *;generalize (msortC ws.length (cutsOf (rstS t (sumS ws) ws))).take L.natAbs=P at *;rw [show wrap64 L=L by unfold wrap64;omega];obtain ⟨k2,hk2⟩:∃ j,k - ws.length - 1 - ws.length - 1=j+1:=⟨k - ws.length - 1 - ws.length - 1 - 1,by omega⟩;rw [hk2];by_cases hL:L < 0
 ·rw [if_pos hL,spec_Shares.j3];have:=Shares_l2 (one:=-1) (.inr rfl) P k2 (quoS t (sumS ws) ws) (rstS t (sumS ws) ws) (by omega) hpk (by omega) (by omega) (by omega);rw [show (-1:Int) * (P.length:Int)=L by omega] at this;rw [this];unfold oneS;rw [if_pos hL]
 ·rw [if_neg hL,spec_Shares.j3];have:=Shares_l2 (one:=1) (.inl rfl) P k2 (quoS t (sumS ws) ws) (rstS t (sumS ws) ws) (by omega) hpk (by omega) (by omega) (by omega);rw [show (1:Int) * (P.length:Int)=L by omega] at this;rw [this];unfold oneS;rw [if_neg hL]
theorem sharesR_len (t:Int) (ws:List Int):(sharesR t ws).length=0∨(sharesR t ws).length=ws.length:=by
 unfold sharesR
 split
 ·right;rw [giveC_len];unfold quoS;rw [List.length_map]
 ·left;rfl
end Go.Proofs.YtcblmhpebijmaaaDoor.Q
