/- Parts of the proof: what functions of the program and of the reference answer.
   No condition. -/
import Derived.Test.YtcblmhpebijmaaaDoorZDues1
import Derived.Test.YtcblmhpebijmaaaDoorZDues7
import Derived.Test.YtcblmhpebijmaaaDoorZDues5
import Derived.Test.YtcblmhpebijmaaaDoorZDues14
import Derived.Test.YtcblmhpebijmaaaDoorZDues4
import Derived.Test.YtcblmhpebijmaaaDoorZDues17
import Derived.Test.YtcblmhpebijmaaaDoorZDues20
import Derived.Test.YtcblmhpebijmaaaDoorZDues19
import Derived.Test.YtcblmhpebijmaaaDoorZDues21
import Derived.Test.YtcblmhpebijmaaaDoorZDues15
namespace Go.Proofs.YtcblmhpebijmaaaDoor.Q
open Go.RowKit Go.Proofs.YtcblmhpebijmaaaDoorW.PrintWords Go.Proofs.YtcblmhpebijmaaaDoorW.PrintLast Go.Proofs.YtcblmhpebijmaaaDoorW.PrintMore
set_option linter.unusedVariables false
set_option linter.unusedSimpArgs false
def okP (p:S43):Bool:=inB p.f1 0 120 && inB p.f3 0 1000
theorem okP_true {p:S43}:okP p=true ↔ (0≤p.f1∧p.f1≤120)∧(0≤p.f3∧p.f3≤1000):=by unfold okP;rw [Bool.and_eq_true,inB_true,inB_true]
noncomputable def fallD (day:Int) (p:S43):Int:=if p.f2=true then endV (addM day p.f1) else addM day p.f1
noncomputable def dayD (off:Int) (hs:List Int) (day:Int) (p:S43):Int:=if fallD day p < 0 then -1 else addV off hs (fallD day p+p.f3)
noncomputable def dueGo (l:List S43) (off:Int) (hs:List Int) (day:Int) (sh:List Int):Nat→Nat→List S50→List S50
 | 0,_,acc=>acc
 | n+1,i,acc=>if okP (rd_T43 l i)=true∧0≤dayD off hs day (rd_T43 l i) then dueGo l off hs day sh n (i+1) (acc++[⟨dayD off hs day (rd_T43 l i),rd sh i⟩]) else []
noncomputable def dueR (l:List S43) (off:Int) (hs:List Int) (day amt:Int):List S50:=if l.length > 24 then [] else dueGo l off hs day (sharesR amt (l.map (·.f0))) (sharesR amt (l.map (·.f0))).length 0 []
theorem dayV_b (y m d:Int):-1≤dayV y m d∧dayV y m d≤40000:=by
 unfold dayV
 split
 ·have h1:=ySum_b (y - 2000).toNat;have h2:=mSum_b y (m - 1).toNat
  split <;> omega
 ·omega
theorem endV_b (day:Int):-1≤endV day∧endV day≤40000:=by
 unfold endV
 split
 ·exact dayV_b _ _ _
 ·omega
theorem addM_b (day n:Int):-1≤addM day n∧addM day n≤40000:=by
 unfold addM
 split
 ·exact dayV_b _ _ _
 ·omega
theorem endV_neg {x:Int} (h:x < 0):endV x = -1:=by unfold endV;rw [if_neg (by omega)]
theorem AddM_ge (day n:Int) {k:Nat} (hk:40003≤k):spec_AddMonths.f k day n=some (addM day n):=by
 obtain ⟨j,rfl⟩:∃ j,k=40003+j:=⟨k - 40003,by omega⟩;exact LeO.iter (f:=fun k=>spec_AddMonths.f k day n) (spec_AddMonths.mono day n) (AddM_is day n) j
theorem MonthEnd_ge (day:Int) {k:Nat} (hk:40002≤k):spec_MonthEnd.f k day=some (endV day):=by
 obtain ⟨j,rfl⟩:∃ j,k=40002+j:=⟨k - 40002,by omega⟩;exact LeO.iter (f:=fun k=>spec_MonthEnd.f k day) (spec_MonthEnd.mono day) (MonthEnd_is day) j
section
variable (l:List S43) (off:Int) (hs:List Int) (day:Int) (sh:List Int)
theorem Dues_l1 (hl:l.length≤24) (hsl:sh.length≤l.length) (n:Nat):∀ (k i:Nat) (acc:List S50),i+n=sh.length→acc.length=i→n * 4+60000 < k→spec_Dues.l1 k l day acc sh i off hs=some (dueGo l off hs day sh n i acc):=by
 induction n with
 | zero =>
  intro k i acc hi ha hk;obtain ⟨k,rfl⟩:∃ j,k=j+1:=⟨k - 1,by omega⟩;rw [spec_Dues.l1,if_neg (by omega)];rfl
 | succ n ih =>
  intro k i acc hi ha hk;obtain ⟨k,rfl⟩:∃ j,k=j+1+1+1+1:=⟨k - 4,by omega⟩;rw [spec_Dues.l1,if_pos (by omega),if_pos (by omega),if_pos (by omega)];unfold spec_l1In.f;rw [Option.bind_some];generalize hp:rd_T43 l (i:Int)=p;have hgo:dueGo l off hs day sh (n+1) i acc=if okP p=true∧0≤dayD off hs day p then dueGo l off hs day sh n (i+1) (acc++[⟨dayD off hs day p,rd sh i⟩]) else []:=by rw [dueGo,hp]
  rw [hgo];by_cases c1:0≤p.f1∧p.f1≤120
  ·rw [inB_of c1,if_pos rfl,Option.bind_some];by_cases c2:0≤p.f3∧p.f3≤1000
   ·have hok:okP p=true:=okP_true.2 ⟨c1,c2⟩;rw [inB_of c2,spec_Dues.j2,if_neg (by decide),AddM_ge _ _ (by omega),Option.bind_some];have hab:=addM_b day p.f1;have heb:=endV_b (addM day p.f1)
    have key:∀ y:Int,y=fallD day p→-1≤y→y≤40000→spec_Dues.j4 (k+1) l day acc sh i y off hs p.f0 p.f1 p.f2 p.f3=some (if okP p=true∧0≤dayD off hs day p then dueGo l off hs day sh n (i+1) (acc++[⟨dayD off hs day p,rd sh i⟩]) else []):=by
     intro y hy hy1 hy2;rw [spec_Dues.j4];by_cases c3:y ≥ 0
     ·rw [if_pos c3,w64 (x:=y+p.f3) (by omega),AddWork_is _ _ _ _ (by omega),Option.bind_some];have hd:dayD off hs day p=addV off hs (y+p.f3):=by unfold dayD;rw [← hy,if_neg (by omega)]
      rw [← hd];by_cases c4:dayD off hs day p < 0
      ·rw [if_pos c4,if_neg (fun q=>by omega)]
      ·rw [if_neg c4,if_pos (by omega),if_pos (by omega),if_pos (by omega),if_pos ⟨hok,by omega⟩,w64 (x:=(i:Int)+1) (by omega)];have:=ih k (i+1) (acc++[⟨dayD off hs day p,rd sh i⟩]) (by omega) (by rw [List.length_append];simp;omega) (by omega);rw [show ((i+1:Nat):Int)=(i:Int)+1 by omega] at this;exact this
     ·have hd:dayD off hs day p = -1:=by unfold dayD;rw [← hy,if_pos (by omega)]
      rw [if_neg c3,if_pos (by omega),if_neg (fun q=>by omega)]
    by_cases c5:addM day p.f1 ≥ 0
    ·rw [if_pos c5,spec_Dues.j3];by_cases c6:p.f2=true
     ·rw [if_pos c6,MonthEnd_ge _ (by omega),Option.bind_some];exact key _ (by unfold fallD;rw [if_pos c6]) heb.1 heb.2
     ·rw [if_neg c6];exact key _ (by unfold fallD;rw [if_neg c6]) hab.1 hab.2
    ·rw [if_neg c5,spec_Dues.j3,if_neg (by decide)];have hm:addM day p.f1 = -1:=by omega
     refine key _ ?_ hab.1 hab.2;unfold fallD
     split
     ·rw [endV_neg (by omega),hm]
     ·rfl
   ·rw [inB_false.2 c2,spec_Dues.j2,if_pos (by decide),if_neg (fun q=>c2 (okP_true.1 q.1).2)]
  ·rw [inB_false.2 c1,if_neg (by decide),spec_Dues.j2,if_pos rfl,if_neg (fun q=>c1 (okP_true.1 q.1).1)]
end
theorem take_par {l:List S43} {i:Nat} (h:i < l.length):(l.take i).map (·.f0)++[(rd_T43 l (i:Int)).f0]=(l.take (i+1)).map (·.f0):=by
 rw [List.take_add_one,List.getElem?_eq_getElem h,List.map_append];unfold rd_T43;rw [List.getD_eq_getElem?_getD,Int.toNat_natCast,List.getElem?_eq_getElem h];rfl
theorem par_mem {l:List S43} {i:Nat} (h:i < l.length):rd_T43 l (i:Int)∈l:=by
 unfold rd_T43;rw [List.getD_eq_getElem?_getD,Int.toNat_natCast,List.getElem?_eq_getElem h];exact List.getElem_mem h
theorem share_le (amt:Int) (l:List S43):(sharesR amt (l.map (·.f0))).length≤l.length:=by
 have:=sharesR_len amt (l.map (·.f0));rw [List.length_map] at this;omega
theorem Dues_l0 (l:List S43) (off:Int) (hs:List Int) (day amt:Int) (hl:l.length≤24) (n:Nat):∀ (k i:Nat),i+n=l.length→n+150000 < k →
 spec_Dues.l0 k l day amt [] ((l.take i).map (·.f0)) i off hs=some (dueGo l off hs day (sharesR amt (l.map (·.f0))) (sharesR amt (l.map (·.f0))).length 0 []):=by
 induction n with
 | zero =>
  intro k i hi hk;obtain ⟨k,rfl⟩:∃ j,k=j+1:=⟨k - 1,by omega⟩;rw [spec_Dues.l0,if_neg (by omega),List.take_of_length_le (by omega),spec_Shares_is _ _ _ (by omega),Option.bind_some];have:=share_le amt l;exact Dues_l1 l off hs day _ hl this _ k 0 [] (by omega) rfl (by omega)
 | succ n ih =>
  intro k i hi hk;obtain ⟨k,rfl⟩:∃ j,k=j+1:=⟨k - 1,by omega⟩;rw [spec_Dues.l0,if_pos (by omega),if_pos (by omega),if_pos (by rw [List.length_map,List.length_take];omega),take_par (by omega),w64 (x:=(i:Int)+1) (by omega)];have:=ih k (i+1) (by omega) (by omega);rw [show ((i+1:Nat):Int)=(i:Int)+1 by omega] at this;exact this
theorem spec_Dues_is (l:List S43) (off:Int) (hs:List Int) (day amt:Int) (k:Nat) (hk:200000≤k):spec_Dues.f k l off hs day amt=some (dueR l off hs day amt):=by
 unfold spec_Dues.f dueR;rw [Option.bind_some];by_cases c:l.length > 24
 ·rw [if_pos (by omega),if_pos c]
 ·rw [if_neg (by omega),if_neg c];exact Dues_l0 l off hs day amt (by omega) l.length k 0 (by omega) (by omega)
theorem dueGo_bad (l:List S43) (off:Int) (hs:List Int) (day:Int) (sh:List Int) (n:Nat):∀ (i:Nat) (acc:List S50),(∃ j,i≤j∧j < i+n∧okP (rd_T43 l (j:Nat))=false)→dueGo l off hs day sh n i acc=[]:=by
 induction n with
 | zero=>intro i acc h;obtain ⟨j,h1,h2,_⟩:=h;omega
 | succ n ih =>
  intro i acc h;obtain ⟨j,h1,h2,h3⟩:=h;rw [dueGo];by_cases e:j=i
  ·subst e;rw [if_neg (fun q=>by rw [h3] at q;cases q.1)]
  ·split
   ·exact ih (i+1) _ ⟨j,by omega,by omega,h3⟩
   ·rfl
section
variable (l:List S43) (off:Int) (hs:List Int) (day:Int) (sh:List Int)
theorem iDues_l1 (hl:l.length≤24) (hsl:sh.length≤l.length) (hok:∀ p∈l,okP p=true) (n:Nat):∀ (k i:Nat) (acc:List S50),i+n=sh.length→acc.length=i→n * 2+10 < k→impl_Dues.l1 k l day acc sh sh.length i off hs=some (dueGo l off hs day sh n i acc):=by
 induction n with
 | zero =>
  intro k i acc hi ha hk;obtain ⟨k,rfl⟩:∃ j,k=j+1:=⟨k - 1,by omega⟩;rw [impl_Dues.l1,if_neg (by omega)];rfl
 | succ n ih =>
  intro k i acc hi ha hk;obtain ⟨k,rfl⟩:∃ j,k=j+1+1:=⟨k - 2,by omega⟩;rw [impl_Dues.l1,if_pos (by omega),if_pos (by omega),if_pos (by omega),if_pos (by omega)];unfold impl_AddMonths.f;rw [Option.bind_some];have hpo:=hok _ (par_mem (l:=l) (i:=i) (by omega));generalize hp:rd_T43 l (i:Int)=p at hpo ⊢;have hgo:dueGo l off hs day sh (n+1) i acc=if okP p=true∧0≤dayD off hs day p then dueGo l off hs day sh n (i+1) (acc++[⟨dayD off hs day p,rd sh i⟩]) else []:=by rw [dueGo,hp]
  rw [hgo];obtain ⟨c1,c2⟩:=okP_true.1 hpo;have hab:=addM_b day p.f1;have heb:=endV_b (addM day p.f1)
  have key:∀ y:Int,y=fallD day p→-1≤y→y≤40000→impl_Dues.j3 (k+1) l day acc i (rd sh i) y sh sh.length i off hs=some (if okP p=true∧0≤dayD off hs day p then dueGo l off hs day sh n (i+1) (acc++[⟨dayD off hs day p,rd sh i⟩]) else []):=by
   intro y hy hy1 hy2;rw [impl_Dues.j3];by_cases c3:y < 0
   ·have hd:dayD off hs day p = -1:=by unfold dayD;rw [← hy,if_pos c3]
    rw [if_pos c3,if_neg (fun q=>by omega)]
   ·have hd:dayD off hs day p=addV off hs (y+p.f3):=by unfold dayD;rw [← hy,if_neg c3]
    rw [if_neg c3,if_pos (by omega),if_pos (by omega),hp,w64 (x:=y+p.f3) (by omega)];unfold impl_AddWork.f;rw [Option.bind_some,← hd];by_cases c4:dayD off hs day p < 0
    ·rw [if_pos c4,if_neg (fun q=>by omega)]
    ·rw [if_neg c4,if_pos (by omega),if_pos ⟨hpo,by omega⟩,w64 (x:=(i:Int)+1) (by omega)];have:=ih k (i+1) (acc++[⟨dayD off hs day p,rd sh i⟩]) (by omega) (by rw [List.length_append];simp;omega) (by omega);rw [show ((i+1:Nat):Int)=(i:Int)+1 by omega] at this;exact this
  by_cases c6:p.f2=true
  ·rw [if_pos c6];unfold impl_MonthEnd.f;rw [Option.bind_some];exact key _ (by unfold fallD;rw [if_pos c6]) heb.1 heb.2
  ·rw [if_neg c6];exact key _ (by unfold fallD;rw [if_neg c6]) hab.1 hab.2
end
def wOk (p:S43):Prop:=(0≤p.f0∧p.f0≤10000000)∧okP p=true
theorem iDues_l0 (l:List S43) (off:Int) (hs:List Int) (day amt:Int) (hl:l.length≤24) (n:Nat):∀ (k i:Nat),i+n=l.length→n+1000 < k→(∀ j:Nat,j < i→wOk (rd_T43 l (j:Int))) →
 impl_Dues.l0 k l day amt ((l.take i).map (·.f0)) l l.length i off hs=some (dueGo l off hs day (sharesR amt (l.map (·.f0))) (sharesR amt (l.map (·.f0))).length 0 []):=by
 induction n with
 | zero =>
  intro k i hi hk hu;obtain ⟨k,rfl⟩:∃ j,k=j+1:=⟨k - 1,by omega⟩;rw [impl_Dues.l0,if_neg (by omega),List.take_of_length_le (by omega)];unfold impl_Shares.f;rw [Option.bind_some];have:=share_le amt l;refine iDues_l1 l off hs day _ hl this (fun p hp=>?_) _ k 0 [] (by omega) rfl (by omega);obtain ⟨j,hj,e⟩:=List.getElem_of_mem hp;have:=(hu j (by omega)).2;unfold rd_T43 at this;rw [List.getD_eq_getElem?_getD,Int.toNat_natCast,List.getElem?_eq_getElem hj] at this;rw [← e];exact this
 | succ n ih =>
  intro k i hi hk hu;obtain ⟨k,rfl⟩:∃ j,k=j+1:=⟨k - 1,by omega⟩;rw [impl_Dues.l0,if_pos (by omega),if_pos (by omega),if_pos (by omega)];unfold impl_factor.f impl_between.f;simp only [Option.bind_some]
  have hbad:(okP (rd_T43 l (i:Int))=false∨¬ (0≤(rd_T43 l (i:Int)).f0∧(rd_T43 l (i:Int)).f0≤10000000))→dueGo l off hs day (sharesR amt (l.map (·.f0))) (sharesR amt (l.map (·.f0))).length 0 []=[]:=by
   intro q;rcases q with q | q
   ·rcases sharesR_len amt (l.map (·.f0)) with e | e
    ·rw [e];rfl
    ·rw [e,List.length_map];exact dueGo_bad l off hs day _ _ 0 [] ⟨i,by omega,by omega,q⟩
   ·have e:sharesR amt (l.map (·.f0))=[]:=by
     unfold sharesR;rw [if_neg (fun h=>q (h.2.2.1 _ (List.mem_map.2 ⟨_,par_mem (l:=l) (i:=i) (by omega),rfl⟩)))]
    rw [e];rfl
  by_cases c0:0≤(rd_T43 l (i:Int)).f0∧(rd_T43 l (i:Int)).f0≤10000000
  ·rw [inB_of c0,if_pos rfl];by_cases c1:0≤(rd_T43 l (i:Int)).f1∧(rd_T43 l (i:Int)).f1≤120
   ·rw [inB_of c1,if_pos rfl];by_cases c2:0≤(rd_T43 l (i:Int)).f3∧(rd_T43 l (i:Int)).f3≤1000
    ·rw [inB_of c2,if_pos rfl,if_pos (by rw [List.length_map,List.length_take];omega),take_par (by omega),w64 (x:=(i:Int)+1) (by omega)]
     have:=ih k (i+1) (by omega) (by omega) (fun j hj=>by
      by_cases e:j=i
      ·subst e;exact ⟨c0,okP_true.2 ⟨c1,c2⟩⟩
      ·exact hu j (by omega))
     rw [show ((i+1:Nat):Int)=(i:Int)+1 by omega] at this;exact this
    ·rw [inB_false.2 c2,if_neg (by decide),hbad (.inl (by unfold okP;rw [inB_of c1,inB_false.2 c2];rfl))]
   ·rw [inB_false.2 c1,if_neg (by decide),hbad (.inl (by unfold okP;rw [inB_false.2 c1];rfl))]
  ·rw [inB_false.2 c0,if_neg (by decide),hbad (.inr c0)]
theorem impl_Dues_is (l:List S43) (off:Int) (hs:List Int) (day amt:Int) (k:Nat) (hk:2000≤k):impl_Dues.f k l off hs day amt=some (dueR l off hs day amt):=by
 obtain ⟨k,rfl⟩:∃ j,k=j+1:=⟨k - 1,by omega⟩;unfold impl_Dues.f dueR;by_cases c0:l.length < 1
 ·obtain rfl:l=[]:=List.length_eq_zero_iff.1 (by omega);rw [if_pos (by simp),impl_Dues.j0,if_pos rfl,if_neg (by simp)]
  have e:(sharesR amt (List.map (fun x:S43=>x.f0) [])).length=0:=by
   have:=sharesR_len amt (List.map (fun x:S43=>x.f0) [])
   simpa using this
  rw [e];rfl
 ·rw [if_neg (by omega),impl_Dues.j0];by_cases c:l.length > 24
  ·rw [decide_eq_true (by omega:(l.length:Int) > 24),if_pos rfl,if_pos c]
  ·rw [decide_eq_false (by omega:¬ (l.length:Int) > 24),if_neg (by decide),if_neg c];exact iDues_l0 l off hs day amt (by omega) l.length k 0 (by omega) (by omega) (fun j hj=>by omega)
end Go.Proofs.YtcblmhpebijmaaaDoor.Q
