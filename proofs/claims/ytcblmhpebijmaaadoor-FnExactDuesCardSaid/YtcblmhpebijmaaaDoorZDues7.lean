/- Parts of the proof: what functions of the program and of the reference answer.
   No condition. -/
import Derived.Test.YtcblmhpebijmaaaDoorZDues1
import Derived.Test.YtcblmhpebijmaaaDoorZDues5
import Derived.BigQuiet
import Derived.BigRegion
namespace Go.Proofs.YtcblmhpebijmaaaDoor.Q
open Go.RowKit Go.Proofs.YtcblmhpebijmaaaDoorW.PrintWords Go.Proofs.YtcblmhpebijmaaaDoorW.PrintLast Go.Proofs.YtcblmhpebijmaaaDoorW.PrintMore
attribute [local go_sem] max2_int min2_int max_two min_two max_three min_three max_four min_four
set_option linter.unusedVariables false
set_option linter.unusedSimpArgs false
structure S67 where
 f0:Int
 f1:Int
def z67:S67:=⟨(0:Int),(0:Int)⟩
def k67:Kd S67:=Kd.iso (Kd.pair (Kd.int .i64) (Kd.int .i64)) (fun x:S67=>(x.f0,x.f1))
theorem k67_open {w:World} {x:S67} {cs:List Value} (h:k67.K w x cs):cs=[.int .i64 x.f0,.int .i64 x.f1]:=by
 obtain ⟨_,_,rfl,rfl,rfl⟩:=h;exact rfl
theorem k67_openM {w:World} {base:Nat} {ok:Nat→Prop} {x:S67} {cs:List Value} (h:k67.M w base ok x cs):cs=[.int .i64 x.f0,.int .i64 x.f1]:=by
 obtain ⟨_,_,rfl,rfl,rfl⟩:=h;exact rfl
theorem k67_mkM (w:World) (base:Nat) (ok:Nat→Prop) (x:S67) :k67.M w base ok x [.int .i64 x.f0,.int .i64 x.f1]:=⟨[.int .i64 x.f0],[.int .i64 x.f1],rfl,rfl,rfl⟩
def rd_T67 (xs:List S67) (i:Int):S67:=xs.getD i.toNat z67
abbrev Cut:=S67
def mergeC:List Cut→List Cut→List Cut
 | [],r=>r
 | a :: l,[]=>a :: l
 | a :: l,b :: r=>if b.f1 > a.f1 then b :: mergeC (a :: l) r else a :: mergeC l (b :: r)
def msortC:Nat→List Cut→List Cut
 | 0,l=>l
 | n+1,l=>if l.length < 2 then l else mergeC (msortC n (l.take (l.length / 2))) (msortC n (l.drop (l.length / 2)))
def bef (a b:Cut):Prop:=b.f1 < a.f1∨(a.f1=b.f1∧a.f0 < b.f0)
theorem mergeC_nil (l:List Cut):mergeC l []=l:=by cases l <;> simp [mergeC]
theorem mergeC_perm:∀ l r:List Cut,(mergeC l r).Perm (l++r)
 | [],r=>by simp [mergeC]
 | a :: l,[]=>by simp [mergeC]
 | a :: l,b :: r=>by
  unfold mergeC
  split
  ·exact ((mergeC_perm (a :: l) r).cons b).trans (List.perm_middle.symm)
  ·exact (mergeC_perm l (b :: r)).cons a
 termination_by l r=>l.length+r.length
theorem mergeC_sorted:∀ l r:List Cut,l.Pairwise bef→r.Pairwise bef→(∀ a∈l,∀ b∈r,a.f0 < b.f0)→(mergeC l r).Pairwise bef
 | [],r,_,h,_=>by simpa [mergeC] using h
 | a :: l,[],h,_,_=>by simpa [mergeC] using h
 | a :: l,b :: r,h1,h2,h3=>by
  have g1:=List.pairwise_cons.1 h1;have g2:=List.pairwise_cons.1 h2;unfold mergeC
  split
  ·rename_i hlt
   refine List.pairwise_cons.2 ⟨fun x hx=>?_,mergeC_sorted (a :: l) r h1 g2.2 (fun x hx y hy=>h3 x hx y (List.mem_cons_of_mem _ hy))⟩;rcases List.mem_append.1 ((mergeC_perm (a :: l) r).mem_iff.1 hx) with hx | hx
   ·rcases List.mem_cons.1 hx with rfl | hx
    ·exact .inl hlt
    ·have:=g1.1 x hx;unfold bef at this ⊢;omega
   ·exact g2.1 x hx
  ·rename_i hlt
   refine List.pairwise_cons.2 ⟨fun x hx=>?_,mergeC_sorted l (b :: r) g1.2 h2 (fun x hx y hy=>h3 x (List.mem_cons_of_mem _ hx) y hy)⟩;rcases List.mem_append.1 ((mergeC_perm l (b :: r)).mem_iff.1 hx) with hx | hx
   ·exact g1.1 x hx
   ·have h4:=h3 a List.mem_cons_self x hx;rcases List.mem_cons.1 hx with rfl | hx
    ·unfold bef;omega
    ·have:=g2.1 x hx;unfold bef at this ⊢;omega
 termination_by l r=>l.length+r.length
theorem msortC_perm:∀ (n:Nat) (l:List Cut),(msortC n l).Perm l
 | 0,l=>List.Perm.refl _
 | n+1,l=>by
  unfold msortC
  split
  ·exact List.Perm.refl _
  ·refine (mergeC_perm _ _).trans (((msortC_perm n _).append (msortC_perm n _)).trans ?_);rw [List.take_append_drop]
theorem msortC_sorted:∀ (n:Nat) (l:List Cut),l.length≤n+1→l.Pairwise (fun a b=>a.f0 < b.f0)→(msortC n l).Pairwise bef
 | 0,l,h,_=>by
  match l,h with
  | [],_=>exact List.Pairwise.nil
  | [a],_=>exact List.pairwise_singleton _ _
 | n+1,l,h,hs=>by
  unfold msortC
  split
  ·rename_i h2
   match l,h2 with
   | [],_=>exact List.Pairwise.nil
   | [a],_=>exact List.pairwise_singleton _ _
  ·have hsplit:=hs;rw [← List.take_append_drop (l.length / 2) l] at hsplit;obtain ⟨p1,p2,p3⟩:=List.pairwise_append.1 hsplit;refine mergeC_sorted _ _ (msortC_sorted n _ ?_ p1) (msortC_sorted n _ ?_ p2) (fun a ha b hb=>p3 a ((msortC_perm n _).mem_iff.1 ha) b ((msortC_perm n _).mem_iff.1 hb))
   ·rw [List.length_take];omega
   ·rw [List.length_drop];omega
def firstMax (xs:List Int) (b:Int):Prop:=0≤b∧b < (xs.length:Int)∧∀ i:Int,0≤i→i < (xs.length:Int)→rd xs i≤rd xs b∧(i < b→rd xs i < rd xs b)
theorem firstMax_one {xs:List Int} {a b:Int} (ha:firstMax xs a) (hb:firstMax xs b):a=b:=by
 obtain ⟨a0,a1,a2⟩:=ha;obtain ⟨b0,b1,b2⟩:=hb;have h1:=a2 b b0 b1;have h2:=b2 a a0 a1;by_cases h:a < b
 ·have:=h2.2 h;omega
 ·by_cases h':b < a
  ·have:=h1.2 h';omega
  ·omega
def picks:List Int→List Cut→Prop
 | _,[]=>True
 | xs,c :: cs=>firstMax xs c.f0∧picks (xs.set c.f0.toNat (-1)) cs
def giveC (one:Int):List Int→List Cut→List Int
 | out,[]=>out
 | out,c :: cs=>giveC one (out.set c.f0.toNat (wrap64 (rd out c.f0+one))) cs
theorem giveC_len (one:Int):∀ (cs:List Cut) (out:List Int),(giveC one out cs).length=out.length
 | [],out=>rfl
 | c :: cs,out=>by unfold giveC;rw [giveC_len one cs,List.length_set]
theorem rd_set {xs:List Int} {i j:Int} {v:Int} (hi:0≤i) (hj:0≤j) (h:j < (xs.length:Int)):rd (xs.set i.toNat v) j=if i=j then v else rd xs j:=by
 unfold rd;rw [List.getD_eq_getElem?_getD,List.getD_eq_getElem?_getD,List.getElem?_set];by_cases e:i=j
 ·subst e;rw [if_pos rfl,if_pos rfl,if_pos (by omega)];rfl
 ·rw [if_neg (by omega),if_neg e]
theorem picks_of:∀ (cs:List Cut) (xs:List Int) (m:Nat),cs.Pairwise bef→(cs.map (·.f0)).Nodup→(∀ c∈cs,0≤c.f0∧c.f0 < (xs.length:Int)∧rd xs c.f0=c.f1∧0≤c.f1)→(∀ i:Int,0≤i→i < (xs.length:Int)→(∃ c∈cs,c.f0=i)∨rd xs i = -1)→picks xs (cs.take m)
 | [],xs,m,_,_,_,_=>by simp [picks]
 | c :: cs,xs,0,_,_,_,_=>by simp [picks]
 | c :: cs,xs,m+1,h1,h2,h3,h4=>by
  have g1:=List.pairwise_cons.1 h1;rw [List.map_cons,List.nodup_cons] at h2;obtain ⟨c0,c1,c2,c3⟩:=h3 c List.mem_cons_self;have hne:∀ e∈cs,e.f0≠c.f0:=fun e he q=>h2.1 (q ▸ List.mem_map.2 ⟨e,he,rfl⟩)
  rw [List.take_succ_cons];unfold picks;refine ⟨⟨c0,c1,fun i i0 i1=>?_⟩,picks_of cs _ m g1.2 h2.2 (fun e he=>?_) (fun i i0 i1=>?_)⟩
  ·rw [c2];rcases h4 i i0 i1 with ⟨e,he,rfl⟩ | h5
   ·rcases List.mem_cons.1 he with rfl | he
    ·rw [c2];exact ⟨Int.le_refl _,fun q=>absurd q (by omega)⟩
    ·rw [(h3 e (List.mem_cons_of_mem _ he)).2.2.1];have:=g1.1 e he;unfold bef at this;omega
   ·rw [h5];omega
  ·obtain ⟨e0,e1,e2,e3⟩:=h3 e (List.mem_cons_of_mem _ he);refine ⟨e0,by rw [List.length_set];exact e1,?_,e3⟩;rw [rd_set c0 e0 e1,if_neg (fun q=>hne e he q.symm),e2]
  ·rw [List.length_set] at i1;rw [rd_set c0 i0 i1];by_cases q:c.f0=i
   ·exact .inr (by rw [if_pos q])
   ·rw [if_neg q];rcases h4 i i0 i1 with ⟨e,he,rfl⟩ | h5
    ·rcases List.mem_cons.1 he with rfl | he
     ·exact absurd rfl q
     ·exact .inl ⟨e,he,rfl⟩
    ·exact .inr h5
def absI (x:Int):Int:=if x < 0 then -x else x
def quoS (t all:Int) (ws:List Int):List Int:=ws.map (fun x=>Int.tdiv (t * x) all)
def rstS (t all:Int) (ws:List Int):List Int:=ws.map (fun x=>absI (Int.tmod (t * x) all))
def sumS:List Int→Int
 | []=>0
 | x :: l=>x+sumS l
theorem sumS_app (l m:List Int):sumS (l++m)=sumS l+sumS m:=by
 induction l with
 | nil=>simp [sumS]
 | cons x l ih=>simp only [List.cons_append,sumS,ih];omega
theorem sh_split (t all:Int) (ws:List Int):all * sumS (quoS t all ws)+sumS (ws.map (fun x=>Int.tmod (t * x) all))=t * sumS ws:=by
 induction ws with
 | nil=>simp [quoS,sumS]
 | cons x l ih =>
  have h:=Int.mul_tdiv_add_tmod (t * x) all;simp only [quoS,List.map_cons,sumS,Int.mul_add] at ih ⊢;omega
theorem absI_lt {x b:Int} (hb:0 < b):0≤absI (Int.tmod x b)∧absI (Int.tmod x b) < b:=by
 have h1:=Int.tmod_lt_of_pos x hb
 have h2:-b < Int.tmod x b:=by
  have:=Int.tmod_lt_of_pos (-x) hb;rw [Int.neg_tmod] at this;omega
 unfold absI
 split <;> omega
theorem rst_pos {t all:Int} (ht:0≤t) (ws:List Int) (hw:∀ x∈ws,0≤x):sumS (ws.map (fun x=>Int.tmod (t * x) all))=sumS (rstS t all ws):=by
 induction ws with
 | nil=>rfl
 | cons x l ih =>
  have h:=Int.tmod_nonneg (a:=t * x) all (Int.mul_nonneg ht (hw x List.mem_cons_self));simp only [rstS,List.map_cons,sumS] at ih ⊢;rw [ih (fun y hy=>hw y (List.mem_cons_of_mem _ hy))];unfold absI;rw [if_neg (by omega)]
theorem rst_neg {t all:Int} (ht:t≤0) (ws:List Int) (hw:∀ x∈ws,0≤x):sumS (ws.map (fun x=>Int.tmod (t * x) all)) = - sumS (rstS t all ws):=by
 induction ws with
 | nil=>rfl
 | cons x l ih =>
  have h:=Int.tmod_nonneg (a:=(-t) * x) all (Int.mul_nonneg (by omega) (hw x List.mem_cons_self));rw [Int.neg_mul,Int.neg_tmod] at h;simp only [rstS,List.map_cons,sumS] at ih ⊢;rw [ih (fun y hy=>hw y (List.mem_cons_of_mem _ hy))];unfold absI
  split <;> omega
theorem rst_sum {t all:Int} (ha:0 < all) (ws:List Int):0≤sumS (rstS t all ws)∧sumS (rstS t all ws)≤(all - 1) * (ws.length:Int):=by
 induction ws with
 | nil=>simp [rstS,sumS]
 | cons x l ih =>
  have h:=absI_lt (x:=t * x) ha;simp only [rstS,List.map_cons,sumS,List.length_cons] at ih ⊢
  push_cast
  rw [Int.mul_add,Int.mul_one];omega
theorem left_few {t:Int} {ws:List Int} (hw:∀ x∈ws,0≤x) (ha:0 < sumS ws) :
 (0≤t→0≤t - sumS (quoS t (sumS ws) ws))∧(t≤0→t - sumS (quoS t (sumS ws) ws)≤0)∧(t - sumS (quoS t (sumS ws) ws)).natAbs < ws.length:=by
 have h0:=sh_split t (sumS ws) ws;have h1:=rst_sum (t:=t) ha ws
 have hlen:0 < ws.length:=by
  match ws,ha with
  | [],ha=>simp [sumS] at ha
  | x :: l,_=>simp
 generalize hq:sumS (quoS t (sumS ws) ws)=q at *;generalize hr:sumS (rstS t (sumS ws) ws)=r at *
 have hpos:0≤t→sumS ws * (t - q)=r:=fun ht=>by
  rw [rst_pos ht ws hw,hr] at h0;rw [Int.mul_sub,Int.mul_comm (sumS ws) t];omega
 have hneg:t≤0→sumS ws * (q - t)=r:=fun ht=>by
  rw [rst_neg ht ws hw,hr] at h0;rw [Int.mul_sub,Int.mul_comm (sumS ws) t];omega
 have hup:∀ z:Int,sumS ws * z=r→0≤z∧z < (ws.length:Int):=fun z hz=>by
  constructor
  ·by_cases q:0≤z
   ·exact q
   ·exfalso
    have:sumS ws * z < 0:=Int.mul_neg_of_pos_of_neg ha (by omega);omega
  ·by_cases q:z < (ws.length:Int)
   ·exact q
   ·exfalso
    have h2:sumS ws * (ws.length:Int)≤sumS ws * z:=Int.mul_le_mul_of_nonneg_left (by omega) (by omega);have h3:(sumS ws - 1) * (ws.length:Int)=sumS ws * (ws.length:Int) - (ws.length:Int):=by rw [Int.sub_mul,Int.one_mul]
    omega
 refine ⟨fun ht=>(hup _ (hpos ht)).1,fun ht=>by have:=(hup _ (hneg ht)).1;omega,?_⟩;by_cases ht:0≤t
 ·have:=hup _ (hpos ht);omega
 ·have:=hup _ (hneg (by omega));omega
def cutsOf (rs:List Int):List Cut:=(List.range rs.length).map (fun i:Nat=>⟨(i:Int),rd rs (i:Int)⟩)
def oneS (x:Int):Int:=if x < 0 then -1 else 1
noncomputable def sharesR (t:Int) (ws:List Int):List Int:=open Classical in
 if (-100000000000≤t∧t≤100000000000)∧ws.length≤200∧(∀ x∈ws,0≤x∧x≤10000000)∧sumS ws≠0 then
  giveC (oneS (t - sumS (quoS t (sumS ws) ws))) (quoS t (sumS ws) ws) ((msortC ws.length (cutsOf (rstS t (sumS ws) ws))).take (t - sumS (quoS t (sumS ws) ws)).natAbs)
 else []
theorem sumS_b {ws:List Int} (h:∀ x∈ws,0≤x∧x≤10000000):0≤sumS ws∧sumS ws≤10000000 * (ws.length:Int):=by
 induction ws with
 | nil=>simp [sumS]
 | cons x l ih =>
  have h1:=h x List.mem_cons_self;have h2:=ih (fun y hy=>h y (List.mem_cons_of_mem _ hy));simp only [sumS,List.length_cons]
  push_cast
  omega
theorem picks_rst {t:Int} {ws:List Int} (m:Nat) (ha:0 < sumS ws):picks (rstS t (sumS ws) ws) ((msortC ws.length (cutsOf (rstS t (sumS ws) ws))).take m):=by
 have hlen:(rstS t (sumS ws) ws).length=ws.length:=by unfold rstS;rw [List.length_map]
 generalize hrs:rstS t (sumS ws) ws=rs at *
 have hnn:∀ i:Int,0≤i→i < (rs.length:Int)→0≤rd rs i:=fun i i0 i1=>by
  have hi:i.toNat < ws.length:=by omega
  unfold rd;rw [List.getD_eq_getElem?_getD,List.getElem?_eq_getElem (by omega)];simp only [Option.getD_some];subst hrs;unfold rstS;rw [List.getElem_map];exact (absI_lt ha).1
 have hp:=msortC_perm ws.length (cutsOf rs);have hcl:(cutsOf rs).length=ws.length:=by unfold cutsOf;rw [List.length_map,List.length_range,hlen]
 have hmem:∀ c∈cutsOf rs,0≤c.f0∧c.f0 < (rs.length:Int)∧rd rs c.f0=c.f1:=fun c hc=>by
  unfold cutsOf at hc;obtain ⟨i,hi,rfl⟩:=List.mem_map.1 hc;have:=List.mem_range.1 hi;exact ⟨by show (0:Int)≤(i:Int);omega,by show (i:Int) < _;omega,rfl⟩
 refine picks_of _ rs m (msortC_sorted _ _ (by omega) ?_) ?_ (fun c hc=>?_) (fun i i0 i1=>?_)
 ·unfold cutsOf;rw [List.pairwise_map];refine List.pairwise_lt_range.imp ?_;intro a b hab;show (a:Int) < (b:Int);omega
 ·refine (hp.map (·.f0)).nodup_iff.2 ?_;unfold cutsOf;rw [List.map_map];refine List.pairwise_map.2 (List.nodup_range.imp ?_);intro a b hab q;have:(a:Int)=(b:Int):=q;omega
 ·have h:=hmem c (hp.mem_iff.1 hc);exact ⟨h.1,h.2.1,h.2.2,by rw [← h.2.2];exact hnn _ h.1 h.2.1⟩
 ·left
  refine ⟨⟨i,rd rs i⟩,hp.mem_iff.2 ?_,rfl⟩;unfold cutsOf;exact List.mem_map.2 ⟨i.toNat,List.mem_range.2 (by omega),by rw [show ((i.toNat:Nat):Int)=i by omega]⟩
def factP (x:Int):Prop:=0≤x∧x≤10000000
theorem mulB {t x:Int} (ht:-100000000000≤t∧t≤100000000000) (hx:factP x):-1000000000000000000≤t * x∧t * x≤1000000000000000000:=by
 have h1:t * x≤100000000000 * x:=Int.mul_le_mul_of_nonneg_right ht.2 hx.1;have h2:-100000000000 * x≤t * x:=Int.mul_le_mul_of_nonneg_right ht.1 hx.1;have h3:=hx.1;have h4:=hx.2;omega
theorem tdivB {a b:Int}:(Int.tdiv a b).natAbs≤a.natAbs:=by
 rw [Int.natAbs_tdiv];exact Nat.div_le_self _ _
theorem tmodB {a b:Int}:(Int.tmod a b).natAbs≤a.natAbs:=by
 rw [Int.natAbs_tmod];exact Nat.mod_le _ _
theorem wrap_sub (a b:Int):wrap64 (wrap64 a - b)=wrap64 (a - b):=by unfold wrap64;omega
theorem wrap_add (a b:Int):wrap64 (wrap64 a+b)=wrap64 (a+b):=by unfold wrap64;omega
theorem take_rd {l:List Int} {i:Int} (h0:0≤i) (h1:i < (l.length:Int)):l.take (i+1).toNat=l.take i.toNat++[rd l i]:=by
 rw [show (i+1).toNat=i.toNat+1 by omega,List.take_add_one,List.getElem?_eq_getElem (by omega)];unfold rd;rw [List.getD_eq_getElem?_getD,List.getElem?_eq_getElem (by omega)];rfl
theorem mem_rd {l:List Int} {i:Int} (h0:0≤i) (h1:i < (l.length:Int)):rd l i∈l:=mem_at (z:=(0:Int)) h0 h1
theorem info67:(Tryd.prog.info? 67).map (fun i=>(i.zero,i.size,i.bytes))=some (some (.agg #[(.int .i64 0),(.int .i64 0)]),2,16):=by kernel_rfl
theorem cut_less (a b:Cut) (w:World):Calls Tryd.prog 47 #[.agg #[.int .i64 a.f0,.int .i64 a.f1],.agg #[.int .i64 b.f0,.int .i64 b.f1]] w fun e w'=>e = .returned (.bool (decide (a.f1 > b.f1)))∧Below w.heap.size w w':=by
 go_enter Tryd.func47,Tryd.ntmps47
 go_wp2_with fail
 go_ret
 exact ⟨rfl,by repeat (first | exact Below.refl _ _ | apply y02 | apply below_drew | apply y00)⟩
theorem cut_rows_take {W:World} {A:Option Addr} {xs:List Cut} {m:Nat} (h:Kd.C k67 W A xs.length xs) (hm:m≤xs.length):ReadsRow (k67.K W) 2 W A m (xs.take m):=by
 have hl:(xs.take m).length=m:=by rw [List.length_take];omega
 have:=Kd.C_take h hm;rw [hl] at this;exact this
theorem cut_rows_drop {W:World} {A:Option Addr} {xs:List Cut} {m c:Nat} (h:Kd.C k67 W A xs.length xs) (hm:m≤xs.length) (hc:xs.length≤c):ReadsRow (k67.K W) 2 W (if c=m then A else A.map (·.add (m * 2))) (xs.length - m) (xs.drop m):=by
 have hl:(xs.drop m).length=xs.length - m:=List.length_drop;have:=Kd.C_drop h hm hc;rw [hl] at this;exact this
theorem cut_M {W W2:World} {b:Nat} {ok:Nat→Prop} {x:Cut} {cs:List Value} (h:k67.K W x cs):k67.M W2 b ok x cs:=by
 obtain rfl:=k67_open h;exact k67_mkM W2 b ok x
theorem cut_get {W:World} {base g n cap:Nat} {ok:Nat→Prop} {xs:List Cut} (h:Kd.R k67 67 W base ok (.slice (some ⟨g,0,none⟩) n cap) xs) (i:Int) (h0:0≤i) (h1:i < n) :
 W.cell? ⟨g,i.toNat * 2,none⟩=some (.int .i64 (rd_T67 xs i).f0)∧W.cell? ⟨g,i.toNat * 2+1,none⟩=some (.int .i64 (rd_T67 xs i).f1)∧W.frozen? ⟨g,i.toNat * 2,none⟩=false∧W.frozen? ⟨g,i.toNat * 2+1,none⟩=false:=by
 obtain ⟨c,hcl,hM,hcc,hfr⟩:=Kd.R_elem h z67 i h0 h1;obtain rfl:=k67_openM hM;exact ⟨hcc 0 _ rfl,hcc 1 _ rfl,hfr 0,hfr 1⟩
theorem cut_put {W:World} {base g n cap:Nat} {ok:Nat→Prop} {xs:List Cut} (h:Kd.R k67 67 W base ok (.slice (some ⟨g,0,none⟩) n cap) xs) (i:Int) (h0:0≤i) (h1:i < n) (x:Cut) :
 Kd.R k67 67 ((W.setCell ⟨g,i.toNat * 2,none⟩ (.int .i64 x.f0)).setCell ⟨g,i.toNat * 2+1,none⟩ (.int .i64 x.f1)) base ok (.slice (some ⟨g,0,none⟩) n cap) (xs.set i.toNat x):=by
 obtain ⟨c,hcl,hM,hcc,_⟩:=Kd.R_elem h z67 i h0 h1
 have:=(Kd.R_seg h i h0 h1 (c:=c) (seg:=[.int .i64 x.f0,.int .i64 x.f1]) (j:=0) (x':=x) (okp:=fun _=>False) hcl hcc (Nat.le_refl _) (by
  have hl:c.length=2:=hcl
  match c,hl with
  | [u,v],_=>exact k67_mkM _ _ _ x) (fun _ hk=>hk.elim)).1
 exact this
theorem grow_kept {w W:World} {g:Nat} (h:w.grownBy W (some g)):Kept w W (fun k=>k=g):=⟨h.size,fun i hi hn=>h.block i hi (fun e=>hn (by injection e))⟩
theorem grow_then {w W W2:World} {g g':Nat} (h:w.grownBy W (some g)) (k:W.grownBy W2 (some g')) (hg:w.heap.size≤g'):w.grownBy W2 (some g) :=
 ⟨k.os.trans h.os,k.tape.trans h.tape,k.output.trans h.output,Nat.le_trans h.size k.size,fun i hi hn=>(k.block i (Nat.lt_of_lt_of_le hi h.size) (fun e=>by injection e with e;omega)).trans (h.block i hi hn)⟩
theorem grow_below {w W W2:World} {g:Nat} (h:w.grownBy W (some g)) (k:Below W.heap.size W W2):w.grownBy W2 (some g) :=
 ⟨k.os.trans h.os,k.tape.trans h.tape,k.output.trans h.output,Nat.le_trans h.size k.size,fun i hi hn=>(k.block i (Nat.lt_of_lt_of_le hi h.size)).trans (h.block i hi hn)⟩
theorem grow_set {w W:World} {g:Nat} (h:w.grownBy W (some g)) (j:Nat) (u:Value):w.grownBy (W.setCell ⟨g,j,none⟩ u) (some g) :=
 ⟨h.os,h.tape,h.output,by simpa [World.setCell] using h.size,fun i hi hn=>(Below.heap_setCell W ⟨g,j,none⟩ u i (fun e=>hn (by rw [e]))).trans (h.block i hi hn)⟩
theorem grow_drewN {w W:World} {g:Nat} (h:w.grownBy W (some g)) (m:Nat):w.grownBy (W.drewN m) (some g):=⟨h.os,h.tape,h.output,h.size,h.block⟩
theorem grow_drew {w W:World} {g:Nat} (h:w.grownBy W (some g)):w.grownBy W.drew (some g):=⟨h.os,h.tape,h.output,h.size,h.block⟩
theorem set_take {ys:List Cut} {j:Int} (h0:0≤j) (h1:j < (ys.length:Int)) (x:Cut):(ys.set j.toNat x).take (j+1).toNat=ys.take j.toNat++[x]:=by
 rw [show (j+1).toNat=j.toNat+1 by omega,List.take_add_one,List.take_set,List.getElem?_set_self (by omega)];simp
 rw [List.set_eq_of_length_le (by rw [List.length_take];omega)]
theorem merge_left {lf rg:List Cut} {i k:Int} (i0:0≤i) (i1:i < (lf.length:Int)) (k0:0≤k) (h:k=(rg.length:Int)∨(k < (rg.length:Int)∧¬ (rd_T67 rg k).f1 > (rd_T67 lf i).f1)) :
 mergeC (lf.drop i.toNat) (rg.drop k.toNat)=rd_T67 lf i :: mergeC (lf.drop (i+1).toNat) (rg.drop k.toNat):=by
 rw [drop_at (l:=lf) (z:=z67) i0 i1];rcases h with h | ⟨h,q⟩
 ·rw [List.drop_of_length_le (l:=rg) (by omega),mergeC_nil,mergeC_nil];rfl
 ·rw [drop_at (l:=rg) (z:=z67) k0 h]
  conv=>lhs;unfold mergeC
  rw [if_neg (show ¬ (rg.getD k.toNat z67).f1 > (lf.getD i.toNat z67).f1 from q)];rfl
theorem merge_right {lf rg:List Cut} {i k:Int} (i0:0≤i) (k0:0≤k) (k1:k < (rg.length:Int)) (h:i=(lf.length:Int)∨(i < (lf.length:Int)∧(rd_T67 rg k).f1 > (rd_T67 lf i).f1)) :
 mergeC (lf.drop i.toNat) (rg.drop k.toNat)=rd_T67 rg k :: mergeC (lf.drop i.toNat) (rg.drop (k+1).toNat):=by
 rw [drop_at (l:=rg) (z:=z67) k0 k1];rcases h with h | ⟨h,q⟩
 ·rw [List.drop_of_length_le (l:=lf) (by omega)];simp only [mergeC];rfl
 ·rw [drop_at (l:=lf) (z:=z67) i0 h]
  conv=>lhs;unfold mergeC
  rw [if_pos (show (rg.getD k.toNat z67).f1 > (lf.getD i.toNat z67).f1 from q)];rfl
set_option maxHeartbeats 8000000 in
set_option maxRecDepth 100000 in
theorem sortBy.to:∀ (n:Nat) (g cap base m:Nat) (xs:List Cut) (w:World),Kd.R k67 67 w base (fun k=>k=g) (.slice (some ⟨g,0,none⟩) m cap) xs→xs.length=m→m≤n+1→m≤200 →
 Calls Tryd.prog 46 #[.slice (some ⟨g,0,none⟩) m cap,.func (.func 47) #[] #[]] w fun e w'=>e = .returned (.tuple #[])∧Kd.R k67 67 w' base (fun k=>k=g) (.slice (some ⟨g,0,none⟩) m cap) (msortC n xs)∧w.grownBy w' (some g):=by
 intro n
 induction n with
 | zero =>
  intro g cap base m xs w hr hm hn hl;have HR:=Aside0.mk hr;clear hr;have h2:decide ((m:Int) < 2)=true:=decide_eq_true (by omega)
  go_enter Tryd.func46,Tryd.ntmps46
  go_wp2_with fail
  ((try simp only [Exit.inBlock,Exit.then]);first | (refine bodyPost_ret (results_none rfl _ _ _) rfl ?_) | (refine bodyPost_end (results_none rfl _ _ _) rfl ?_))
  exact ⟨rfl,HR.out,World.grownBy.refl _ _⟩
 | succ n ih =>
  intro g cap base m xs w hr hm hn hl;have HR:=Aside0.mk hr;have IH:=Aside0.mk ih;clear hr ih
  go_enter Tryd.func46,Tryd.ntmps46
  by_cases h2:(m:Int) < 2
  ·have h2b:decide ((m:Int) < 2)=true:=decide_eq_true h2
   go_wp2_with fail
   ((try simp only [Exit.inBlock,Exit.then]);first | (refine bodyPost_ret (results_none rfl _ _ _) rfl ?_) | (refine bodyPost_end (results_none rfl _ _ _) rfl ?_))
   refine ⟨rfl,?_,World.grownBy.refl _ _⟩;rw [show msortC (n+1) xs=xs from by unfold msortC;rw [if_pos (by omega)]];exact HR.out
  have h2b:decide ((m:Int) < 2)=false:=decide_eq_false h2;have hcap:=(Kd.R_reads' HR.out).2.1;have hcl:=Aside0.mk (show Kd.C k67 w (some ⟨g,0,none⟩) xs.length xs from (Kd.R_reads' HR.out).2.2);have hglt:=Kd.R_lt HR.out g (by simp [Value.ownBlock])
  obtain ⟨i182,hi182,hs182⟩:∃ i,Tryd.prog.info? 67=some i∧i.size=2:=by
   obtain ⟨i,e1,e2⟩:=Option.map_eq_some_iff.1 info67;simp only [Prod.mk.injEq] at e2;exact ⟨i,e1,e2.2.1⟩
  have hct:=cut_to (P:=Tryd.prog) 65 67 .i64 Tryd.underlying65 hi182 (some ⟨g,0,none⟩) m cap ((m:Int) / 2) (by omega) (by omega) hcap;have hcf:=cut_from (P:=Tryd.prog) 65 67 .i64 Tryd.underlying65 hi182 2 hs182 (some ⟨g,0,none⟩) m cap ((m:Int) / 2) (by omega) (by omega);rw [show ((m:Int) / 2).toNat=m / 2 by omega] at hct hcf;have hrow:=Aside0.mk (fun W (h:Kd.C k67 W (some ⟨g,0,none⟩) xs.length xs)=>show ReadsRow (k67.K W) 2 W (if cap=m / 2 then some ⟨g,0,none⟩ else (some (⟨g,0,none⟩:Addr)).map (·.add (m / 2 * 2))) (m - m / 2) (xs.drop (m / 2)) from by have:=cut_rows_drop (m:=m / 2) (c:=cap) h (by omega) (by omega);rw [hm] at this;exact this);obtain ⟨A2,hA2⟩:∃ A,A=(if cap=m / 2 then some ⟨g,0,none⟩ else (some (⟨g,0,none⟩:Addr)).map (·.add (m / 2 * 2))):=⟨_,rfl⟩;rw [← hA2] at hcf hrow;clear hA2;have hll:(xs.take (m / 2)).length=m / 2:=by rw [List.length_take];omega
  have hlr:(xs.drop (m / 2)).length=m - m / 2:=by rw [List.length_drop,hm]
  go_wp2_with (first | ((with_reducible refine gate_dst (N:=16) rfl ?_);refine Kd.R_lit k67 (w).heap.size 67 ?hg (N:=16) ?hd (xs:=([]:List Cut)) (inner:=[]) (ok:=fun _=>True) (okp:=fun _=>True) ?hr ?hp (fun _ hk=>hk) trivial (Below.refl _ _) (Nat.le_refl _) (by simp) ?_;(case hd=>rfl);(case hg=>rfl);(case hr=>first | (go_simp;done) | (go_simp;rfl));(case hp=>exact Reps.none _ _);intro v16 w16 ho16 hb16 hg16 hnew16) | ((with_reducible refine gate_dst (N:=20) rfl ?_);refine Kd.R_append_rows k67 (w).heap.size ?hgd (.tmp 16) (.tmp 19) 65 67 (.agg #[.int .i64 0,.int .i64 0]) 16 ?ho Tryd.underlying65 info67 rfl (by decide) (by omega) v16 [] (xs.take (m / 2)) (some ⟨g,0,none⟩) (m / 2) (cap) (fun _=>True) (fun _=>False) ?hs ?hx ho16 (cut_rows_take (Kd.C_below hcl.out hb16) (by omega)) (fun _ _ h=>cut_M h) (fun _ hk=>hk.elim) (fun _ _=>trivial) hb16 ?hz (by simp;omega) ?_;(case hgd=>rfl);(case ho=>rfl);(case hs=>first | (go_simp;done) | rfl);(case hx=>first | (go_simp;done) | rfl);(case hz=>exact hb16.size);intro v20 w20 ho20 hb20 hg20 hat20) | ((with_reducible refine gate_dst (N:=21) rfl ?_);refine Kd.R_lit k67 (w20).heap.size 67 ?hg (N:=21) ?hd (xs:=([]:List Cut)) (inner:=[]) (ok:=fun _=>True) (okp:=fun _=>True) ?hr ?hp (fun _ hk=>hk) trivial (Below.refl _ _) (Nat.le_refl _) (by simp) ?_;(case hd=>rfl);(case hg=>rfl);(case hr=>first | (go_simp;done) | (go_simp;rfl));(case hp=>exact Reps.none _ _);intro v21 w21 ho21 hb21 hg21 hnew21) | ((with_reducible refine gate_dst (N:=25) rfl ?_);refine Kd.R_append_rows k67 (w20).heap.size ?hgd (.tmp 21) (.tmp 24) 65 67 (.agg #[.int .i64 0,.int .i64 0]) 16 ?ho Tryd.underlying65 info67 rfl (by decide) (by omega) v21 [] (xs.drop (m / 2)) (A2) (m - m / 2) (cap - m / 2) (fun _=>True) (fun _=>False) ?hs ?hx ho21 (hrow.out _ (Kd.C_below (Kd.C_below hcl.out hb20) hb21)) (fun _ _ h=>cut_M h) (fun _ hk=>hk.elim) (fun _ _=>trivial) hb21 ?hz (by simp;omega) ?_;(case hgd=>rfl);(case ho=>rfl);(case hs=>first | (go_simp;done) | rfl);(case hx=>first | (go_simp;done) | rfl);(case hz=>exact hb21.size);intro v25 w25 ho25 hb25 hg25 hat25))
  have hz25:Below w.heap.size w w25:=below_then hb20 hb20.size hb25;rw [List.nil_append] at ho20 ho25;obtain ⟨g1,p1,rfl,q1,q2,_⟩:=Kd.R_form ho20 (by omega);obtain ⟨g2,p2,rfl,q3,q4,_⟩:=Kd.R_form ho25 (by omega);rw [hll] at ho20;rw [hlr] at ho25;simp only [hll,hlr];have R1:=Aside0.mk (Kd.R_mono (Kd.R_tight rfl (Kd.R_below ho20 hb25)) (ok':=fun k=>k=g1) (fun k hk=>by simpa [Value.ownBlock] using hk));have R2:=Aside0.mk (Kd.R_mono (Kd.R_tight rfl ho25) (ok':=fun k=>k=g2) (fun k hk=>by simpa [Value.ownBlock] using hk));have R0:=Aside0.mk (Kd.R_below (Kd.R_below HR.out hb20) hb25);have HK:=Aside0.mk (grown_of_below hz25 (some g));clear ho16 hb16 hg16 hnew16 ho20 hb20 hg20 hat20 ho21 hb21 hg21 hnew21 ho25 hb25 hg25 hat25 hz25 HR hcl hrow hct hcf hi182 hs182;refine (IH.out g1 p1 _ (m / 2) (xs.take (m / 2)) w25 R1.out hll (by omega) (by omega)).mono ?_;rintro x w26 ⟨rfl,ho26,hk26⟩;replace R1:=Aside0.mk ho26;replace R2:=Aside0.mk (Kd.R_kept R2.out (grow_kept hk26) (fun k hk e=>by omega));replace R0:=Aside0.mk (Kd.R_kept R0.out (grow_kept hk26) (fun k hk e=>by omega));replace HK:=Aside0.mk (grow_then HK.out hk26 (by omega));clear ho26 hk26
  go_wp2_with fail
  refine (IH.out g2 p2 _ (m - m / 2) (xs.drop (m / 2)) w26 R2.out hlr (by omega) (by omega)).mono ?_;rintro x w27 ⟨rfl,ho27,hk27⟩;replace R2:=Aside0.mk ho27;replace R1:=Aside0.mk (Kd.R_kept R1.out (grow_kept hk27) (fun k hk e=>by omega));replace R0:=Aside0.mk (Kd.R_kept R0.out (grow_kept hk27) (fun k hk e=>by omega));replace HK:=Aside0.mk (grow_then HK.out hk27 (by omega));clear ho27 hk27 IH
  have HM:=Aside0.mk (show msortC (n+1) xs=mergeC (msortC n (xs.take (m / 2))) (msortC n (xs.drop (m / 2))) from by
   conv=>lhs;unfold msortC
   rw [if_neg (by omega),hm])
  have l1:(msortC n (xs.take (m / 2))).length=m / 2:=by rw [(msortC_perm n _).length_eq];exact hll
  have l2:(msortC n (xs.drop (m / 2))).length=m - m / 2:=by rw [(msortC_perm n _).length_eq];exact hlr
  obtain ⟨lf,hlf⟩:∃ z,z=msortC n (xs.take (m / 2)):=⟨_,rfl⟩;obtain ⟨rg,hrg⟩:∃ z,z=msortC n (xs.drop (m / 2)):=⟨_,rfl⟩;rw [← hlf] at R1 l1 HM;rw [← hrg] at R2 l2 HM;clear hlf hrg hll hlr
  go_wp2_with fail
  go_loopw [34,7,8] (fun v vi vk wr=>∃ j i k:Int,0≤i∧i≤(m / 2:Nat)∧0≤k∧k≤(m - m / 2:Nat)∧i+k=j∧v = .int .i64 j∧vi = .int .i64 i∧vk = .int .i64 k∧Aside0 (w.grownBy wr (some g))∧Aside0 (Kd.R k67 67 wr w.heap.size (fun k=>k=g1) (.slice (some ⟨g1,0,none⟩) (m / 2) p1) lf)∧Aside0 (Kd.R k67 67 wr w20.heap.size (fun k=>k=g2) (.slice (some ⟨g2,0,none⟩) (m - m / 2) p2) rg)∧Aside0 (∃ ys:List Cut,ys.length=m∧ys.take j.toNat++mergeC (lf.drop i.toNat) (rg.drop k.toNat)=mergeC lf rg∧Kd.R k67 67 wr base (fun k=>k=g) (.slice (some ⟨g,0,none⟩) m cap) ys)) (fun v _ _ _=>m - (intOf v).toNat)
  case atStart=>exact ⟨0,0,0,by omega,by omega,by omega,by omega,rfl,rfl,rfl,rfl,HK,R1,R2,⟨xs,hm,by simp,R0.out⟩⟩
  case round =>
   clear HK R1 R2 R0;obtain ⟨j,i,k,i0,i1,k0,k1,hj,rfl,rfl,rfl,HK,R1,R2,R0⟩:=hrel;by_cases hlt:j < (m:Int)
   case neg =>
    go_wp2_with fail
    ((try simp only [Exit.inBlock,Exit.then]);first | (refine bodyPost_ret (results_none rfl _ _ _) rfl ?_) | (refine bodyPost_end (results_none rfl _ _ _) rfl ?_))
    obtain ⟨ys,y1,y2,y3⟩:=R0.out;refine ⟨rfl,?_,HK.out⟩;rw [List.take_of_length_le (by omega),List.drop_of_length_le (by omega),List.drop_of_length_le (by omega)] at y2;rw [HM.out,← y2]
    simpa [mergeC] using y3
   obtain ⟨ys,y1,y2,y3⟩:=R0.out;have RY:=Aside0.mk y3;have HY:=Aside0.mk y2;clear R0 y2;obtain ⟨z0,z1,z2,z3⟩:=cut_get y3 j (by omega) hlt;clear y3;by_cases hk:k=(m - m / 2:Nat)
   ·have hkb:(k == ((m - m / 2:Nat):Int))=true:=beq_iff_eq.2 hk;have hi:i < ((m / 2:Nat):Int):=by omega
    obtain ⟨x0,x1,x2,x3⟩:=cut_get R1.out i i0 hi;clear x2 x3
    go_wp2_with fail
    go_quiet (fail)
    go_wp2_with fail
    go_roundw
    case rel =>
     refine ⟨j+1,i+1,k,by omega,by omega,by omega,by omega,by omega,rfl,rfl,rfl,⟨grow_set (grow_set (grow_drewN HK.out _) _ _) _ _⟩,⟨Kd.R_far (Kd.R_far (Kd.R_drewN R1.out _) (fun k hk=>by show k≠g;omega) _) (fun k hk=>by show k≠g;omega) _⟩,⟨Kd.R_far (Kd.R_far (Kd.R_drewN R2.out _) (fun k hk=>by show k≠g;omega) _) (fun k hk=>by show k≠g;omega) _⟩,⟨ys.set j.toNat (rd_T67 lf i),by rw [List.length_set];exact y1,?_,cut_put (Kd.R_drewN RY.out _) j (by omega) hlt _⟩⟩;rw [set_take (by omega) (by omega),← HY.out,merge_left i0 (by omega) k0 (.inl (by omega))];simp
    case measure=>simp [intOf];omega
   have hkb:(k == ((m - m / 2:Nat):Int))=false:=beq_eq_false_iff_ne.2 hk;have hkl:k < ((m - m / 2:Nat):Int):=by omega
   obtain ⟨w0,w1,w2,w3⟩:=cut_get R2.out k k0 hkl;clear w2 w3;by_cases hi:i < ((m / 2:Nat):Int)
   case neg =>
    have hib2:decide (i < (m:Int) / 2)=false:=decide_eq_false (by omega)
    go_wp2_with fail
    go_quiet (fail)
    go_wp2_with fail
    go_roundw
    case rel =>
     refine ⟨j+1,i,k+1,by omega,by omega,by omega,by omega,by omega,rfl,rfl,rfl,⟨grow_set (grow_set (grow_drewN HK.out _) _ _) _ _⟩,⟨Kd.R_far (Kd.R_far (Kd.R_drewN R1.out _) (fun k hk=>by show k≠g;omega) _) (fun k hk=>by show k≠g;omega) _⟩,⟨Kd.R_far (Kd.R_far (Kd.R_drewN R2.out _) (fun k hk=>by show k≠g;omega) _) (fun k hk=>by show k≠g;omega) _⟩,⟨ys.set j.toNat (rd_T67 rg k),by rw [List.length_set];exact y1,?_,cut_put (Kd.R_drewN RY.out _) j (by omega) hlt _⟩⟩;rw [set_take (by omega) (by omega),← HY.out,merge_right i0 k0 (by omega) (.inl (by omega))];simp
    case measure=>simp [intOf];omega
   have hib2:decide (i < (m:Int) / 2)=true:=decide_eq_true (by omega);obtain ⟨x0,x1,x2,x3⟩:=cut_get R1.out i i0 hi;clear x2 x3;have hi2:i < (m:Int) / 2:=by omega
   have hi3:i≤(m:Int) / 2:=by omega
   have hi4:i.toNat < m / 2:=by omega
   have hk4:k.toNat < m - m / 2:=by omega
   go_wp2_with fail
   go_region_held3 (fun w'=>w'.cell? ⟨g1,i.toNat * 2,none⟩=some (.int .i64 (rd_T67 lf i).f0)∧w'.cell? ⟨g1,i.toNat * 2+1,none⟩=some (.int .i64 (rd_T67 lf i).f1)∧w'.cell? ⟨g2,k.toNat * 2,none⟩=some (.int .i64 (rd_T67 rg k).f0)∧w'.cell? ⟨g2,k.toNat * 2+1,none⟩=some (.int .i64 (rd_T67 rg k).f1)) ((first | go_keep | exact ⟨pw_cell_below hb (by assumption),pw_cell_below hb (by assumption),pw_cell_below hb (by assumption),pw_cell_below hb (by assumption)⟩))
    ((go_at_call 47;refine (cut_less (rd_T67 rg k) (rd_T67 lf i) _).mono ?_;rintro x w28 ⟨rfl,hb⟩))
   replace R1:=Aside0.mk (Kd.R_below (Kd.R_drew R1.out) hb);replace R2:=Aside0.mk (Kd.R_below (Kd.R_drew R2.out) hb);replace RY:=Aside0.mk (Kd.R_below (Kd.R_drew RY.out) hb);replace HK:=Aside0.mk (grow_below (grow_drew HK.out) hb);clear hb x0 x1 w0 w1 z0 z1 z2 z3;obtain ⟨z0,z1,z2,z3⟩:=cut_get RY.out j (by omega) hlt;generalize hcb:(!decide ((rd_T67 lf i).f1 < (rd_T67 rg k).f1))=b;cases b
   case false =>
    have hc:(rd_T67 rg k).f1 > (rd_T67 lf i).f1:=by simpa using hcb
    clear hcb;obtain ⟨w0,w1,w2,w3⟩:=cut_get R2.out k k0 hkl;clear w2 w3
    go_wp2_with fail
    go_roundw
    case rel =>
     refine ⟨j+1,i,k+1,by omega,by omega,by omega,by omega,by omega,rfl,rfl,rfl,⟨grow_set (grow_set (HK.out) _ _) _ _⟩,⟨Kd.R_far (Kd.R_far (R1.out) (fun k hk=>by show k≠g;omega) _) (fun k hk=>by show k≠g;omega) _⟩,⟨Kd.R_far (Kd.R_far (R2.out) (fun k hk=>by show k≠g;omega) _) (fun k hk=>by show k≠g;omega) _⟩,⟨ys.set j.toNat (rd_T67 rg k),by rw [List.length_set];exact y1,?_,cut_put (RY.out) j (by omega) hlt _⟩⟩;rw [set_take (by omega) (by omega),← HY.out,merge_right i0 k0 (by omega) (.inr ⟨by omega,hc⟩)];simp
    case measure=>simp [intOf];omega
   case true =>
    have hc:¬ (rd_T67 rg k).f1 > (rd_T67 lf i).f1:=by simpa using hcb
    clear hcb;obtain ⟨x0,x1,x2,x3⟩:=cut_get R1.out i i0 hi;clear x2 x3
    go_wp2_with fail
    go_roundw
    case rel =>
     refine ⟨j+1,i+1,k,by omega,by omega,by omega,by omega,by omega,rfl,rfl,rfl,⟨grow_set (grow_set (HK.out) _ _) _ _⟩,⟨Kd.R_far (Kd.R_far (R1.out) (fun k hk=>by show k≠g;omega) _) (fun k hk=>by show k≠g;omega) _⟩,⟨Kd.R_far (Kd.R_far (R2.out) (fun k hk=>by show k≠g;omega) _) (fun k hk=>by show k≠g;omega) _⟩,⟨ys.set j.toNat (rd_T67 lf i),by rw [List.length_set];exact y1,?_,cut_put (RY.out) j (by omega) hlt _⟩⟩;rw [set_take (by omega) (by omega),← HY.out,merge_left i0 (by omega) k0 (.inr ⟨by omega,hc⟩)];simp
    case measure=>simp [intOf];omega
theorem sumOf_l0 (l:List Int) (hl:l.length≤1048576):∀ (n k:Nat) (i:Int),0≤i→i+n=(l.length:Int)→n < k→impl_sumOf.l0 k (wrap64 (sumS (l.take i.toNat))) l (l.length:Int) i=some (wrap64 (sumS l)):=by
 intro n
 induction n with
 | zero =>
  intro k i i0 hi hk;obtain ⟨k,rfl⟩:∃ j,k=j+1:=⟨k - 1,by omega⟩;rw [impl_sumOf.l0,if_neg (by omega),List.take_of_length_le (by omega)]
 | succ n ih =>
  intro k i i0 hi hk;obtain ⟨k,rfl⟩:∃ j,k=j+1:=⟨k - 1,by omega⟩;have hw:wrap64 (i+1)=i+1:=by unfold wrap64;omega
  have h:=ih k (i+1) (by omega) (by omega) (by omega);rw [take_rd i0 (by omega),sumS_app] at h;simp only [sumS,Int.add_zero] at h;rw [impl_sumOf.l0,if_pos (by omega),if_pos i0,if_pos (by omega),wrap_add,hw,h]
theorem impl_sumOf_is (l:List Int) (hl:l.length≤1000):impl_sumOf.f 2000 l=some (wrap64 (sumS l)):=by
 have h:=sumOf_l0 l (by omega) l.length 2000 0 (Int.le_refl _) (by omega) (by omega);simp only [Int.toNat_zero,List.take_zero,sumS] at h;rw [show wrap64 0=0 by unfold wrap64;omega] at h;exact h
theorem impl_factor_is (x:Int):impl_factor.f x=some (inB x 0 10000000):=by
 unfold impl_factor.f impl_between.f;rfl
theorem set_take_i {ys:List Int} {j:Int} (h0:0≤j) (h1:j < (ys.length:Int)) (x:Int):(ys.set j.toNat x).take (j+1).toNat=ys.take j.toNat++[x]:=by
 rw [show (j+1).toNat=j.toNat+1 by omega,List.take_add_one,List.take_set,List.getElem?_set_self (by omega)];simp
 rw [List.set_eq_of_length_le (by rw [List.length_take];omega)]
theorem quo_rd {t all:Int} {ws:List Int} {i:Int} (i0:0≤i) (i1:i < (ws.length:Int)):rd (quoS t all ws) i=Int.tdiv (t * rd ws i) all:=by
 unfold rd quoS;rw [List.getD_eq_getElem?_getD,List.getD_eq_getElem?_getD,List.getElem?_map,List.getElem?_eq_getElem (by omega)];rfl
theorem rst_rd {t all:Int} {ws:List Int} {i:Int} (i0:0≤i) (i1:i < (ws.length:Int)):rd (rstS t all ws) i=absI (Int.tmod (t * rd ws i) all):=by
 unfold rd rstS;rw [List.getD_eq_getElem?_getD,List.getD_eq_getElem?_getD,List.getElem?_map,List.getElem?_eq_getElem (by omega)];rfl
theorem cuts_take {rs:List Int} {i:Int} (i0:0≤i) (i1:i < (rs.length:Int)):(cutsOf rs).take (i+1).toNat=(cutsOf rs).take i.toNat++[⟨i,rd rs i⟩]:=by
 unfold cutsOf;rw [show (i+1).toNat=i.toNat+1 by omega,List.take_add_one,List.getElem?_map,List.getElem?_range (by omega)];simp only [Option.map_some,Option.toList_some];rw [show ((i.toNat:Nat):Int)=i by omega]
theorem cutsOf_len (rs:List Int):(cutsOf rs).length=rs.length:=by unfold cutsOf;rw [List.length_map,List.length_range]
theorem cutsOf_in {rs:List Int}:∀ c∈cutsOf rs,0≤c.f0∧c.f0 < (rs.length:Int):=fun c hc=>by
 unfold cutsOf at hc;obtain ⟨i,hi,rfl⟩:=List.mem_map.1 hc;have:=List.mem_range.1 hi;exact ⟨by show (0:Int)≤(i:Int);omega,by show (i:Int) < _;omega⟩
set_option maxHeartbeats 8000000 in
set_option maxRecDepth 100000 in
theorem impl_Shares.to (t:Int) (A:Option Addr) (c:Nat) (ws:List Int) (w:World) (hr:Kd.C (Kd.int .i64) w A ws.length ws) (hc:ws.length≤c) :
 Calls Tryd.prog 27 #[.int .i64 t,.slice A ws.length c] w fun e w'=>∃ v0_:Value,e = .returned v0_∧Kd.R (Kd.int .i64) 3 w' w.heap.size (fun _=>True) v0_ (sharesR t ws)∧Below w.heap.size w w':=by
 have HW:=Aside0.mk hr;have HB:=Aside0.mk (Below.refl w.heap.size w);have HW0:=HW;clear hr;obtain ⟨SR,hSR⟩:∃ z,z=sharesR t ws:=⟨_,rfl⟩;rw [← hSR];have HSR:=Aside0.mk hSR;clear hSR
 go_enter Tryd.func27,Tryd.ntmps27
 go_wp2_with fail
 refine (impl_amount.to t _).mono ?_;rintro x w1 ⟨rfl,rfl⟩;have hnil:=Aside0.mk (fun W (hb:Below w1.heap.size w1 W) (h:SR=[])=>show ∃ v0_:Value,Ending.returned (.slice none 0 0) = .returned v0_∧Kd.R (Kd.int .i64) 3 W w1.heap.size (fun _=>True) v0_ SR∧Below w1.heap.size w1 W from ⟨_,rfl,by rw [h];exact Kd.R_nil _ _ _ _ _,hb⟩);by_cases ht:-100000000000≤t∧t≤100000000000
 case neg =>
  have hb1:inB t (-100000000000) 100000000000=false:=inB_not ht
  go_wp2_with fail
  go_ret
  exact hnil.out _ HB.out (by rw [HSR.out];unfold sharesR;rw [if_neg (fun q=>ht q.1)])
 have hb1:inB t (-100000000000) 100000000000=true:=inB_of ht;by_cases hl0:ws.length=0
 ·have hl0b:((ws.length:Int) == 0)=true:=beq_iff_eq.2 (by omega)
  go_wp2_with fail
  go_ret
  exact hnil.out _ HB.out (by rw [HSR.out];unfold sharesR;rw [if_neg (fun q=>q.2.2.2 (by rw [List.length_eq_zero_iff.1 hl0];rfl))])
 have hl0b:((ws.length:Int) == 0)=false:=beq_eq_false_iff_ne.2 (by omega);by_cases hl:ws.length≤200
 case neg =>
  have hlb:decide ((ws.length:Int) > 200)=true:=decide_eq_true (by omega)
  go_wp2_with fail
  go_ret
  exact hnil.out _ HB.out (by rw [HSR.out];unfold sharesR;rw [if_neg (fun q=>hl q.2.1)])
 have hlb:decide ((ws.length:Int) > 200)=false:=decide_eq_false (by omega)
 go_wp2_with fail
 go_loopw [31] (fun v wr=>∃ i:Int,0≤i∧i≤(ws.length:Int)∧v = .int .i64 i∧Aside0 (Below w1.heap.size w1 wr)∧Aside0 (∀ x∈ws.take i.toNat,factP x)) (fun v _=>ws.length - (intOf v).toNat)
 case atStart=>exact ⟨0,by omega,by omega,rfl,HB,⟨by simp⟩⟩
 case round =>
  clear HB;obtain ⟨i,hi0,hi1,rfl,HB,HF⟩:=hrel;replace HW:=Aside0.mk (Kd.C_below HW.out HB.out);by_cases hlt:i < (ws.length:Int)
  ·obtain ⟨ad,e0,x0⟩:=Kd.at_int HW.out i hi0 hlt;cases e0
   go_wp2_with fail
   refine (impl_factor.calls (rd ws i) _ _ (impl_factor_is _)).mono ?_;rintro x w2 ⟨rfl,hd⟩;by_cases hf:factP (rd ws i)
   ·have hfb:inB (rd ws i) 0 10000000=true:=inB_of hf
    go_wp2_with fail
    go_roundw
    case rel=>exact ⟨i+1,by omega,by omega,rfl,⟨below_into (w:=w1) hd.below HB.out⟩,⟨fun x hx=>by
     rw [take_rd hi0 hlt] at hx;rcases List.mem_append.1 hx with hx | hx
     ·exact HF.out x hx
     ·rw [List.mem_singleton.1 hx];exact hf⟩⟩
    case measure=>simp [intOf];omega
   ·have hfb:inB (rd ws i) 0 10000000=false:=inB_not hf
    go_wp2_with fail
    go_ret
    exact hnil.out _ (below_into (w:=w1) hd.below HB.out) (by rw [HSR.out];unfold sharesR;rw [if_neg (fun q=>hf (q.2.2.1 _ (mem_rd hi0 hlt)))])
  have hfall:=HF.out;rw [List.take_of_length_le (by omega)] at hfall;have HFA:=Aside0.mk hfall;have hsb:=sumS_b hfall;have hwsum:wrap64 (sumS ws)=sumS ws:=by unfold wrap64;omega
  clear HF hfall
  go_wp2_with fail
  refine (impl_sumOf.calls 2000 A c ws _ _ HW.out hc (impl_sumOf_is ws (by omega))).mono ?_;rintro x w2 ⟨rfl,hd⟩;rw [hwsum];replace HW:=Aside0.mk (Kd.C_below HW.out hd.below);replace HB:=Aside0.mk (below_into (w:=w1) hd.below HB.out);obtain ⟨al,hal⟩:∃ z,z=sumS ws:=⟨_,rfl⟩;rw [← hal] at hsb ⊢;have HAL:=Aside0.mk hal;clear hd hwsum hal;by_cases hz:al=0
  ·have hzb:(al == 0)=true:=beq_iff_eq.2 hz
   go_wp2_with fail
   go_ret
   exact hnil.out _ HB.out (by rw [HSR.out];unfold sharesR;rw [if_neg (fun q=>q.2.2.2 (HAL.out ▸ hz))])
  have hzb:(al == 0)=false:=beq_eq_false_iff_ne.2 hz
  go_wp2_with (first | ((with_reducible refine gate_dst (N:=45) rfl ?_);refine Kd.R_make (Kd.int .i64) _ 3 rfl (N:=45) rfl 23 _ _ rfl (ws.length:Int) rfl rfl Tryd.underlying23 (.int .i64 0) 8 info3 rfl (by decide) (by omega) 0 (ok:=fun _=>True) (okp:=fun _=>True) rfl (fun _ hk=>hk) trivial (by omega) (by simp;omega) (Below.refl _ _) (Nat.le_refl _) ?_;intro v1 w3 ho hb hg hnew;have HB3:=Aside0.mk (below_into (w:=w1) hb HB.out);have HB3S:=HB3.out.size;have HO:=Aside0.mk (Kd.R_lower ho (base':=w1.heap.size) HB.out.size);have HWA:=Aside0.mk (Kd.C_below HW.out hb);obtain ⟨g,cap,e1,hg0,hg1,_⟩:=Kd.R_form HO.out (by simp;omega);rw [show (List.replicate ((ws.length:Int)).toNat (0:Int)).length=ws.length by simp] at e1;subst e1;clear ho hb hg hnew) | ((with_reducible refine gate_dst (N:=48) rfl ?_);refine Kd.R_make k67 _ 67 rfl (N:=48) rfl 65 _ _ rfl (ws.length:Int) rfl rfl Tryd.underlying65 (.agg #[.int .i64 0,.int .i64 0]) 16 info67 rfl (by decide) (by omega) z67 (ok:=fun _=>True) (okp:=fun _=>True) (k67_mkM _ _ _ z67) (fun _ hk=>hk) trivial (by omega) (by simp;omega) (Below.refl _ _) (Nat.le_refl _) ?_;intro v2 w4 ho hb hg hnew;have HB4:=Aside0.mk (below_into (w:=w1) hb HB3.out);have HO1:=Aside0.mk (Kd.R_below HO.out hb);have HO2:=Aside0.mk ho;have HWB:=Aside0.mk (Kd.C_below HWA.out hb);obtain ⟨g2,cap2,e1,hg2,hg3,_⟩:=Kd.R_form HO2.out (by simp;omega);rw [show (List.replicate ((ws.length:Int)).toNat z67).length=ws.length by simp] at e1;subst e1;clear ho hb hg hnew))
  replace HO:=Aside0.mk (Kd.R_mono (Kd.R_tight rfl HO1.out) (ok':=fun k=>k=g) (fun k hk=>by simpa [Value.ownBlock] using hk));replace HO2:=Aside0.mk (Kd.R_mono (Kd.R_tight rfl HO2.out) (ok':=fun k=>k=g2) (fun k hk=>by simpa [Value.ownBlock] using hk));have hlq:(quoS t al ws).length=ws.length:=by unfold quoS;rw [List.length_map]
  have hlr:(rstS t al ws).length=ws.length:=by unfold rstS;rw [List.length_map]
  have hlc:(cutsOf (rstS t al ws)).length=ws.length:=by rw [cutsOf_len,hlr]
  clear HO1 HB3 HB HWA HWB HW
  go_loopw [51] (fun v wr=>∃ i:Int,0≤i∧i≤(ws.length:Int)∧v = .int .i64 i∧Aside0 (Below w1.heap.size w1 wr)∧Aside0 (∃ os:List Int,os.length=ws.length∧os.take i.toNat=(quoS t al ws).take i.toNat∧Kd.R (Kd.int .i64) 3 wr w1.heap.size (fun k=>k=g) (.slice (some ⟨g,0,none⟩) ws.length cap) os)∧Aside0 (∃ cs:List Cut,cs.length=ws.length∧cs.take i.toNat=(cutsOf (rstS t al ws)).take i.toNat∧Kd.R k67 67 wr w3.heap.size (fun k=>k=g2) (.slice (some ⟨g2,0,none⟩) ws.length cap2) cs)) (fun v _=>ws.length - (intOf v).toNat)
  case atStart=>exact ⟨0,by omega,by omega,rfl,HB4,⟨_,by simp,by simp,HO.out⟩,⟨_,by simp,by simp,HO2.out⟩⟩
  case round =>
   clear HB4 HO HO2;obtain ⟨i,hi0,hi1,rfl,HB,HO,HO2⟩:=hrel;obtain ⟨os,o1,o2,o3⟩:=HO.out;obtain ⟨cs,p1,p2,p3⟩:=HO2.out;have RO:=Aside0.mk o3;have RC:=Aside0.mk p3;have EO:=Aside0.mk o2;have EC:=Aside0.mk p2;clear HO HO2 o2 p2;by_cases hlt:i < (ws.length:Int)
   ·obtain ⟨ad,e0,x0⟩:=Kd.at_int (Kd.C_below HW0.out HB.out) i hi0 hlt;cases e0;have hb:=mulB ht (HFA.out _ (mem_rd hi0 hlt));have hqd:=tdivB (a:=t * rd ws i) (b:=al);have hrm:=tmodB (a:=t * rd ws i) (b:=al);have hm:IntKind.i64.wrap (t * rd ws i)=t * rd ws i:=by rw [IntKind.wrap_i64];omega
    have hd:IntKind.i64.wrap (Int.tdiv (t * rd ws i) al)=Int.tdiv (t * rd ws i) al:=by rw [IntKind.wrap_i64];omega
    have hn:IntKind.i64.wrap (-Int.tmod (t * rd ws i) al) = -Int.tmod (t * rd ws i) al:=by rw [IntKind.wrap_i64];omega
    have hwi:wrap64 (i+1)=i+1:=by unfold wrap64;omega
    obtain ⟨z0,z1⟩:=int_get o3 i hi0 hlt;obtain ⟨y0,y1,y2,y3⟩:=cut_get p3 i hi0 hlt;clear o3 p3 hb hqd hrm;by_cases hr:Int.tmod (t * rd ws i) al < 0
    ·have hrb:decide (Int.tmod (t * rd ws i) al < 0)=true:=decide_eq_true hr
     go_wp2_with fail
     go_roundw
     case rel =>
      refine ⟨i+1,by omega,by omega,rfl,⟨y03 (y03 (y03 HB.out hg0) (Nat.le_trans HB3S hg2)) (Nat.le_trans HB3S hg2)⟩,⟨os.set i.toNat (Int.tdiv (t * rd ws i) al),by rw [List.length_set];exact o1,?_,Kd.R_far (Kd.R_far (int_seg RO.out i hi0 hlt _) (fun k hk=>by show k≠g2;omega) _) (fun k hk=>by show k≠g2;omega) _⟩,⟨cs.set i.toNat ⟨i,-Int.tmod (t * rd ws i) al⟩,by rw [List.length_set];exact p1,?_,cut_put (Kd.R_far RC.out (fun k hk=>by show k≠g;omega) _) i hi0 hlt ⟨i,-Int.tmod (t * rd ws i) al⟩⟩⟩
      ·rw [set_take_i hi0 (by omega),EO.out,take_rd hi0 (by omega),quo_rd hi0 hlt]
      ·rw [set_take hi0 (by omega),EC.out,cuts_take hi0 (by omega),rst_rd hi0 hlt];unfold absI;rw [if_pos hr]
     case measure=>simp [intOf];omega
    ·have hrb:decide (Int.tmod (t * rd ws i) al < 0)=false:=decide_eq_false hr
     go_wp2_with fail
     go_roundw
     case rel =>
      refine ⟨i+1,by omega,by omega,rfl,⟨y03 (y03 (y03 HB.out hg0) (Nat.le_trans HB3S hg2)) (Nat.le_trans HB3S hg2)⟩,⟨os.set i.toNat (Int.tdiv (t * rd ws i) al),by rw [List.length_set];exact o1,?_,Kd.R_far (Kd.R_far (int_seg RO.out i hi0 hlt _) (fun k hk=>by show k≠g2;omega) _) (fun k hk=>by show k≠g2;omega) _⟩,⟨cs.set i.toNat ⟨i,Int.tmod (t * rd ws i) al⟩,by rw [List.length_set];exact p1,?_,cut_put (Kd.R_far RC.out (fun k hk=>by show k≠g;omega) _) i hi0 hlt ⟨i,Int.tmod (t * rd ws i) al⟩⟩⟩
      ·rw [set_take_i hi0 (by omega),EO.out,take_rd hi0 (by omega),quo_rd hi0 hlt]
      ·rw [set_take hi0 (by omega),EC.out,cuts_take hi0 (by omega),rst_rd hi0 hlt];unfold absI;rw [if_neg hr]
     case measure=>simp [intOf];omega
   rw [List.take_of_length_le (by omega),List.take_of_length_le (by omega)] at EO EC;obtain rfl:=EO.out;obtain rfl:=EC.out;obtain ⟨f1,f2,f3⟩:=left_few (t:=t) (ws:=ws) (fun x hx=>(HFA.out x hx).1) (by rw [← HAL.out];omega);rw [← HAL.out] at f1 f2 f3;have hcall:=impl_sumOf.calls 2000 (some ⟨g,0,none⟩) cap (quoS t al ws) _ wr (by rw [hlq];have:=(Kd.R_reads' RO.out).2.2;rw [hlq] at this;exact this) (by rw [hlq];exact (Kd.R_reads' RO.out).2.1) (impl_sumOf_is _ (by omega));rw [hlq] at hcall
   go_wp2_with fail
   refine hcall.mono ?_;rintro x w5 ⟨rfl,hd⟩;replace RO:=Aside0.mk (Kd.R_below RO.out hd.below);replace RC:=Aside0.mk (Kd.R_below RC.out hd.below);replace HB:=Aside0.mk (below_into (w:=w1) hd.below HB.out);clear hd hcall
   have SRQ:sharesR t ws=giveC (oneS (t - sumS (quoS t al ws))) (quoS t al ws) ((msortC ws.length (cutsOf (rstS t al ws))).take (t - sumS (quoS t al ws)).natAbs):=by
    unfold sharesR;rw [if_pos ⟨ht,hl,HFA.out,by rw [← HAL.out];exact hz⟩,← HAL.out]
   have hwL:IntKind.i64.wrap (t - wrap64 (sumS (quoS t al ws)))=t - sumS (quoS t al ws):=by
    rw [IntKind.wrap_i64];unfold wrap64;generalize sumS (quoS t al ws)=z at *;omega
   generalize t - sumS (quoS t al ws)=LL at *;have hlS:(msortC ws.length (cutsOf (rstS t al ws))).length=ws.length:=by rw [(msortC_perm _ _).length_eq,hlc]
   have HIN:=Aside0.mk (fun c (hc:c∈msortC ws.length (cutsOf (rstS t al ws)))=>show 0≤c.f0∧c.f0 < (ws.length:Int) from by
    have:=cutsOf_in c ((msortC_perm _ _).mem_iff.1 hc);rw [hlr] at this
    exact this)
   have HSO:=Aside0.mk (sortBy.to ws.length g2 cap2 w3.heap.size ws.length (cutsOf (rstS t al ws)) w5 RC.out hlc (by omega) hl);obtain ⟨S,hS⟩:∃ z,z=msortC ws.length (cutsOf (rstS t al ws)):=⟨_,rfl⟩;rw [← hS] at SRQ hlS HIN HSO;have hwN:IntKind.i64.wrap (-LL) = -LL:=by rw [IntKind.wrap_i64];omega
   clear hS HAL HFA;by_cases hL:LL < 0
   ·have hLb:decide (LL < 0)=true:=decide_eq_true hL;rw [show oneS LL = -1 from if_pos hL] at SRQ;obtain ⟨M,rfl⟩:∃ M:Nat,LL = -(M:Int):=⟨LL.natAbs,by omega⟩;rw [Int.natAbs_neg,Int.natAbs_natCast] at SRQ f3;rw [Int.neg_neg] at hwN
    go_wp2_with fail
    refine HSO.out.mono ?_;rintro x w6 ⟨rfl,hs,hk⟩;have RC6:=Aside0.mk hs;have RO6:=Aside0.mk (Kd.R_kept RO.out (grow_kept hk) (fun k hk e=>by omega));have HB6:=Aside0.mk (pw_below_grown HB.out (some g2) HB.out.size hk (fun k hk=>by injection hk with hk;omega));clear hs hk HSO HB RO RC
    go_wp2_with fail
    go_loopw [15] (fun v wr=>∃ i:Int,0≤i∧i≤(M:Int)∧v = .int .i64 i∧Aside0 (Below w1.heap.size w1 wr)∧Aside0 (∃ os:List Int,os.length=ws.length∧giveC (-1) os ((S.take M).drop i.toNat)=SR∧Kd.R (Kd.int .i64) 3 wr w1.heap.size (fun k=>k=g) (.slice (some ⟨g,0,none⟩) ws.length cap) os)∧Aside0 (Kd.R k67 67 wr w3.heap.size (fun k=>k=g2) (.slice (some ⟨g2,0,none⟩) ws.length cap2) S)) (fun v _=>M - (intOf v).toNat)
    case atStart=>exact ⟨0,by omega,by omega,rfl,HB6,⟨_,hlq,by rw [HSR.out];simp [SRQ],RO6.out⟩,RC6⟩
    case round =>
     clear HB6 RO6 RC6;obtain ⟨i,hi0,hi1,rfl,HB,HO,RC⟩:=hrel;obtain ⟨os,o1,o2,o3⟩:=HO.out;have RO:=Aside0.mk o3;have EO:=Aside0.mk o2;clear HO o2;by_cases hlt:i < (M:Int)
     ·obtain ⟨y0,y1,y2,y3⟩:=cut_get RC.out i hi0 (by omega);have hin:=HIN.out (rd_T67 S i) (mem_at (z:=z67) hi0 (by omega));have hi2:=hin.1;have hi3:=hin.2;obtain ⟨z0,z1⟩:=int_get o3 (rd_T67 S i).f0 hi2 hi3;clear o3 y1 y2 y3;have hwi:IntKind.i64.wrap (i+1)=i+1:=by rw [IntKind.wrap_i64];omega
      have hw1:i < 1000:=by omega
      go_wp2_with fail
      go_roundw
      case rel =>
       refine ⟨i+1,by omega,by omega,rfl,⟨y03 HB.out hg0⟩,⟨os.set (rd_T67 S i).f0.toNat (wrap64 (rd os (rd_T67 S i).f0+(-1))),by rw [List.length_set];exact o1,?_,?_⟩,⟨Kd.R_far RC.out (fun k hk=>by show k≠g;omega) _⟩⟩
       ·rw [← EO.out]
        conv=>rhs;rw [drop_at (l:=S.take M) (z:=z67) hi0 (by rw [List.length_take];omega)]
        rw [show (S.take M).getD i.toNat z67=rd_T67 S i by unfold rd_T67;rw [List.getD_eq_getElem?_getD,List.getD_eq_getElem?_getD,List.getElem?_take,if_pos (by omega)]];rfl
       ·rw [← i64_w];exact int_seg RO.out _ hi2 hi3 _
      case measure=>simp [intOf];omega
     ·go_wp2_with fail
      go_ret
      refine ⟨_,rfl,?_,HB.out⟩;rw [List.drop_of_length_le (by rw [List.length_take];omega)] at EO;rw [← EO.out];exact Kd.R_mono RO.out (fun _ _=>trivial)
   ·have hLb:decide (LL < 0)=false:=decide_eq_false hL;rw [show oneS LL=1 from if_neg hL] at SRQ;obtain ⟨M,rfl⟩:∃ M:Nat,LL=(M:Int):=⟨LL.toNat,by omega⟩;rw [Int.natAbs_natCast] at SRQ f3
    go_wp2_with fail
    refine HSO.out.mono ?_;rintro x w6 ⟨rfl,hs,hk⟩;have RC6:=Aside0.mk hs;have RO6:=Aside0.mk (Kd.R_kept RO.out (grow_kept hk) (fun k hk e=>by omega));have HB6:=Aside0.mk (pw_below_grown HB.out (some g2) HB.out.size hk (fun k hk=>by injection hk with hk;omega));clear hs hk HSO HB RO RC
    go_wp2_with fail
    go_loopw [15] (fun v wr=>∃ i:Int,0≤i∧i≤(M:Int)∧v = .int .i64 i∧Aside0 (Below w1.heap.size w1 wr)∧Aside0 (∃ os:List Int,os.length=ws.length∧giveC 1 os ((S.take M).drop i.toNat)=SR∧Kd.R (Kd.int .i64) 3 wr w1.heap.size (fun k=>k=g) (.slice (some ⟨g,0,none⟩) ws.length cap) os)∧Aside0 (Kd.R k67 67 wr w3.heap.size (fun k=>k=g2) (.slice (some ⟨g2,0,none⟩) ws.length cap2) S)) (fun v _=>M - (intOf v).toNat)
    case atStart=>exact ⟨0,by omega,by omega,rfl,HB6,⟨_,hlq,by rw [HSR.out];simp [SRQ],RO6.out⟩,RC6⟩
    case round =>
     clear HB6 RO6 RC6;obtain ⟨i,hi0,hi1,rfl,HB,HO,RC⟩:=hrel;obtain ⟨os,o1,o2,o3⟩:=HO.out;have RO:=Aside0.mk o3;have EO:=Aside0.mk o2;clear HO o2;by_cases hlt:i < (M:Int)
     ·obtain ⟨y0,y1,y2,y3⟩:=cut_get RC.out i hi0 (by omega);have hin:=HIN.out (rd_T67 S i) (mem_at (z:=z67) hi0 (by omega));have hi2:=hin.1;have hi3:=hin.2;obtain ⟨z0,z1⟩:=int_get o3 (rd_T67 S i).f0 hi2 hi3;clear o3 y1 y2 y3;have hwi:IntKind.i64.wrap (i+1)=i+1:=by rw [IntKind.wrap_i64];omega
      have hw1:i < 1000:=by omega
      go_wp2_with fail
      go_roundw
      case rel =>
       refine ⟨i+1,by omega,by omega,rfl,⟨y03 HB.out hg0⟩,⟨os.set (rd_T67 S i).f0.toNat (wrap64 (rd os (rd_T67 S i).f0+1)),by rw [List.length_set];exact o1,?_,?_⟩,⟨Kd.R_far RC.out (fun k hk=>by show k≠g;omega) _⟩⟩
       ·rw [← EO.out]
        conv=>rhs;rw [drop_at (l:=S.take M) (z:=z67) hi0 (by rw [List.length_take];omega)]
        rw [show (S.take M).getD i.toNat z67=rd_T67 S i by unfold rd_T67;rw [List.getD_eq_getElem?_getD,List.getD_eq_getElem?_getD,List.getElem?_take,if_pos (by omega)]];rfl
       ·rw [← i64_w];exact int_seg RO.out _ hi2 hi3 _
      case measure=>simp [intOf];omega
     ·go_wp2_with fail
      go_ret
      refine ⟨_,rfl,?_,HB.out⟩;rw [List.drop_of_length_le (by rw [List.length_take];omega)] at EO;rw [← EO.out];exact Kd.R_mono RO.out (fun _ _=>trivial)
noncomputable def impl_Shares.f (a0:Int) (l1:List Int):Option (List Int):=some (sharesR a0 l1)
theorem impl_Shares.calls (a0:Int) (A1:Option Addr) (c1:Nat) (l1:List Int) (r:List Int) (w:World) (hr1:Kd.C (Kd.int .i64) w A1 l1.length l1) (hc1:l1.length≤c1) (h:impl_Shares.f a0 l1=some r) :
 Calls Tryd.prog 27 #[.int .i64 a0,.slice A1 l1.length c1] w fun e w'=>∃ v0_:Value,e = .returned (v0_)∧Kd.R (Kd.int .i64) 3 w' w.heap.size (fun _=>True) v0_ r∧Below w.heap.size w w':=by
 obtain rfl:=Option.some.inj h;exact impl_Shares.to a0 A1 c1 l1 w hr1 hc1
end Go.Proofs.YtcblmhpebijmaaaDoor.Q
