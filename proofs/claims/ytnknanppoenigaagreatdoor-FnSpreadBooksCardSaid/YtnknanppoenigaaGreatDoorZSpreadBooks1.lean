/- Parts of the proof: what functions of the program and of the reference answer.
   No condition. -/
import Derived.Test.YtnknanppoenigaaGreatDoorProg
import Derived.Below
import Derived.Deep.Draws
import Derived.Deep.AppendLies
import Derived.Maps.AppendAt
import Derived.OwnWalk
import Derived.Laws.BytesArg
import Derived.Laws.MakeOwn
import Derived.Laws.OwnMore
import Derived.Deep.OwnRows
import Derived.Tactics
import Derived.Lib.ConvBytes
import Derived.Laws.Slices
import Derived.WalkKit
import Derived.KernelRfl
import Derived.RowKit3
import Derived.Deep.LoopGhost
import Derived.Deep.QuietTactic
import Derived.BigQuiet
import Derived.WideLaws
import Derived.Deep.DeepCutAuto
import Derived.Deep.CutBlock
import Derived.Deep.RegionHeld3
import Derived.Laws.Rows
import Derived.Lib.AppendStr
import Derived.ArgAppend
import Derived.Laws.IdiomCopy
import Derived.OrdersHeld
import Derived.Laws.BitsLemmas
import Derived.RowKit
import Derived.Test.YtnknanppoenigaaGreatDoorZSpreadBooksV2
import Derived.Test.YtnknanppoenigaaGreatDoorZSpreadBooksH1
import Derived.Test.YtnknanppoenigaaGreatDoorZSpreadBooksV1
import Derived.Test.YtnknanppoenigaaGreatDoorZSpreadBooksV3
import Derived.LaidEql
import Derived.Stop.Asserts
import Derived.RowKitTokens
namespace Go.Proofs.YtnknanppoenigaaGreatDoor.Q
open Go.RowKit Go.Proofs.YtnknanppoenigaaGreatDoorW.PrintWords Go.Proofs.YtnknanppoenigaaGreatDoorW.PrintLast Go.Proofs.YtnknanppoenigaaGreatDoorW.PrintMore
attribute [local go_sem] max2_int min2_int max_two min_two max_three min_three max_four min_four
set_option linter.unusedVariables false
set_option linter.unusedSimpArgs false
def errW:Option Int→Value
 | none=>.nilIface
 | some c=>.iface 0 (.int .i64 c)
theorem errW_none:errW none = .nilIface:=rfl
theorem errW_some (c:Int):errW (some c) = .iface 0 (.int .i64 c):=rfl
theorem info3:(Tryz.prog.info? 3).map (fun i=>(i.zero,i.size,i.bytes))=some (some (.int .i64 0),1,8):=by kernel_rfl
theorem info41:(Tryz.prog.info? 41).map (fun i=>(i.zero,i.size,i.bytes))=some (some (.agg #[(.int .i64 0),(.int .i64 0),(.string ⟨#[]⟩),(.slice none 0 0)]),4,56):=by kernel_rfl
theorem info48:(Tryz.prog.info? 48).map (fun i=>(i.zero,i.size,i.bytes))=some (some (.agg #[(.string ⟨#[]⟩),(.int .i64 0),(.int .i64 0)]),3,32):=by kernel_rfl
theorem info63:(Tryz.prog.info? 63).map (fun i=>(i.zero,i.size,i.bytes))=some (some (.agg #[(.int .i64 0),(.int .i64 0)]),2,16):=by kernel_rfl
theorem info67:(Tryz.prog.info? 67).map (fun i=>(i.zero,i.size,i.bytes))=some (some (.agg #[(.int .i64 0),(.int .i64 0),(.int .i64 0),(.int .i64 0),(.int .i64 0)]),5,40):=by kernel_rfl
structure S63 where
 f0:Int
 f1:Int
def z63:S63:=⟨(0:Int),(0:Int)⟩
def k63:Kd S63:=Kd.iso (Kd.pair (Kd.int .i64) (Kd.int .i64)) (fun x:S63=>(x.f0,x.f1))
theorem k63_open {w:World} {x:S63} {cs:List Value} (h:k63.K w x cs):cs=[.int .i64 x.f0,.int .i64 x.f1]:=by
 obtain ⟨_,_,rfl,rfl,rfl⟩:=h;exact rfl
theorem k63_openM {w:World} {base:Nat} {ok:Nat→Prop} {x:S63} {cs:List Value} (h:k63.M w base ok x cs):cs=[.int .i64 x.f0,.int .i64 x.f1]:=by
 obtain ⟨_,_,rfl,rfl,rfl⟩:=h;exact rfl
theorem k63_mkM (w:World) (base:Nat) (ok:Nat→Prop) (x:S63) :k63.M w base ok x [.int .i64 x.f0,.int .i64 x.f1]:=⟨[.int .i64 x.f0],[.int .i64 x.f1],rfl,rfl,rfl⟩
def rd_T63 (xs:List S63) (i:Int):S63:=xs.getD i.toNat z63
theorem at_T63 {w:World} {A:Option Addr} {n:Nat} {xs:List S63} (h:Kd.C k63 w A n xs) (i:Int) (h0:0≤i) (h1:i < n):∃ ad ,A=some ad∧w.cell? (ad.add (i.toNat * 2))=some (.int .i64 (rd_T63 xs i).f0)∧w.cell? ⟨(ad.add (i.toNat * 2)).block,(ad.add (i.toNat * 2)).off+1,none⟩=some (.int .i64 (rd_T63 xs i).f1):=by
 obtain ⟨ad,c,e,_,hK,hc0⟩:=Kd.C_get h z63 i h0 h1;have hc:∀ j u,c[j]?=some u→w.cell? (ad.add (i.toNat * 2+j))=some u:=hc0;obtain rfl:=k63_open hK;exact ⟨ad,e,hc 0 _ rfl,by rw [← add_field _ _ 1 (by omega)];exact hc 1 _ rfl⟩
structure S48 where
 f0:ByteArray
 f1:Int
 f2:Int
def z48:S48:=⟨(⟨#[]⟩:ByteArray),(0:Int),(0:Int)⟩
def k48:Kd S48:=Kd.iso (Kd.pair Kd.string (Kd.pair (Kd.int .i64) (Kd.int .i64))) (fun x:S48=>(x.f0,x.f1,x.f2))
theorem k48_open {w:World} {x:S48} {cs:List Value} (h:k48.K w x cs):cs=[.string x.f0,.int .i64 x.f1,.int .i64 x.f2]:=by
 obtain ⟨_,_,rfl,rfl,⟨_,_,rfl,rfl,rfl⟩⟩:=h;exact rfl
theorem k48_mkM (w:World) (base:Nat) (ok:Nat→Prop) (x:S48) :k48.M w base ok x [.string x.f0,.int .i64 x.f1,.int .i64 x.f2]:=⟨[.string x.f0],[.int .i64 x.f1,.int .i64 x.f2],rfl,rfl,⟨[.int .i64 x.f1],[.int .i64 x.f2],rfl,rfl,rfl⟩⟩
def rd_T48 (xs:List S48) (i:Int):S48:=xs.getD i.toNat z48
theorem at_T48 {w:World} {A:Option Addr} {n:Nat} {xs:List S48} (h:Kd.C k48 w A n xs) (i:Int) (h0:0≤i) (h1:i < n):∃ ad ,A=some ad∧w.cell? (ad.add (i.toNat * 3))=some (.string (rd_T48 xs i).f0)∧w.cell? ⟨(ad.add (i.toNat * 3)).block,(ad.add (i.toNat * 3)).off+1,none⟩=some (.int .i64 (rd_T48 xs i).f1)∧w.cell? ⟨(ad.add (i.toNat * 3)).block,(ad.add (i.toNat * 3)).off+2,none⟩=some (.int .i64 (rd_T48 xs i).f2):=by
 obtain ⟨ad,c,e,_,hK,hc0⟩:=Kd.C_get h z48 i h0 h1;have hc:∀ j u,c[j]?=some u→w.cell? (ad.add (i.toNat * 3+j))=some u:=hc0;obtain rfl:=k48_open hK;exact ⟨ad,e,hc 0 _ rfl,by rw [← add_field _ _ 1 (by omega)];exact hc 1 _ rfl,by rw [← add_field _ _ 2 (by omega)];exact hc 2 _ rfl⟩
structure S67 where
 f0:Int
 f1:Int
 f2:Int
 f3:Int
 f4:Int
def z67:S67:=⟨(0:Int),(0:Int),(0:Int),(0:Int),(0:Int)⟩
def k67:Kd S67:=Kd.iso (Kd.pair (Kd.int .i64) (Kd.pair (Kd.int .i64) (Kd.pair (Kd.int .i64) (Kd.pair (Kd.int .i64) (Kd.int .i64))))) (fun x:S67=>(x.f0,x.f1,x.f2,x.f3,x.f4))
theorem k67_open {w:World} {x:S67} {cs:List Value} (h:k67.K w x cs):cs=[.int .i64 x.f0,.int .i64 x.f1,.int .i64 x.f2,.int .i64 x.f3,.int .i64 x.f4]:=by
 obtain ⟨_,_,rfl,rfl,⟨_,_,rfl,rfl,⟨_,_,rfl,rfl,⟨_,_,rfl,rfl,rfl⟩⟩⟩⟩:=h;exact rfl
theorem k67_mkM (w:World) (base:Nat) (ok:Nat→Prop) (x:S67) :k67.M w base ok x [.int .i64 x.f0,.int .i64 x.f1,.int .i64 x.f2,.int .i64 x.f3,.int .i64 x.f4]:=⟨[.int .i64 x.f0],[.int .i64 x.f1,.int .i64 x.f2,.int .i64 x.f3,.int .i64 x.f4],rfl,rfl,⟨[.int .i64 x.f1],[.int .i64 x.f2,.int .i64 x.f3,.int .i64 x.f4],rfl,rfl,⟨[.int .i64 x.f2],[.int .i64 x.f3,.int .i64 x.f4],rfl,rfl,⟨[.int .i64 x.f3],[.int .i64 x.f4],rfl,rfl,rfl⟩⟩⟩⟩
def rd_T67 (xs:List S67) (i:Int):S67:=xs.getD i.toNat z67
theorem at_T67 {w:World} {A:Option Addr} {n:Nat} {xs:List S67} (h:Kd.C k67 w A n xs) (i:Int) (h0:0≤i) (h1:i < n):∃ ad ,A=some ad∧w.cell? (ad.add (i.toNat * 5))=some (.int .i64 (rd_T67 xs i).f0)∧w.cell? ⟨(ad.add (i.toNat * 5)).block,(ad.add (i.toNat * 5)).off+1,none⟩=some (.int .i64 (rd_T67 xs i).f1)∧w.cell? ⟨(ad.add (i.toNat * 5)).block,(ad.add (i.toNat * 5)).off+2,none⟩=some (.int .i64 (rd_T67 xs i).f2)∧w.cell? ⟨(ad.add (i.toNat * 5)).block,(ad.add (i.toNat * 5)).off+3,none⟩=some (.int .i64 (rd_T67 xs i).f3)∧w.cell? ⟨(ad.add (i.toNat * 5)).block,(ad.add (i.toNat * 5)).off+4,none⟩=some (.int .i64 (rd_T67 xs i).f4):=by
 obtain ⟨ad,c,e,_,hK,hc0⟩:=Kd.C_get h z67 i h0 h1;have hc:∀ j u,c[j]?=some u→w.cell? (ad.add (i.toNat * 5+j))=some u:=hc0;obtain rfl:=k67_open hK;exact ⟨ad,e,hc 0 _ rfl,by rw [← add_field _ _ 1 (by omega)];exact hc 1 _ rfl,by rw [← add_field _ _ 2 (by omega)];exact hc 2 _ rfl,by rw [← add_field _ _ 3 (by omega)];exact hc 3 _ rfl,by rw [← add_field _ _ 4 (by omega)];exact hc 4 _ rfl⟩
structure S41 where
 f0:Int
 f1:Int
 f2:ByteArray
 f3:(List S67)
def z41:S41:=⟨(0:Int),(0:Int),(⟨#[]⟩:ByteArray),([]:List S67)⟩
def k41:Kd S41:=Kd.iso (Kd.pair (Kd.int .i64) (Kd.pair (Kd.int .i64) (Kd.pair Kd.string (Kd.slice 67 k67)))) (fun x:S41=>(x.f0,x.f1,x.f2,x.f3))
theorem k41_open {w:World} {x:S41} {cs:List Value} (h:k41.K w x cs):∃ A3 c3,cs=[.int .i64 x.f0,.int .i64 x.f1,.string x.f2,.slice A3 x.f3.length c3]∧x.f3.length≤c3∧k67.C w A3 x.f3.length x.f3:=by
 obtain ⟨_,_,rfl,rfl,⟨_,_,rfl,rfl,⟨_,_,rfl,rfl,⟨A3,c3,rfl,l3,g3⟩⟩⟩⟩:=h;exact ⟨A3,c3,rfl,l3,g3⟩
theorem k41_openM {w:World} {base:Nat} {ok:Nat→Prop} {x:S41} {cs:List Value} (h:k41.M w base ok x cs):∃ v3,cs=[.int .i64 x.f0,.int .i64 x.f1,.string x.f2,v3]∧k67.R 67 w base ok v3 x.f3:=by
 obtain ⟨_,_,rfl,rfl,⟨_,_,rfl,rfl,⟨_,_,rfl,rfl,⟨v3,rfl,g3⟩⟩⟩⟩:=h;exact ⟨v3,rfl,g3⟩
theorem k41_mkM (w:World) (base:Nat) (ok:Nat→Prop) (x:S41) {v3:Value} (g3:k67.R 67 w base ok v3 x.f3):k41.M w base ok x [.int .i64 x.f0,.int .i64 x.f1,.string x.f2,v3]:=⟨[.int .i64 x.f0],[.int .i64 x.f1,.string x.f2,v3],rfl,rfl,⟨[.int .i64 x.f1],[.string x.f2,v3],rfl,rfl,⟨[.string x.f2],[v3],rfl,rfl,⟨v3,rfl,g3⟩⟩⟩⟩
def rd_T41 (xs:List S41) (i:Int):S41:=xs.getD i.toNat z41
theorem at_T41 {w:World} {A:Option Addr} {n:Nat} {xs:List S41} (h:Kd.C k41 w A n xs) (i:Int) (h0:0≤i) (h1:i < n):∃ ad A3 c3,A=some ad∧w.cell? (ad.add (i.toNat * 4))=some (.int .i64 (rd_T41 xs i).f0)∧w.cell? ⟨(ad.add (i.toNat * 4)).block,(ad.add (i.toNat * 4)).off+1,none⟩=some (.int .i64 (rd_T41 xs i).f1)∧w.cell? ⟨(ad.add (i.toNat * 4)).block,(ad.add (i.toNat * 4)).off+2,none⟩=some (.string (rd_T41 xs i).f2)∧w.cell? ⟨(ad.add (i.toNat * 4)).block,(ad.add (i.toNat * 4)).off+3,none⟩=some (.slice A3 (rd_T41 xs i).f3.length c3)∧(rd_T41 xs i).f3.length≤c3∧k67.C w A3 (rd_T41 xs i).f3.length (rd_T41 xs i).f3:=by
 obtain ⟨ad,c,e,_,hK,hc0⟩:=Kd.C_get h z41 i h0 h1;have hc:∀ j u,c[j]?=some u→w.cell? (ad.add (i.toNat * 4+j))=some u:=hc0;obtain ⟨A3,c3,rfl,l3,g3⟩:=k41_open hK;exact ⟨ad,A3,c3,e,hc 0 _ rfl,by rw [← add_field _ _ 1 (by omega)];exact hc 1 _ rfl,by rw [← add_field _ _ 2 (by omega)];exact hc 2 _ rfl,by rw [← add_field _ _ 3 (by omega)];exact hc 3 _ rfl,l3,g3⟩
theorem bytes_eq {a b:ByteArray} (h:(!a.toList == b.toList)=false):a=b:=by
 have h1:a.toList=b.toList:=by simpa using h
 rw [ByteArray.toList_eq,ByteArray.toList_eq] at h1;exact Go.WideShapes.bytes_inj h1
theorem ret_bool {b c:Bool} (h:b=c):Ending.returned (Value.bool b)=Ending.returned (Value.bool c):=by rw [h]
theorem below_two (w:World) (o1 o2:Obj):Below w.heap.size w ((w.alloc o1).alloc o2):=((Below.refl _ _).alloc (Nat.le_refl _) _).alloc (by simp) _
theorem below_into {w W w2:World} (k:Below W.heap.size W w2) (h:Below w.heap.size w W):Below w.heap.size w w2:=below_step h k
theorem all_step {α:Type} {l:List α} {z:α} {i:Int} {p:α→Prop} (h0:0≤i) (hl:i < (l.length:Int)) (ht:∀ x∈l.take i.toNat,p x) (he:p (l.getD i.toNat z)):∀ x∈l.take (i+1).toNat,p x:=by
 rw [show (i+1).toNat=i.toNat+1 by omega,List.take_add_one];rw [List.getD_eq_getElem?_getD,List.getElem?_eq_getElem (by omega)] at he;rw [List.getElem?_eq_getElem (by omega)];intro x hx;rcases List.mem_append.1 hx with hx | hx
 ·exact ht x hx
 ·obtain rfl:x=l[i.toNat]:=by simpa using hx
  exact he
theorem all_end {α:Type} {l:List α} {i:Int} {p:α→Prop} (hi:(l.length:Int)≤i) (ht:∀ x∈l.take i.toNat,p x):∀ x∈l,p x:=by
 rwa [List.take_of_length_le (by omega)] at ht
theorem all_at {α:Type} {l:List α} {z:α} {i:Int} {p:α→Prop} (h0:0≤i) (hl:i < (l.length:Int)) (ht:∀ x∈l,p x):p (l.getD i.toNat z):=by
 rw [List.getD_eq_getElem?_getD,List.getElem?_eq_getElem (by omega)];exact ht _ (List.getElem_mem _)
theorem wf_of {n:Int} (h:-9223372036854775808≤n∧n≤9223372036854775807):(Lit.int .i64 n).wf=true:=by
 have:=wrap64_wf n
 rwa [show wrap64 n=n by unfold wrap64;omega] at this
theorem ret_i {a b:Int} (h:a=b):Ending.returned (Value.int .i64 a)=Ending.returned (Value.int .i64 b):=by rw [h]
theorem beq_bytes {a b:ByteArray} (h:a=b):(a.toList == b.toList)=true:=by rw [h];simp
theorem nbeq_bytes {a b:ByteArray} (h:a=b→False):(a.toList == b.toList)=false:=by
 cases hb:(a.toList == b.toList) with
 | false=>rfl
 | true=>exact absurd (bytes_eq (by rw [hb];rfl)) h
def nameB (c:Int):Bool:=decide (97≤c∧c≤122) || decide (65≤c∧c≤90) || decide (48≤c∧c≤57) || decide (c=45) || decide (c=95) || decide (c=46)
def nameUpto (s:ByteArray) (i:Int):Prop:=∀ j:Int,0≤j→j < i→nameB (bt s j)=true
open Classical in
noncomputable def nameOk (s:ByteArray):Bool:=decide (1≤s.size∧s.size≤20∧nameUpto s s.size)
abbrev Acc:=S48
def code (chart:List Acc) (i:Int):ByteArray:=(rd_T48 chart i).f0
def par (chart:List Acc) (i:Int):Int:=(rd_T48 chart i).f1
def knd (chart:List Acc) (i:Int):Int:=(rd_T48 chart i).f2
def climb (chart:List Acc) (p:Int):Nat→Int→Int
 | 0,k=>k
 | n+1,k=>if 0≤k∧k≠p then climb chart p n (par chart k) else k
def anc (chart:List Acc):Nat→Int→Int
 | 0,_=>0
 | n+1,i=>if 0≤par chart i then anc chart n (par chart i)+1 else 0
def fresh (chart:List Acc) (i:Int):Prop:=∀ j:Int,0≤j→j < i→code chart j≠code chart i
def up (chart:List Acc) (i:Int):Int:=climb chart (par chart i) i.toNat (i - 1)
def deepAt (chart:List Acc) (i:Int):Int:=anc chart (i.toNat+1) i
def rowOk (chart:List Acc) (i:Int):Prop :=
 fresh chart i∧nameOk (code chart i)=true∧(1≤knd chart i∧knd chart i≤5)∧(par chart i = -1∨(0≤up chart i∧knd chart (up chart i)=knd chart i∧deepAt chart (up chart i) < 8))
def rowsOk (chart:List Acc) (n:Int):Prop:=∀ i:Int,0≤i→i < n→rowOk chart i
open Classical in
noncomputable def chartOk (chart:List Acc):Bool:=decide (1≤chart.length∧chart.length≤120∧rowsOk chart chart.length)
theorem climb_le (chart:List Acc) (p:Int) (m:Int) (h:∀ j:Int,0≤j→j < m→par chart j < j):∀ (n:Nat) (k:Int),k < m→climb chart p n k≤k
 | 0,k,_=>Int.le_refl _
 | n+1,k,hk=>by
  unfold climb
  split
  ·rename_i hc
   have h1:=h k hc.1 hk;have:=climb_le chart p m h n (par chart k) (by omega);omega
  ·omega
theorem climb_end (chart:List Acc) (p:Int) (m:Int) (h:∀ j:Int,0≤j→j < m→par chart j < j):∀ (n:Nat) (k:Int),k < m→k+1≤n→climb chart p n k < 0∨climb chart p n k=p
 | 0,k,_,hn=>by unfold climb;left;omega
 | n+1,k,hk,hn=>by
  unfold climb
  split
  ·rename_i hc
   have h1:=h k hc.1 hk;exact climb_end chart p m h n (par chart k) (by omega) (by omega)
  ·rename_i hc
   by_cases h0:0≤k
   ·right
    by_cases e:k=p
    ·exact e
    ·exact absurd ⟨h0,e⟩ hc
   ·left;omega
theorem climb_more (chart:List Acc) (p:Int) (m:Int) (h:∀ j:Int,0≤j→j < m→par chart j < j):∀ (n n':Nat) (k:Int),k < m→k+1≤n→k+1≤n'→climb chart p n k=climb chart p n' k
 | 0,0,_,_,_,_=>rfl
 | 0,n'+1,k,_,hn,_=>by unfold climb;rw [if_neg (by omega)]
 | n+1,0,k,_,_,hn=>by unfold climb;rw [if_neg (by omega)]
 | n+1,n'+1,k,hk,hn,hn'=>by
  unfold climb
  split
  ·rename_i hc
   have h1:=h k hc.1 hk;exact climb_more chart p m h n n' (par chart k) (by omega) (by omega) (by omega)
  ·rfl
theorem anc_more (chart:List Acc) (m:Int) (h:∀ j:Int,0≤j→j < m→par chart j < j):∀ (n n':Nat) (k:Int),0≤k→k < m→k+1≤n→k+1≤n'→anc chart n k=anc chart n' k
 | 0,_,k,h0,_,hn,_=>by omega
 | n+1,0,k,h0,_,_,hn=>by omega
 | n+1,n'+1,k,h0,hk,hn,hn'=>by
  unfold anc
  split
  ·rename_i hc
   have h1:=h k h0 hk;rw [anc_more chart m h n n' (par chart k) hc (by omega) (by omega) (by omega)]
  ·rfl
theorem rows_par {chart:List Acc} {m:Int} (h:rowsOk chart m):∀ j:Int,0≤j→j < m→par chart j < j:=by
 have:∀ n:Nat,(n:Int)≤m→∀ j:Int,0≤j→j < n→par chart j < j:=by
  intro n
  induction n with
  | zero=>intro _ j h0 h1;omega
  | succ n ih =>
   intro hn j h0 h1;have ih':=ih (by omega);by_cases hj:j < n
   ·exact ih' j h0 hj
   ·have hj':j=n:=by omega
    subst hj';obtain ⟨_,_,_,hp⟩:=h n h0 (by omega);rcases hp with hp | ⟨hu,_⟩
    ·omega
    ·have h2:=climb_end chart (par chart n) n ih' ((n:Int).toNat) ((n:Int) - 1) (by omega) (by omega);have h3:=climb_le chart (par chart n) n ih' ((n:Int).toNat) ((n:Int) - 1) (by omega);unfold up at hu;rcases h2 with h2 | h2 <;> omega
 intro j h0 h1;exact this (j.toNat+1) (by omega) j h0 (by omega)
theorem rows_step {chart:List Acc} {i:Int} (h0:0≤i) (h:rowsOk chart i) (hr:rowOk chart i):rowsOk chart (i+1):=by
 intro j hj0 hj1;by_cases hj:j < i
 ·exact h j hj0 hj
 ·have:j=i:=by omega
  subst this;exact hr
theorem up_is {chart:List Acc} {i:Int} (h:rowsOk chart i) (h0:0≤i) (hu:0≤up chart i):up chart i=par chart i∧par chart i < i:=by
 have h1:=rows_par h;have h2:=climb_end chart (par chart i) i h1 i.toNat (i - 1) (by omega) (by omega);have h3:=climb_le chart (par chart i) i h1 i.toNat (i - 1) (by omega);unfold up at *;rcases h2 with h2 | h2 <;> omega
theorem deep_zero {chart:List Acc} {i:Int} (h:par chart i = -1):deepAt chart i=0:=by
 unfold deepAt anc;rw [if_neg (by omega)]
theorem deep_up {chart:List Acc} {i:Int} (h:rowsOk chart i) (h0:0≤i) (hu:0≤up chart i):deepAt chart i=deepAt chart (up chart i)+1:=by
 obtain ⟨e,hlt⟩:=up_is h h0 hu;rw [e] at hu;rw [e];show anc chart (i.toNat+1) i=_;unfold anc;rw [if_pos hu];unfold deepAt;rw [anc_more chart i (rows_par h) i.toNat ((par chart i).toNat+1) (par chart i) hu hlt (by omega) (by omega)]
def inB (a b c:Int):Bool:=decide (b≤a) && decide (a≤c)
theorem inB_true {a b c:Int}:inB a b c=true ↔ b≤a∧a≤c:=by simp [inB]
theorem inB_false {a b c:Int}:inB a b c=false ↔ ¬ (b≤a∧a≤c):=by rw [← inB_true];simp
theorem inB_of {a b c:Int} (h:b≤a∧a≤c):inB a b c=true:=inB_true.2 h
theorem inB_not {a b c:Int} (h:¬ (b≤a∧a≤c)):inB a b c=false:=inB_false.2 h
theorem name_step {s:ByteArray} {i:Int} (h0:0≤i) (h:nameUpto s i) (hb:true=nameB (bt s i)):nameUpto s (i+1):=by
 intro j hj0 hj1;by_cases e:j=i
 ·subst e;exact hb.symm
 ·exact h j hj0 (by omega)
open Classical in
theorem nameOk_true {s:ByteArray} {i:Int} (h1:1≤s.size) (h2:s.size≤20) (hi:(s.size:Int)≤i) (h:nameUpto s i):true=nameOk s:=by
 unfold nameOk
 symm
 rw [decide_eq_true_eq];exact ⟨h1,h2,fun j hj0 hj1=>h j hj0 (by omega)⟩
open Classical in
theorem nameOk_byte {s:ByteArray} {i:Int} (h0:0≤i) (h1:i < (s.size:Int)) (h:false=nameB (bt s i)):false=nameOk s:=by
 unfold nameOk
 symm
 rw [decide_eq_false_iff_not];rintro ⟨_,_,hn⟩;have:=hn i h0 h1;rw [← h] at this;cases this
open Classical in
theorem nameOk_size {s:ByteArray} (h:¬ (1≤s.size∧s.size≤20)):false=nameOk s:=by
 unfold nameOk
 symm
 rw [decide_eq_false_iff_not];exact fun q=>h ⟨q.1,q.2.1⟩
open Classical in
theorem chartOk_row {chart:List Acc} {i:Int} (h0:0≤i) (h1:i < (chart.length:Int)) (h:¬ rowOk chart i):chartOk chart=false:=by
 unfold chartOk;rw [decide_eq_false_iff_not];exact fun q=>h (q.2.2 i h0 h1)
open Classical in
theorem chartOk_len {chart:List Acc} (h:¬ (1≤chart.length∧chart.length≤120)):chartOk chart=false:=by
 unfold chartOk;rw [decide_eq_false_iff_not];exact fun q=>h ⟨q.1,q.2.1⟩
open Classical in
theorem chartOk_all {chart:List Acc} (h1:1≤chart.length) (h2:chart.length≤120) {i:Int} (hi:(chart.length:Int)≤i) (h:rowsOk chart i):chartOk chart=true:=by
 unfold chartOk;rw [decide_eq_true_eq];exact ⟨h1,h2,fun j h0 h1=>h j h0 (by omega)⟩
open Classical in
theorem chartOk_iff {chart:List Acc}:chartOk chart=true ↔ 1≤chart.length∧chart.length≤120∧rowsOk chart chart.length:=by
 unfold chartOk;rw [decide_eq_true_eq]
theorem rows_lo {chart:List Acc} {m:Int} (h:rowsOk chart m):∀ j:Int,0≤j→j < m→-1≤par chart j:=by
 intro j h0 h1;obtain ⟨_,_,_,hp⟩:=h j h0 h1;rcases hp with hp | ⟨hu,_⟩
 ·omega
 ·have:=up_is (fun q q0 q1=>h q q0 (by omega):rowsOk chart j) h0 hu;omega
theorem climb_go {chart:List Acc} {p k u:Int} {m:Int} (h:∀ j:Int,0≤j→j < m→par chart j < j) (h0:0≤k) (hk:k < m) (hp:k≠p) (hc:∀ n:Nat,k+1≤n→climb chart p n k=u):∀ n:Nat,par chart k+1≤n→climb chart p n (par chart k)=u:=by
 intro n hn;have h1:=h k h0 hk;have h2:=hc (k.toNat+1) (by omega);unfold climb at h2;rw [if_pos ⟨h0,hp⟩] at h2;rw [← h2];exact climb_more chart p m h _ _ _ (by omega) hn (by omega)
theorem climb_at {chart:List Acc} {p k u:Int} (h:¬ (0≤k∧k≠p)) (hc:∀ n:Nat,k+1≤n→climb chart p n k=u):u=k:=by
 rw [← hc (k+1).toNat (by omega)];cases (k+1).toNat with
 | zero=>rfl
 | succ n=>unfold climb;rw [if_neg h]
theorem anc_nonneg (chart:List Acc):∀ (n:Nat) (i:Int),0≤anc chart n i
 | 0,_=>Int.le_refl _
 | n+1,i=>by
  unfold anc
  split
  ·have:=anc_nonneg chart n (par chart i);omega
  ·omega
def leafP (chart:List Acc) (a:Int):Prop:=0≤a∧a < (chart.length:Int)∧(a+1=(chart.length:Int)∨par chart (a+1)≠a)
open Classical in
noncomputable def leafB (chart:List Acc) (a:Int):Bool:=decide (leafP chart a)
open Classical in
theorem leafB_true {chart:List Acc} {a:Int}:leafB chart a=true ↔ leafP chart a:=by unfold leafB;rw [decide_eq_true_eq]
theorem leafB_of {chart:List Acc} {a:Int} (h:leafP chart a):leafB chart a=true:=leafB_true.2 h
theorem leafB_not {chart:List Acc} {a:Int} (h:¬ leafP chart a):leafB chart a=false:=by
 cases hb:leafB chart a with
 | false=>rfl
 | true=>exact absurd (leafB_true.1 hb) h
theorem climb_hits {chart:List Acc} {p:Int} {m:Int} (h:∀ j:Int,0≤j→j < m→par chart j < j):∀ (n:Nat) (k:Int),k < m→p < k→0≤p→climb chart p n k=p→∃ q:Int,p < q∧q≤k∧par chart q=p
 | 0,k,_,h2,_,h3=>by unfold climb at h3;omega
 | n+1,k,h1,h2,h0,h3=>by
  unfold climb at h3;rw [if_pos ⟨by omega,by omega⟩] at h3;have hlt:=h k (by omega) h1;by_cases e:par chart k=p
  ·exact ⟨k,h2,by omega,e⟩
  ·have hge:p < par chart k:=by
    have:=climb_le chart p m h n (par chart k) (by omega);omega
   obtain ⟨q,q1,q2,q3⟩:=climb_hits h n (par chart k) (by omega) hge h0 h3;exact ⟨q,q1,by omega,q3⟩
theorem leaf_next {chart:List Acc} {m:Int} (hr:rowsOk chart m) {a:Int} (h0:0≤a):∀ n:Nat,∀ j:Int,j=n→j < m→par chart j=a→a+1 < m∧par chart (a+1)=a:=by
 intro n
 induction n using Nat.strongRecOn with
 | _ n ih =>
  intro j hj hm hp;have hj0:0≤j:=by omega
  have hlt:=rows_par hr j hj0 hm;by_cases e:j=a+1
  ·subst e;exact ⟨hm,hp⟩
  ·have hrj:rowsOk chart j:=fun q q0 q1=>hr q q0 (by omega)
   obtain ⟨_,_,_,hu⟩:=hr j hj0 hm;rcases hu with hu | ⟨hu,_⟩
   ·omega
   ·have h1:=(up_is hrj hj0 hu).1;unfold up at h1;rw [hp] at h1;obtain ⟨q,q1,q2,q3⟩:=climb_hits (rows_par hrj) j.toNat (j - 1) (by omega) (by omega) h0 h1;exact ih q.toNat (by omega) q (by omega) (by omega) q3
theorem leaf_iff {chart:List Acc} (hr:rowsOk chart chart.length) {a:Int} (h0:0≤a) (h1:a < (chart.length:Int)):(∀ j:Int,0≤j→j < (chart.length:Int)→par chart j≠a) ↔ leafP chart a:=by
 constructor
 ·intro h;refine ⟨h0,h1,?_⟩;by_cases e:a+1=(chart.length:Int)
  ·exact Or.inl e
  ·exact Or.inr (h (a+1) (by omega) (by omega))
 ·intro h j j0 j1 hp;obtain ⟨q1,q2⟩:=leaf_next hr h0 j.toNat j (by omega) j1 hp;rcases h.2.2 with e | e
  ·omega
  ·exact e q2
noncomputable def frameB (chart:List Acc) (dims curs:Int):Bool:=chartOk chart && (inB dims 1 20 && inB curs 1 20)
abbrev Lin:=S67
abbrev Ent:=S41
theorem infoEntry:(Tryz.prog.info? 41).map (fun i=>(i.zero,i.size,i.bytes))=some (some (.agg #[(.int .i64 0),(.int .i64 0),(.string ⟨#[]⟩),(.slice none 0 0)]),4,56):=by kernel_rfl
def lineP (chart:List Acc) (dims curs:Int) (x:Lin):Prop :=
 leafP chart x.f0∧(0≤x.f1∧x.f1≤dims - 1)∧(0≤x.f2∧x.f2≤curs - 1)∧(-100000000000≤x.f3∧x.f3≤100000000000)∧(-100000000000≤x.f4∧x.f4≤100000000000)∧(x.f2=0→x.f3=x.f4)
def curSum:List Lin→Int→Int
 | [],_=>0
 | x :: l,c=>(if x.f2=c then x.f3 else 0)+curSum l c
def dimSum:List Lin→Int→Int
 | [],_=>0
 | x :: l,d=>(if x.f1=d then x.f4 else 0)+dimSum l d
def textUpto (s:ByteArray) (i:Int):Prop:=∀ j:Int,0≤j→j < i→32≤bt s j
def entryP (chart:List Acc) (dims curs:Int) (e:Ent):Prop :=
 (0≤e.f0∧e.f0≤40000)∧(0≤e.f1∧e.f1≤1000)∧e.f2.size≤40∧(2≤e.f3.length∧e.f3.length≤60)∧textUpto e.f2 e.f2.size∧(∀ x∈e.f3,lineP chart dims curs x)∧(∀ x∈e.f3,curSum e.f3 x.f2=0∧dimSum e.f3 x.f1=0)
open Classical in
noncomputable def entryB (chart:List Acc) (dims curs:Int) (e:Ent):Bool:=decide (entryP chart dims curs e)
open Classical in
theorem entryB_true {chart:List Acc} {dims curs:Int} {e:Ent}:entryB chart dims curs e=true ↔ entryP chart dims curs e:=by unfold entryB;rw [decide_eq_true_eq]
theorem entryB_not {chart:List Acc} {dims curs:Int} {e:Ent} (h:¬ entryP chart dims curs e):false=entryB chart dims curs e:=by
 cases hb:entryB chart dims curs e with
 | false=>rfl
 | true=>exact absurd (entryB_true.1 hb) h
theorem curSum_snoc (l:List Lin) (x:Lin) (c:Int):curSum (l++[x]) c=curSum l c+if x.f2=c then x.f3 else 0:=by
 induction l with
 | nil=>simp [curSum]
 | cons y l ih=>simp only [List.cons_append,curSum,ih];omega
theorem dimSum_snoc (l:List Lin) (x:Lin) (c:Int):dimSum (l++[x]) c=dimSum l c+if x.f1=c then x.f4 else 0:=by
 induction l with
 | nil=>simp [dimSum]
 | cons y l ih=>simp only [List.cons_append,dimSum,ih];omega
def smallLines (l:List Lin):Prop:=∀ x∈l,(-100000000000≤x.f3∧x.f3≤100000000000)∧(-100000000000≤x.f4∧x.f4≤100000000000)
theorem curSum_small {l:List Lin} (h:smallLines l) (c:Int):-100000000000 * (l.length:Int)≤curSum l c∧curSum l c≤100000000000 * (l.length:Int):=by
 induction l with
 | nil=>simp [curSum]
 | cons y l ih =>
  have h1:=ih (fun x hx=>h x (List.mem_cons_of_mem _ hx));have h2:=(h y List.mem_cons_self).1;simp only [curSum,List.length_cons]
  split <;> (constructor <;> (push_cast;omega))
theorem dimSum_small {l:List Lin} (h:smallLines l) (c:Int):-100000000000 * (l.length:Int)≤dimSum l c∧dimSum l c≤100000000000 * (l.length:Int):=by
 induction l with
 | nil=>simp [dimSum]
 | cons y l ih =>
  have h1:=ih (fun x hx=>h x (List.mem_cons_of_mem _ hx));have h2:=(h y List.mem_cons_self).2;simp only [dimSum,List.length_cons]
  split <;> (constructor <;> (push_cast;omega))
noncomputable def sumsOf (l:List Lin) (p:Int × Int):Option Int:=open Classical in
 if p.1=0 then (if ∃ x∈l,x.f2=p.2 then some (curSum l p.2) else none)
 else if p.1=1 then (if ∃ x∈l,x.f1=p.2 then some (dimSum l p.2) else none) else none
theorem curSum_none {l:List Lin} {c:Int} (h:¬ ∃ x∈l,x.f2=c):curSum l c=0:=by
 induction l with
 | nil=>rfl
 | cons y l ih =>
  simp only [curSum];rw [if_neg (fun e=>h ⟨y,List.mem_cons_self,e⟩),ih (fun ⟨x,hx,e⟩=>h ⟨x,List.mem_cons_of_mem _ hx,e⟩)];rfl
theorem dimSum_none {l:List Lin} {c:Int} (h:¬ ∃ x∈l,x.f1=c):dimSum l c=0:=by
 induction l with
 | nil=>rfl
 | cons y l ih =>
  simp only [dimSum];rw [if_neg (fun e=>h ⟨y,List.mem_cons_self,e⟩),ih (fun ⟨x,hx,e⟩=>h ⟨x,List.mem_cons_of_mem _ hx,e⟩)];rfl
theorem sums_cur (l:List Lin) (c:Int):(sumsOf l (0,c)).getD 0=curSum l c:=by
 unfold sumsOf;simp only [if_true]
 split
 ·rfl
 ·rename_i h
  rw [curSum_none h];rfl
theorem sums_dim (l:List Lin) (c:Int):(sumsOf l (1,c)).getD 0=dimSum l c:=by
 unfold sumsOf;rw [if_neg (by simp),if_pos rfl]
 split
 ·rfl
 ·rename_i h
  rw [dimSum_none h];rfl
theorem sums_nil:sumsOf []=fun _=>none:=by
 funext p
 unfold sumsOf;simp
theorem sums_snoc (l:List Lin) (x:Lin):HMap.upd (HMap.upd (sumsOf l) (0,x.f2) (curSum l x.f2+x.f3)) (1,x.f1) (dimSum l x.f1+x.f4)=sumsOf (l++[x]):=by
 funext p
 obtain ⟨a,b⟩:=p;by_cases h1:(a,b)=(1,x.f1)
 ·rw [h1,HMap.upd_same];unfold sumsOf;rw [if_neg (by simp),if_pos rfl,if_pos ⟨x,by simp,rfl⟩,dimSum_snoc,if_pos rfl]
 ·rw [HMap.upd_other _ _ h1];by_cases h0:(a,b)=(0,x.f2)
  ·rw [h0,HMap.upd_same];unfold sumsOf;rw [if_pos rfl,if_pos ⟨x,by simp,rfl⟩,curSum_snoc,if_pos rfl]
  ·rw [HMap.upd_other _ _ h0];unfold sumsOf;by_cases ha:a=0
   ·subst ha;have hb:x.f2≠b:=fun e=>h0 (by rw [e])
    simp only [if_true];rw [curSum_snoc,if_neg hb,Int.add_zero]
    have he:(∃ y∈l++[x],y.f2=b) ↔ ∃ y∈l,y.f2=b:=by
     constructor
     ·rintro ⟨y,hy,e⟩;rcases List.mem_append.1 hy with hy | hy
      ·exact ⟨y,hy,e⟩
      ·simp at hy;subst hy;exact absurd e hb
     ·rintro ⟨y,hy,e⟩;exact ⟨y,List.mem_append_left _ hy,e⟩
    simp only [he]
   ·simp only [ha,if_false];by_cases ha1:a=1
    ·subst ha1;have hb:x.f1≠b:=fun e=>h1 (by rw [e])
     simp only [if_true];rw [dimSum_snoc,if_neg hb,Int.add_zero]
     have he:(∃ y∈l++[x],y.f1=b) ↔ ∃ y∈l,y.f1=b:=by
      constructor
      ·rintro ⟨y,hy,e⟩;rcases List.mem_append.1 hy with hy | hy
       ·exact ⟨y,hy,e⟩
       ·simp at hy;subst hy;exact absurd e hb
      ·rintro ⟨y,hy,e⟩;exact ⟨y,List.mem_append_left _ hy,e⟩
     simp only [he]
    ·simp only [ha1,if_false]
theorem sums_zero {l:List Lin}:(∀ p v,sumsOf l p=some v→v=0) ↔ ∀ x∈l,curSum l x.f2=0∧dimSum l x.f1=0:=by
 constructor
 ·intro h x hx
  constructor
  ·exact h (0,x.f2) _ (by unfold sumsOf;rw [if_pos rfl,if_pos ⟨x,hx,rfl⟩])
  ·exact h (1,x.f1) _ (by unfold sumsOf;rw [if_neg (by simp),if_pos rfl,if_pos ⟨x,hx,rfl⟩])
 ·intro h p v hv;unfold sumsOf at hv
  split at hv
  ·split at hv
   ·rename_i hx
    obtain ⟨x,hx,e⟩:=hx;cases hv;rw [← e];exact (h x hx).1
   ·cases hv
  ·split at hv
   ·split at hv
    ·rename_i hx
     obtain ⟨x,hx,e⟩:=hx;cases hv;rw [← e];exact (h x hx).2
    ·cases hv
   ·cases hv
noncomputable def spec_l1In.f (a0 a1 a2:Int):Option Bool:=some (inB a0 a1 a2)
set_option maxRecDepth 100000 in
theorem spec_l1In.to (a b c:Int) (w:World):Calls Tryz.prog 23 #[.int .i64 a,.int .i64 b,.int .i64 c] w fun e w'=>e = .returned (.bool (inB a b c))∧w'=w:=by
 go_enter Tryz.func23,Tryz.ntmps23
 go_wp2
 all_goals
  go_ret
  refine ⟨ret_bool ?_,rfl⟩;unfold inB;rw [Bool.eq_iff_iff];simp
  try omega
theorem spec_l1In.calls (a0 a1 a2:Int) (r:Bool) (w:World) (h:spec_l1In.f a0 a1 a2=some r) :
 Calls Tryz.prog 23 #[.int .i64 a0,.int .i64 a1,.int .i64 a2] w fun e w'=>e = .returned (.bool r)∧Drawn0 w w':=by
 obtain rfl:=Option.some.inj h;exact (spec_l1In.to a0 a1 a2 w).mono fun e w' ⟨he,hw⟩=>⟨he,hw ▸ Drawn0.refl _⟩
theorem deep_step {chart:List Acc} {a p:Int} (h:∀ j:Int,0≤j→j≤a→par chart j < j) (h0:0≤p) (h1:p≤a) (hp:0≤par chart p):deepAt chart p=deepAt chart (par chart p)+1:=by
 have hlt:=h p h0 h1;show anc chart (p.toNat+1) p=_;unfold anc;rw [if_pos hp];unfold deepAt;rw [anc_more chart (a+1) (fun j j0 j1=>h j j0 (by omega)) p.toNat ((par chart p).toNat+1) (par chart p) hp (by omega) (by omega) (by omega)]
set_option maxHeartbeats 4000000 in
set_option maxRecDepth 100000 in
theorem spec_l4Deep.to (A0:Option Addr) (c0:Nat) (l0:List Acc) (a:Int) (w:World) (hr0:Kd.C k48 w A0 l0.length l0) (h0:0≤a) (ha:a < (l0.length:Int)) (hn:l0.length≤120) (hrows:∀ j:Int,0≤j→j≤a→par l0 j < j) :
 Calls Tryz.prog 76 #[.slice A0 l0.length c0,.int .i64 a] w fun e w'=>e = .returned (.int .i64 (deepAt l0 a))∧w'=w:=by
 have H0:=Aside0.mk hr0;have HR:=Aside0.mk hrows;clear hr0 hrows
 go_enter Tryz.func76,Tryz.ntmps76
 go_wp2_with fail
 go_loop [1,5] (fun v u=>∃ p n:Int,0≤p∧p≤a∧v = .int .i64 p∧0≤n∧n+p≤a∧u = .int .i64 n∧Aside0 (n+deepAt l0 p=deepAt l0 a)) (fun v _=>(intOf v).toNat)
 case atStart=>exact ⟨a,0,h0,by omega,rfl,by omega,by omega,rfl,⟨by omega⟩⟩
 case round =>
  obtain ⟨p,n,hp0,hp1,rfl,hn0,hn1,rfl,HD⟩:=hrel;have hlt:p < (l0.length:Int):=by omega
  obtain ⟨ad,e0,x0,x1,x2⟩:=at_T48 H0.out p hp0 hlt;cases e0;by_cases hp:0≤(rd_T48 l0 p).f1
  ·have hs:=Aside0.mk (deep_step HR.out hp0 hp1 hp);have hlo:=HR.out p hp0 hp1;have HLO:=Aside0.mk hlo;have hlo':(rd_T48 l0 p).f1 < p:=hlo;clear hlo
   go_wp2_with fail
   go_round
   case rel=>exact ⟨(rd_T48 l0 p).f1,n+1,hp,by omega,rfl,by omega,by omega,rfl,⟨by have h1:=HD.out;have h2:=hs.out;show n+1+deepAt l0 (par l0 p)=_;omega⟩⟩
   case measure=>show (par l0 p).toNat < p.toNat;have:=HLO.out;have h9:0≤par l0 p:=hp;omega
  ·have hz:deepAt l0 p=0:=by
    unfold deepAt anc;exact if_neg hp
   have HZ:=Aside0.mk hz;clear hz;have hp':(rd_T48 l0 p).f1 < 0:=by omega
   go_wp2_with fail
   go_ret
   exact ⟨ret_i (by have h1:=HD.out;have h2:=HZ.out;omega),rfl⟩
set_option maxHeartbeats 4000000 in
set_option maxRecDepth 100000 in
theorem impl_nameByte.to (a0:Int) (w:World):Calls Tryz.prog 90 #[.int .u8 a0] w fun e w'=>e = .returned (.bool (nameB a0))∧w'=w:=by
 go_enter Tryz.func90,Tryz.ntmps90
 go_wp2
 all_goals
  go_ret
  refine ⟨ret_bool ?_,rfl⟩;unfold nameB;rw [Bool.eq_iff_iff];simp
  try omega
noncomputable def impl_between.f (a0 a1 a2:Int):Option Bool:=some (inB a0 a1 a2)
set_option maxRecDepth 100000 in
theorem impl_between.to (a b c:Int) (w:World):Calls Tryz.prog 26 #[.int .i64 a,.int .i64 b,.int .i64 c] w fun e w'=>e = .returned (.bool (inB a b c))∧w'=w:=by
 go_enter Tryz.func26,Tryz.ntmps26
 go_wp2
 all_goals
  go_ret
  refine ⟨ret_bool ?_,rfl⟩;unfold inB;rw [Bool.eq_iff_iff];simp
  try omega
theorem impl_between.calls (a0 a1 a2:Int) (r:Bool) (w:World) (h:impl_between.f a0 a1 a2=some r) :
 Calls Tryz.prog 26 #[.int .i64 a0,.int .i64 a1,.int .i64 a2] w fun e w'=>e = .returned (.bool r)∧Drawn0 w w':=by
 obtain rfl:=Option.some.inj h;exact (impl_between.to a0 a1 a2 w).mono fun e w' ⟨he,hw⟩=>⟨he,hw ▸ Drawn0.refl _⟩
set_option maxHeartbeats 4000000 in
set_option maxRecDepth 100000 in
theorem impl_leafAt.to (A0:Option Addr) (c0:Nat) (l0:List Acc) (a:Int) (w:World) (hr0:Kd.C k48 w A0 l0.length l0) :
 Calls Tryz.prog 28 #[.slice A0 l0.length c0,.int .i64 a] w fun e w'=>e = .returned (.bool (leafB l0 a))∧w'=w:=by
 have hl:=hr0.2.1;have H0:=Aside0.mk hr0;clear hr0;by_cases h0:0≤a
 ·by_cases h1:a < (l0.length:Int)
  ·by_cases h2:a+1=(l0.length:Int)
   ·have hb:(a+1 == (l0.length:Int))=true:=beq_iff_eq.2 h2;have HQ:=Aside0.mk (leafB_of (show leafP l0 a from ⟨h0,h1,Or.inl h2⟩));clear h2
    go_enter Tryz.func28,Tryz.ntmps28
    go_wp2_with fail
    go_ret
    exact ⟨ret_bool HQ.out.symm,rfl⟩
   ·have hb:(a+1 == (l0.length:Int))=false:=beq_eq_false_iff_ne.2 h2;have hn0:0≤a+1:=by omega
    have hn1:a+1 < (l0.length:Int):=by omega
    obtain ⟨ad,e0,x0,x1,x2⟩:=at_T48 H0.out (a+1) hn0 hn1;cases e0;by_cases h3:(rd_T48 l0 (a+1)).f1=a
    ·have hb3:((rd_T48 l0 (a+1)).f1 != a)=false:=by rw [h3];exact bne_self_eq_false' _
     have HQ:=Aside0.mk (leafB_not (show ¬ leafP l0 a from fun q=>by rcases q.2.2 with q | q;exact h2 q;exact q h3));clear h2 h3
     go_enter Tryz.func28,Tryz.ntmps28
     go_wp2_with fail
     go_ret
     exact ⟨ret_bool HQ.out.symm,rfl⟩
    ·have hb3:((rd_T48 l0 (a+1)).f1 != a)=true:=bne_iff_ne.2 h3;have HQ:=Aside0.mk (leafB_of (show leafP l0 a from ⟨h0,h1,Or.inr h3⟩));clear h2 h3
     go_enter Tryz.func28,Tryz.ntmps28
     go_wp2_with fail
     go_ret
     exact ⟨ret_bool HQ.out.symm,rfl⟩
  ·have HQ:=Aside0.mk (leafB_not (show ¬ leafP l0 a from fun q=>h1 q.2.1))
   go_enter Tryz.func28,Tryz.ntmps28
   go_wp2_with fail
   go_ret
   exact ⟨ret_bool HQ.out.symm,rfl⟩
 ·have HQ:=Aside0.mk (leafB_not (show ¬ leafP l0 a from fun q=>h0 q.1))
  go_enter Tryz.func28,Tryz.ntmps28
  go_wp2_with fail
  go_ret
  exact ⟨ret_bool HQ.out.symm,rfl⟩
mutual
noncomputable def spec_l5Numbers.l0:Nat→List Int→Int→Int→Int→ByteArray→List (S67)→Option (List Int)
 | 0,_,_,_,_,_,_=>none
 | k+1,x3,x4,x75002000,x75002001,x75002002,x75002003=>if x4 < (x75002002.size:Int) then (if 0≤x4 then (if x3.length < 17592186044416 then (spec_l5Numbers.l0 k (x3++[wrap64 (bt x75002002 x4)]) (wrap64 (x4+1)) x75002000 x75002001 x75002002 x75002003) else (none)) else (none)) else (if x3.length < 17592186044416 then (spec_l5Numbers.l1 k (x3++[(x75002003.length:Int)]) 0 x75002000 x75002001 x75002002 x75002003) else (none))
noncomputable def spec_l5Numbers.l1:Nat→List Int→Int→Int→Int→ByteArray→List (S67)→Option (List Int)
 | 0,_,_,_,_,_,_=>none
 | k+1,x3,x5,x75002000,x75002001,x75002002,x75002003=>if x5 < (x75002003.length:Int) then (if 0≤x5 then ((some (([(rd_T67 x75002003 x5).f0,(rd_T67 x75002003 x5).f1,(rd_T67 x75002003 x5).f2,(rd_T67 x75002003 x5).f3,(rd_T67 x75002003 x5).f4]:List Int):List Int)).bind fun y75013=>(if x3.length+y75013.length < 17592186044416 then (spec_l5Numbers.l1 k (x3++y75013) (wrap64 (x5+1)) x75002000 x75002001 x75002002 x75002003) else (none))) else (none)) else (some x3)
end
noncomputable def spec_l5Numbers.f (k:Nat) (a0_0:Int) (a0_1:Int) (a0_2:ByteArray) (l0_3:List (S67)):Option (List Int):=spec_l5Numbers.l0 k (([a0_0,a0_1,(a0_2.size:Int)]:List Int)) 0 a0_0 a0_1 a0_2 l0_3
set_option maxHeartbeats 8000000 in
set_option maxRecDepth 100000 in
theorem spec_l5Numbers.calls (k:Nat) (a0_0:Int) (a0_1:Int) (a0_2:ByteArray) (A0_3:Option Addr) (c0_3:Nat) (l0_3:List (S67)) (r:List Int) (w:World) (hr0_3:Kd.C k67 w A0_3 l0_3.length l0_3) (hc0_3:l0_3.length≤c0_3) (h:spec_l5Numbers.f k a0_0 a0_1 a0_2 l0_3=some r) :
 Calls Tryz.prog 74 #[.agg #[.int .i64 a0_0,.int .i64 a0_1,.string a0_2,.slice A0_3 l0_3.length c0_3]] w fun e w'=>∃ v0_:Value,e = .returned (v0_)∧Kd.R (Kd.int .i64) 3 w' w.heap.size (fun _=>True) v0_ r∧Below w.heap.size w w':=by
 have hu41:=Tryz.underlying41;have hu67:=Tryz.underlying67;have HR0_3:=Aside0.mk hr0_3;have HC0_3:=Aside0.mk hc0_3;clear hr0_3 hc0_3;have HB:=Aside0.mk (Below.refl w.heap.size w);have H:(spec_l5Numbers.l0 k (([a0_0,a0_1,(a0_2.size:Int)]:List Int)) 0 a0_0 a0_1 a0_2 l0_3)=some r:=h;clear h;obtain ⟨y75002,hy75002⟩:∃ y_:List Int,y_=(([a0_0,a0_1,(a0_2.size:Int)]:List Int)):=⟨_,rfl⟩;replace H:(spec_l5Numbers.l0 k y75002 0 a0_0 a0_1 a0_2 l0_3)=some r:=by (rw [hy75002];with_reducible exact H)
 have Ny75002:=Aside0.mk hy75002;clear hy75002;have H':=Aside0.mk H;clear H
 go_enter Tryz.func74,Tryz.ntmps74
 go_wp2_with (first | ((with_reducible refine gate_dst (N:=1) rfl ?_);refine box_event ?hg (N:=1) ?hd (cs:=#[.int .i64 a0_0,.int .i64 a0_1,.string a0_2,.slice A0_3 l0_3.length c0_3]) (t:=41) ?hr ?_;(case hd=>rfl);(case hg=>rfl);(case hr=>(go_simp;done));intro gb75001 hg w2 hbox hb;have n0_:=Aside0.mk (below_step HB.out hb);have n1_:=Aside0.mk (hbox);have n2_:=Aside0.mk ((by rw [hg];exact (below_size HB.out):w.heap.size≤gb75001));have n3_:=Aside0.mk ((by rw [hg];exact (below_size HB.out):w.heap.size≤gb75001));clear HB;have HB:=n0_;have BK75001:=n1_;have GW75001:=n2_;have GE75001:=n3_;clear n0_ n1_ n2_ n3_;clear hb hbox hg;have hcz3_0:w2.cell? ⟨gb75001,0,none⟩=some (.int .i64 a0_0):=(y00 BK75001.out 0).trans rfl;have hcz3_1:w2.cell? ⟨gb75001,1,none⟩=some (.int .i64 a0_1):=(y00 BK75001.out 1).trans rfl;have hcz3_2:w2.cell? ⟨gb75001,2,none⟩=some (.string a0_2):=(y00 BK75001.out 2).trans rfl;have hcz3_3:w2.cell? ⟨gb75001,3,none⟩=some (.slice A0_3 l0_3.length c0_3):=(y00 BK75001.out 3).trans rfl;have hfz3_0:=y02 BK75001.out 0;have hfz3_1:=y02 BK75001.out 1;have hfz3_2:=y02 BK75001.out 2;have hfz3_3:=y02 BK75001.out 3) | ((with_reducible refine gate_dst (N:=14) rfl ?_);refine Kd.R_lit (Kd.int .i64) _ 3 ?hg (N:=14) ?hd (xs:=([a0_0,a0_1,(a0_2.size:Int)]:List Int)) (inner:=[.int .i64 a0_0,.int .i64 a0_1,.int .i64 (a0_2.size:Int)]) (ok:=fun _=>True) (okp:=fun _=>True) ?hr ?hp (fun _ hk=>hk) trivial (Below.refl _ _) (Nat.le_refl _) (by simp) ?_;(case hd=>rfl);(case hg=>rfl);(case hr=>(go_simp;done));(case hp=>exact (Reps.one (show Kd.M (Kd.int .i64) _ _ _ a0_0 [.int .i64 a0_0] from rfl) (Reps.one (show Kd.M (Kd.int .i64) _ _ _ a0_1 [.int .i64 a0_1] from rfl) (Reps.one (show Kd.M (Kd.int .i64) _ _ _ (a0_2.size:Int) [.int .i64 (a0_2.size:Int)] from rfl) (Reps.none _ _)))));intro v75003 w4 ho5 hb hg_ hnew_;clear hg_ hnew_;(rw [← Ny75002.out] at ho5);have n0_:=Aside0.mk (Kd.R_lower ho5 (below_size HB.out));have n1_:=Aside0.mk (y03 (g:=gb75001) (o:=.cells #[.int .i64 a0_0,.int .i64 a0_1,.string a0_2,.slice A0_3 l0_3.length c0_3] 41 (0,0)) BK75001.out hb);have n2_:=Aside0.mk (below_step HB.out hb);clear BK75001;clear HB;have HO75004:=n0_;have BK75001:=n1_;have HB:=n2_;clear n0_ n1_ n2_;clear hb ho5))
 go_loopg [3,4] k (fun kq v3 v4 w'=>∃ (x3_1:List Int) (x4_1:Int),v4 = .int .i64 x4_1∧Aside0 (spec_l5Numbers.l0 kq x3_1 x4_1 a0_0 a0_1 a0_2 l0_3=some r)∧Aside0 (kq≤k)∧Aside0 (Kd.R (Kd.int .i64) 3 w' w.heap.size (fun _=>True) v3 x3_1)∧Aside0 (w'.heap[gb75001]?=some (.cells #[.int .i64 a0_0,.int .i64 a0_1,.string a0_2,(.slice A0_3 l0_3.length c0_3)] 41 (0,0)))∧Aside0 (Below w.heap.size w w'))
 case atStart=>exact ⟨(y75002),(0),(by rfl),H',⟨Nat.le_refl _⟩,⟨HO75004.out⟩,⟨BK75001.out⟩,⟨HB.out⟩⟩
 case round =>
  clear H';(try clear p2);(try clear hcz3_0);(try clear hcz3_1);(try clear hcz3_2);(try clear hcz3_3);(try clear hfz3_0);(try clear hfz3_1);(try clear hfz3_2);(try clear hfz3_3);obtain ⟨x3_1,x4_1,rfl,HA,HK1,HO_3,BK75001,HB⟩:=hrel;cases gk with
  | zero=>exact absurd HA.out (by simp [spec_l5Numbers.l0])
  | succ k1 =>
   have H:=HA.out;clear HA;simp only [spec_l5Numbers.l0] at H;by_cases c6:x4_1 < (a0_2.size:Int)
   ·rw [if_pos c6] at H;have c6b0:decide (x4_1 < (a0_2.size:Int))=true:=decide_eq_true c6;clear c6;by_cases c7:0≤x4_1
    ·rw [if_pos c7] at H;have c7b0:decide (0≤x4_1)=true:=decide_eq_true c7;clear c7;by_cases c9:x3_1.length < 17592186044416
     ·rw [if_pos c9] at H;have LMc9:=Aside0.mk c9;clear c9;obtain ⟨y75005,hy75005⟩:∃ y_:List Int,y_=(x3_1++[wrap64 (bt a0_2 x4_1)]):=⟨_,rfl⟩;replace H:(spec_l5Numbers.l0 k1 y75005 (wrap64 (x4_1+1)) a0_0 a0_1 a0_2 l0_3)=some r:=by (rw [hy75005];with_reducible exact H)
      have Ny75005:=Aside0.mk hy75005;clear hy75005;have H':=Aside0.mk H;clear H;have hcz10_0:wr.cell? ⟨gb75001,0,none⟩=some (.int .i64 a0_0):=(y00 BK75001.out 0).trans rfl;have hcz10_1:wr.cell? ⟨gb75001,1,none⟩=some (.int .i64 a0_1):=(y00 BK75001.out 1).trans rfl;have hcz10_2:wr.cell? ⟨gb75001,2,none⟩=some (.string a0_2):=(y00 BK75001.out 2).trans rfl;have hcz10_3:wr.cell? ⟨gb75001,3,none⟩=some (.slice A0_3 l0_3.length c0_3):=(y00 BK75001.out 3).trans rfl;have hfz10_0:=y02 BK75001.out 0;have hfz10_1:=y02 BK75001.out 1;have hfz10_2:=y02 BK75001.out 2;have hfz10_3:=y02 BK75001.out 3;have p8:0≤(x4_1:Int):=of_decide_eq_true (by (with_reducible assumption));have q8:x4_1 < (a0_2.size:Int):=of_decide_eq_true (by (with_reducible assumption));have hx8:=bt_at a0_2 x4_1;replace p8:=eq_true p8;replace q8:=eq_true q8
      go_wp2_with (((with_reducible refine gate_builtin (b:=.append) (xs:=#[.tmp 22,.tmp 28]) rfl ?_);at_builtin;refine Kd.R_append (Kd.int .i64) (w0:=w) w.heap.size rfl (.tmp 22) (.tmp 28) 42 3 (.int .i64 0) 8 rfl Tryz.underlying42 info3 rfl (by decide) (by omega) u3 x3_1 (wrap64 (bt a0_2 x4_1)) [.int .i64 (wrap64 (bt a0_2 x4_1))] (fun _=>True) (fun _=>False) rfl rfl ?aP (fun _ hk=>hk.elim) ?aF ?aO ?aB ?aS ?aL ?_;(case aP=>exact rfl);(case aB=>exact HB.out);(case aF=>exact (fun _ _=>trivial));(case aO=>exact HO_3.out);(case aS=>exact (below_size HB.out));(case aL=>have:=LMc9.out;omega);intro v75006 w11 ho hb hg hat;rw [← Ny75005.out] at ho;have n0_:=Aside0.mk (blk_grown (g:=gb75001) (o:=.cells #[.int .i64 a0_0,.int .i64 a0_1,.string a0_2,.slice A0_3 l0_3.length c0_3] 41 (0,0)) BK75001.out hg (Kd.R_ne HO_3.out BK75001.out (by decide)));have n1_:=Aside0.mk (hb);have n2_:=Aside0.mk (ho);clear BK75001;clear HB;clear HO_3;have BK75001:=n0_;have HB:=n1_;have HO75007:=n2_;clear n0_ n1_ n2_;clear ho hb hg hat))
      go_roundg k1
      case measure=>have:=HK1.out;omega
      case rel=>exact ⟨(y75005),(wrap64 (x4_1+1)),(by rfl),H',⟨by have:=HK1.out;omega⟩,⟨HO75007.out⟩,⟨BK75001.out⟩,⟨HB.out⟩⟩
     ·rw [if_neg c9] at H;exact absurd H (by simp)
    ·rw [if_neg c7] at H;exact absurd H (by simp)
   ·rw [if_neg c6] at H;have c6b0:decide (x4_1 < (a0_2.size:Int))=false:=decide_eq_false c6;clear c6;by_cases c12:x3_1.length < 17592186044416
    ·rw [if_pos c12] at H;have LMc12:=Aside0.mk c12;clear c12;obtain ⟨y75008,hy75008⟩:∃ y_:List Int,y_=(x3_1++[(l0_3.length:Int)]):=⟨_,rfl⟩;replace H:(spec_l5Numbers.l1 k1 y75008 0 a0_0 a0_1 a0_2 l0_3)=some r:=by (rw [hy75008];with_reducible exact H)
     have Ny75008:=Aside0.mk hy75008;clear hy75008;have H':=Aside0.mk H;clear H;have hcz13_0:wr.cell? ⟨gb75001,0,none⟩=some (.int .i64 a0_0):=(y00 BK75001.out 0).trans rfl;have hcz13_1:wr.cell? ⟨gb75001,1,none⟩=some (.int .i64 a0_1):=(y00 BK75001.out 1).trans rfl;have hcz13_2:wr.cell? ⟨gb75001,2,none⟩=some (.string a0_2):=(y00 BK75001.out 2).trans rfl;have hcz13_3:wr.cell? ⟨gb75001,3,none⟩=some (.slice A0_3 l0_3.length c0_3):=(y00 BK75001.out 3).trans rfl;have hfz13_0:=y02 BK75001.out 0;have hfz13_1:=y02 BK75001.out 1;have hfz13_2:=y02 BK75001.out 2;have hfz13_3:=y02 BK75001.out 3
     go_wp2_with (((with_reducible refine gate_builtin (b:=.append) (xs:=#[.tmp 30,.tmp 34]) rfl ?_);at_builtin;refine Kd.R_append (Kd.int .i64) (w0:=w) w.heap.size rfl (.tmp 30) (.tmp 34) 42 3 (.int .i64 0) 8 rfl Tryz.underlying42 info3 rfl (by decide) (by omega) u3 x3_1 (l0_3.length:Int) [.int .i64 (l0_3.length:Int)] (fun _=>True) (fun _=>False) rfl rfl ?aP (fun _ hk=>hk.elim) ?aF ?aO ?aB ?aS ?aL ?_;(case aP=>exact rfl);(case aB=>exact HB.out);(case aF=>exact (fun _ _=>trivial));(case aO=>exact HO_3.out);(case aS=>exact (below_size HB.out));(case aL=>have:=LMc12.out;omega);intro v75009 w14 ho hb hg hat;rw [← Ny75008.out] at ho;have n0_:=Aside0.mk (blk_grown (g:=gb75001) (o:=.cells #[.int .i64 a0_0,.int .i64 a0_1,.string a0_2,.slice A0_3 l0_3.length c0_3] 41 (0,0)) BK75001.out hg (Kd.R_ne HO_3.out BK75001.out (by decide)));have n1_:=Aside0.mk (hb);have n2_:=Aside0.mk (ho);clear BK75001;clear HB;clear HO_3;have BK75001:=n0_;have HB:=n1_;have HO75010:=n2_;clear n0_ n1_ n2_;clear ho hb hg hat))
     go_loopg [3,5] k1 (fun kq v3 v5 w'=>∃ (x3_2:List Int) (x5_2:Int),v5 = .int .i64 x5_2∧Aside0 (spec_l5Numbers.l1 kq x3_2 x5_2 a0_0 a0_1 a0_2 l0_3=some r)∧Aside0 (kq≤k1)∧Aside0 (Kd.R (Kd.int .i64) 3 w' w.heap.size (fun _=>True) v3 x3_2)∧Aside0 (w'.heap[gb75001]?=some (.cells #[.int .i64 a0_0,.int .i64 a0_1,.string a0_2,(.slice A0_3 l0_3.length c0_3)] 41 (0,0)))∧Aside0 (Below w.heap.size w w'))
     case atStart=>exact ⟨(y75008),(0),(by rfl),H',⟨Nat.le_refl _⟩,⟨HO75010.out⟩,⟨BK75001.out⟩,⟨HB.out⟩⟩
     case round =>
      clear H';(try clear c1);(try clear p2);(try clear c6);(try clear c6b0);(try clear p6);(try clear c7);(try clear c7b0);(try clear p8);(try clear q8);(try clear hx8);(try clear c9);(try clear c12);(try clear hcz10_0);(try clear hcz10_1);(try clear hcz10_2);(try clear hcz10_3);(try clear hcz13_0);(try clear hcz13_1);(try clear hcz13_2);(try clear hcz13_3);(try clear hcz3_0);(try clear hcz3_1);(try clear hcz3_2);(try clear hcz3_3);(try clear hfz10_0);(try clear hfz10_1);(try clear hfz10_2);(try clear hfz10_3);(try clear hfz13_0);(try clear hfz13_1);(try clear hfz13_2);(try clear hfz13_3);(try clear hfz3_0);(try clear hfz3_1);(try clear hfz3_2);(try clear hfz3_3);(try clear p2);(try clear p8);(try clear q8);obtain ⟨x3_2,x5_2,rfl,HA,HK2,HO_3,BK75001,HB⟩:=hrel;cases gk with
      | zero=>exact absurd HA.out (by simp [spec_l5Numbers.l1])
      | succ k2 =>
       have H:=HA.out;clear HA;simp only [spec_l5Numbers.l1] at H;by_cases c15:x5_2 < (l0_3.length:Int)
       ·rw [if_pos c15] at H;have c15b0:decide (x5_2 < (l0_3.length:Int))=true:=decide_eq_true c15;clear c15;by_cases c16:0≤x5_2
        ·rw [if_pos c16] at H;have c16b0:decide (0≤x5_2)=true:=decide_eq_true c16;clear c16;obtain ⟨y75013,hy75013⟩:∃ y_:List Int,y_=(([(rd_T67 l0_3 x5_2).f0,(rd_T67 l0_3 x5_2).f1,(rd_T67 l0_3 x5_2).f2,(rd_T67 l0_3 x5_2).f3,(rd_T67 l0_3 x5_2).f4]:List Int)):=⟨_,rfl⟩;replace H:(if x3_2.length+y75013.length < 17592186044416 then (spec_l5Numbers.l1 k2 (x3_2++y75013) (wrap64 (x5_2+1)) a0_0 a0_1 a0_2 l0_3) else (none))=some r:=by (have H2_:=(Option.bind_some _ _).symm.trans H;rw [hy75013];with_reducible exact H2_)
         have Ny75013:=Aside0.mk hy75013;clear hy75013;by_cases c17:x3_2.length+y75013.length < 17592186044416
         ·rw [if_pos c17] at H;have LMc17:=Aside0.mk c17;clear c17;obtain ⟨y75016,hy75016⟩:∃ y_:List Int,y_=(x3_2++y75013):=⟨_,rfl⟩;replace H:(spec_l5Numbers.l1 k2 y75016 (wrap64 (x5_2+1)) a0_0 a0_1 a0_2 l0_3)=some r:=by (rw [hy75016];with_reducible exact H)
          have Ny75016:=Aside0.mk hy75016;clear hy75016;have H':=Aside0.mk H;clear H;have hcz18_0:wr.cell? ⟨gb75001,0,none⟩=some (.int .i64 a0_0):=(y00 BK75001.out 0).trans rfl;have hcz18_1:wr.cell? ⟨gb75001,1,none⟩=some (.int .i64 a0_1):=(y00 BK75001.out 1).trans rfl;have hcz18_2:wr.cell? ⟨gb75001,2,none⟩=some (.string a0_2):=(y00 BK75001.out 2).trans rfl;have hcz18_3:wr.cell? ⟨gb75001,3,none⟩=some (.slice A0_3 l0_3.length c0_3):=(y00 BK75001.out 3).trans rfl;have hfz18_0:=y02 BK75001.out 0;have hfz18_1:=y02 BK75001.out 1;have hfz18_2:=y02 BK75001.out 2;have hfz18_3:=y02 BK75001.out 3;have p75011:0≤(x5_2:Int):=of_decide_eq_true (by (with_reducible assumption));have q75011:x5_2 < (l0_3.length:Int):=of_decide_eq_true (by (with_reducible assumption));obtain ⟨ad75011,e75011,hx75011_0,hx75011_1,hx75011_2,hx75011_3,hx75011_4⟩:=at_T67 HR0_3.out x5_2 p75011 q75011;cases e75011;replace hx75011_0:=(HB.out.cell (World.block_lt_of_cell? w _ hx75011_0)).trans hx75011_0;replace hx75011_1:=(HB.out.cell (World.block_lt_of_cell? w _ hx75011_1)).trans hx75011_1;replace hx75011_2:=(HB.out.cell (World.block_lt_of_cell? w _ hx75011_2)).trans hx75011_2;replace hx75011_3:=(HB.out.cell (World.block_lt_of_cell? w _ hx75011_3)).trans hx75011_3;replace hx75011_4:=(HB.out.cell (World.block_lt_of_cell? w _ hx75011_4)).trans hx75011_4;replace p75011:=eq_true p75011;replace q75011:=eq_true q75011
          go_wp2_with (first | ((with_reducible refine gate_dst (N:=6) rfl ?_);refine box_event ?hg (N:=6) ?hd (cs:=#[.int .i64 0,.int .i64 0,.int .i64 0,.int .i64 0,.int .i64 0]) (t:=67) ?hr ?_;(case hd=>rfl);(case hg=>rfl);(case hr=>(go_simp;done));intro gb75012 hg w19 hbox hb;have n0_:=Aside0.mk (Kd.R_below HO_3.out hb);have n1_:=Aside0.mk (y03 (g:=gb75001) (o:=.cells #[.int .i64 a0_0,.int .i64 a0_1,.string a0_2,.slice (some ad75011) l0_3.length c0_3] 41 (0,0)) BK75001.out hb);have n2_:=Aside0.mk (below_step HB.out hb);have n3_:=Aside0.mk (hbox);have n4_:=Aside0.mk ((by rw [hg];exact (below_size HB.out):w.heap.size≤gb75012));have n5_:=Aside0.mk ((by rw [hg];exact (below_size HB.out):w.heap.size≤gb75012));have n6_:=Aside0.mk ((by rw [hg];exact Nat.ne_of_lt (blk_lt (g:=gb75001) (o:=.cells #[.int .i64 a0_0,.int .i64 a0_1,.string a0_2,.slice (some ad75011) l0_3.length c0_3] 41 (0,0)) BK75001.out):gb75001≠gb75012));have n7_:=Aside0.mk ((by rw [hg];exact Nat.ne_of_gt (blk_lt (g:=gb75001) (o:=.cells #[.int .i64 a0_0,.int .i64 a0_1,.string a0_2,.slice (some ad75011) l0_3.length c0_3] 41 (0,0)) BK75001.out):gb75012≠gb75001));clear HO_3;clear BK75001;clear HB;have HO_3:=n0_;have BK75001:=n1_;have HB:=n2_;have BK75012:=n3_;have GW75012:=n4_;have GE75012:=n5_;have NB75001_75012:=n6_;have NB75012_75001:=n7_;clear n0_ n1_ n2_ n3_ n4_ n5_ n6_ n7_;clear hb hbox hg;have hnb20:=NB75012_75001.out;have hnc20:=NB75001_75012.out;have hcz21_0:w19.cell? ⟨gb75012,0,none⟩=some (.int .i64 0):=(y00 BK75012.out 0).trans rfl;have hcz21_1:w19.cell? ⟨gb75012,1,none⟩=some (.int .i64 0):=(y00 BK75012.out 1).trans rfl;have hcz21_2:w19.cell? ⟨gb75012,2,none⟩=some (.int .i64 0):=(y00 BK75012.out 2).trans rfl;have hcz21_3:w19.cell? ⟨gb75012,3,none⟩=some (.int .i64 0):=(y00 BK75012.out 3).trans rfl;have hcz21_4:w19.cell? ⟨gb75012,4,none⟩=some (.int .i64 0):=(y00 BK75012.out 4).trans rfl;have hfz21_0:=y02 BK75012.out 0;have hfz21_1:=y02 BK75012.out 1;have hfz21_2:=y02 BK75012.out 2;have hfz21_3:=y02 BK75012.out 3;have hfz21_4:=y02 BK75012.out 4) | ((with_reducible refine gate_dst (N:=59) rfl ?_);refine Kd.R_lit (Kd.int .i64) _ 3 ?hg (N:=59) ?hd (xs:=([(rd_T67 l0_3 x5_2).f0,(rd_T67 l0_3 x5_2).f1,(rd_T67 l0_3 x5_2).f2,(rd_T67 l0_3 x5_2).f3,(rd_T67 l0_3 x5_2).f4]:List Int)) (inner:=[.int .i64 ((rd_T67 l0_3 x5_2).f0),.int .i64 ((rd_T67 l0_3 x5_2).f1),.int .i64 ((rd_T67 l0_3 x5_2).f2),.int .i64 ((rd_T67 l0_3 x5_2).f3),.int .i64 ((rd_T67 l0_3 x5_2).f4)]) (ok:=fun _=>True) (okp:=fun _=>True) ?hr ?hp (fun _ hk=>hk) trivial (Below.refl _ _) (Nat.le_refl _) (by simp) ?_;(case hd=>rfl);(case hg=>rfl);(case hr=>(go_simp;done));(case hp=>exact (Reps.one (show Kd.M (Kd.int .i64) _ _ _ ((rd_T67 l0_3 x5_2).f0) [.int .i64 ((rd_T67 l0_3 x5_2).f0)] from rfl) (Reps.one (show Kd.M (Kd.int .i64) _ _ _ ((rd_T67 l0_3 x5_2).f1) [.int .i64 ((rd_T67 l0_3 x5_2).f1)] from rfl) (Reps.one (show Kd.M (Kd.int .i64) _ _ _ ((rd_T67 l0_3 x5_2).f2) [.int .i64 ((rd_T67 l0_3 x5_2).f2)] from rfl) (Reps.one (show Kd.M (Kd.int .i64) _ _ _ ((rd_T67 l0_3 x5_2).f3) [.int .i64 ((rd_T67 l0_3 x5_2).f3)] from rfl) (Reps.one (show Kd.M (Kd.int .i64) _ _ _ ((rd_T67 l0_3 x5_2).f4) [.int .i64 ((rd_T67 l0_3 x5_2).f4)] from rfl) (Reps.none _ _)))))));intro v75014 w22 ho23 hb hg_ hnew_;clear hg_ hnew_;(rw [← Ny75013.out] at ho23);have n0_:=Aside0.mk (Kd.R_elder' (by exact (Kd.R_mono (Kd.R_far (p:=⟨gb75012,4,none⟩) (Kd.R_far (p:=⟨gb75012,3,none⟩) (Kd.R_far (p:=⟨gb75012,2,none⟩) (Kd.R_far (p:=⟨gb75012,1,none⟩) (Kd.R_far (p:=⟨gb75012,0,none⟩) (Kd.R_types HO_3.out BK75012.out (by decide)) (fun _ hk=>hk.2) (.int .i64 ((rd_T67 l0_3 x5_2).f0))) (fun _ hk=>hk.2) (.int .i64 ((rd_T67 l0_3 x5_2).f1))) (fun _ hk=>hk.2) (.int .i64 ((rd_T67 l0_3 x5_2).f2))) (fun _ hk=>hk.2) (.int .i64 ((rd_T67 l0_3 x5_2).f3))) (fun _ hk=>hk.2) (.int .i64 ((rd_T67 l0_3 x5_2).f4))) (fun _ h_=>h_.1))) (Kd.R_base ho23) hb);have n1_:=Aside0.mk (Kd.R_lower (Kd.R_new' ho23 (Kd.R_lt (by exact (Kd.R_mono (Kd.R_far (p:=⟨gb75012,4,none⟩) (Kd.R_far (p:=⟨gb75012,3,none⟩) (Kd.R_far (p:=⟨gb75012,2,none⟩) (Kd.R_far (p:=⟨gb75012,1,none⟩) (Kd.R_far (p:=⟨gb75012,0,none⟩) (Kd.R_types HO_3.out BK75012.out (by decide)) (fun _ hk=>hk.2) (.int .i64 ((rd_T67 l0_3 x5_2).f0))) (fun _ hk=>hk.2) (.int .i64 ((rd_T67 l0_3 x5_2).f1))) (fun _ hk=>hk.2) (.int .i64 ((rd_T67 l0_3 x5_2).f2))) (fun _ hk=>hk.2) (.int .i64 ((rd_T67 l0_3 x5_2).f3))) (fun _ hk=>hk.2) (.int .i64 ((rd_T67 l0_3 x5_2).f4))) (fun _ h_=>h_.1))))) (below_size (by repeat ((with_reducible first | exact HB.out | refine below_set ?_ GE75012.out)))));have n2_:=Aside0.mk (y03 (g:=gb75001) (o:=.cells #[.int .i64 a0_0,.int .i64 a0_1,.string a0_2,.slice (some ad75011) l0_3.length c0_3] 41 (0,0)) (by refine blk_far ?_ NB75001_75012.out _;refine blk_far ?_ NB75001_75012.out _;refine blk_far ?_ NB75001_75012.out _;refine blk_far ?_ NB75001_75012.out _;refine blk_far ?_ NB75001_75012.out _;exact BK75001.out) hb);have n3_:=Aside0.mk (y03 (g:=gb75012) (o:=.cells #[.int .i64 ((rd_T67 l0_3 x5_2).f0),.int .i64 ((rd_T67 l0_3 x5_2).f1),.int .i64 ((rd_T67 l0_3 x5_2).f2),.int .i64 ((rd_T67 l0_3 x5_2).f3),.int .i64 ((rd_T67 l0_3 x5_2).f4)] 67 (0,0)) (by refine blk_put (cs:=#[.int .i64 ((rd_T67 l0_3 x5_2).f0),.int .i64 ((rd_T67 l0_3 x5_2).f1),.int .i64 ((rd_T67 l0_3 x5_2).f2),.int .i64 ((rd_T67 l0_3 x5_2).f3),.int .i64 0]) ?_ 4 _ rfl;refine blk_put (cs:=#[.int .i64 ((rd_T67 l0_3 x5_2).f0),.int .i64 ((rd_T67 l0_3 x5_2).f1),.int .i64 ((rd_T67 l0_3 x5_2).f2),.int .i64 0,.int .i64 0]) ?_ 3 _ rfl;refine blk_put (cs:=#[.int .i64 ((rd_T67 l0_3 x5_2).f0),.int .i64 ((rd_T67 l0_3 x5_2).f1),.int .i64 0,.int .i64 0,.int .i64 0]) ?_ 2 _ rfl;refine blk_put (cs:=#[.int .i64 ((rd_T67 l0_3 x5_2).f0),.int .i64 0,.int .i64 0,.int .i64 0,.int .i64 0]) ?_ 1 _ rfl;refine blk_put (cs:=#[.int .i64 0,.int .i64 0,.int .i64 0,.int .i64 0,.int .i64 0]) ?_ 0 _ rfl;exact BK75012.out) hb);have n4_:=Aside0.mk (below_step (by repeat ((with_reducible first | exact HB.out | refine below_set ?_ GE75012.out))) hb);clear HO_3;clear BK75001;clear BK75012;clear HB;have HO_3:=n0_;have HO75015:=n1_;have BK75001:=n2_;have BK75012:=n3_;have HB:=n4_;clear n0_ n1_ n2_ n3_ n4_;clear hb ho23;obtain ⟨Ao25,co25,eo25⟩:=Kd.R_slice HO75015.out;subst eo25) | ((with_reducible refine gate_builtin (b:=.append) (xs:=#[.tmp 48,.tmp 59]) rfl ?_);at_builtin;refine Kd.R_append_rows (Kd.int .i64) (w0:=w) w.heap.size rfl (.tmp 48) (.tmp 59) 42 3 (.int .i64 0) 8 rfl Tryz.underlying42 info3 rfl (by decide) (by omega) u3 x3_2 y75013 _ _ _ (fun k_=>some k_≠(.slice Ao25 y75013.length co25:Value).ownBlock) (fun _=>False) rfl rfl ?aO ?aR (fun _ _ h=>h) (fun _ h=>h.elim) ?aF ?aB ?aS ?aL ?_;(case aR=>repeat (exact (Kd.R_reads' HO75015.out).2.2));(case aB=>exact HB.out);(case aF=>exact (fun k_ hk=>Kd.fresh' (Kd.R_lt HO75015.out) k_ hk));(case aO=>exact (by exact Kd.R_mono HO_3.out (fun _ hk=>hk.2)));(case aS=>exact (below_size HB.out));(case aL=>have:=LMc17.out;omega);intro v75017 w24 ho hb hg hat;rw [← Ny75016.out] at ho;have n0_:=Aside0.mk (blk_grown (g:=gb75001) (o:=.cells #[.int .i64 a0_0,.int .i64 a0_1,.string a0_2,.slice (some ad75011) l0_3.length c0_3] 41 (0,0)) BK75001.out hg (Kd.R_ne HO_3.out BK75001.out (by decide)));have n1_:=Aside0.mk (blk_grown (g:=gb75012) (o:=.cells #[.int .i64 ((rd_T67 l0_3 x5_2).f0),.int .i64 ((rd_T67 l0_3 x5_2).f1),.int .i64 ((rd_T67 l0_3 x5_2).f2),.int .i64 ((rd_T67 l0_3 x5_2).f3),.int .i64 ((rd_T67 l0_3 x5_2).f4)] 67 (0,0)) BK75012.out hg (Kd.R_ne HO_3.out BK75012.out (by decide)));have n2_:=Aside0.mk (Kd.R_after (ok:=(fun _=>True)) HO75015.out hg hat);have n3_:=Aside0.mk (hb);have n4_:=Aside0.mk (ho);clear BK75001;clear BK75012;clear HO75015;clear HB;clear HO_3;have BK75001:=n0_;have BK75012:=n1_;have HO75015:=n2_;have HB:=n3_;have HO75018:=n4_;clear n0_ n1_ n2_ n3_ n4_;clear ho hb hg hat))
          go_roundg k2
          case measure=>have:=HK1.out;have:=HK2.out;omega
          case rel=>exact ⟨(y75016),(wrap64 (x5_2+1)),(by rfl),H',⟨by have:=HK1.out;have:=HK2.out;omega⟩,⟨by exact Kd.R_mono HO75018.out (fun _ hk=>trivial)⟩,⟨BK75001.out⟩,⟨HB.out⟩⟩
         ·rw [if_neg c17] at H;exact absurd H (by simp)
        ·rw [if_neg c16] at H;exact absurd H (by simp)
       ·rw [if_neg c15] at H;have c15b0:decide (x5_2 < (l0_3.length:Int))=false:=decide_eq_false c15;clear c15;obtain rfl:=Option.some.inj H;have hcz26_0:wr.cell? ⟨gb75001,0,none⟩=some (.int .i64 a0_0):=(y00 BK75001.out 0).trans rfl;have hcz26_1:wr.cell? ⟨gb75001,1,none⟩=some (.int .i64 a0_1):=(y00 BK75001.out 1).trans rfl;have hcz26_2:wr.cell? ⟨gb75001,2,none⟩=some (.string a0_2):=(y00 BK75001.out 2).trans rfl;have hcz26_3:wr.cell? ⟨gb75001,3,none⟩=some (.slice A0_3 l0_3.length c0_3):=(y00 BK75001.out 3).trans rfl;have hfz26_0:=y02 BK75001.out 0;have hfz26_1:=y02 BK75001.out 1;have hfz26_2:=y02 BK75001.out 2;have hfz26_3:=y02 BK75001.out 3
        go_wp2
        go_ret
        exact ⟨_,by first | rfl | (simp [errW_none,errW_some] <;> rfl) | (simp [*,errW_none,errW_some] <;> rfl),by exact HO_3.out,by exact HB.out⟩
    ·rw [if_neg c12] at H;exact absurd H (by simp)
noncomputable def impl_sumOf.l0:Nat→Int→List Int→Int→Int→Option (Int)
 | 0,_,_,_,_=>none
 | k+1,x3,x6,x7,x8=>if x8 < x7 then (if 0≤x8 then (if x8 < (x6.length:Int) then (impl_sumOf.l0 k (wrap64 (x3+(rd x6 x8))) x6 x7 (wrap64 (x8+1))) else (none)) else (none)) else (some x3)
noncomputable def impl_sumOf.f (k:Nat) (l0:List Int):Option (Int):=impl_sumOf.l0 k 0 l0 (l0.length:Int) 0
set_option maxHeartbeats 8000000 in
set_option maxRecDepth 100000 in
theorem impl_sumOf.calls (k:Nat) (A0:Option Addr) (c0:Nat) (l0:List Int) (r:Int) (w:World) (hr0:Kd.C (Kd.int .i64) w A0 l0.length l0) (hc0:l0.length≤c0) (h:impl_sumOf.f k l0=some r) :
 Calls Tryz.prog 60 #[.slice A0 l0.length c0] w fun e w'=>e = .returned (.int .i64 r)∧Drawn0 w w':=by
 have HR0:=Aside0.mk hr0;have HC0:=Aside0.mk hc0;clear hr0 hc0;have H:(impl_sumOf.l0 k 0 l0 (l0.length:Int) 0)=some r:=h;clear h;have H':=Aside0.mk H;clear H
 go_enter Tryz.func60,Tryz.ntmps60
 go_wp2
 go_loopg [3,8] k (fun kq v3 v8 w'=>∃ (x3_1:Int) (x8_1:Int),v3 = .int .i64 x3_1∧v8 = .int .i64 x8_1∧Aside0 (impl_sumOf.l0 kq x3_1 l0 (l0.length:Int) x8_1=some r)∧Aside0 (kq≤k)∧Drawn0 w w')
 case atStart=>exact ⟨(0),(0),(by rfl),(by rfl),H',⟨Nat.le_refl _⟩,by repeat (exact Drawn0.refl _)⟩
 case round =>
  clear H';obtain ⟨x3_1,x8_1,rfl,rfl,HA,HK1,⟨m1,rfl⟩⟩:=hrel;cases gk with
  | zero=>exact absurd HA.out (by simp [impl_sumOf.l0])
  | succ k1 =>
   have H:=HA.out;clear HA;simp only [impl_sumOf.l0] at H;by_cases c2:x8_1 < (l0.length:Int)
   ·rw [if_pos c2] at H;have c2b0:decide (x8_1 < (l0.length:Int))=true:=decide_eq_true c2;clear c2;by_cases c3:0≤x8_1
    ·rw [if_pos c3] at H;have c3b0:decide (0≤x8_1)=true:=decide_eq_true c3;clear c3;by_cases c4:x8_1 < (l0.length:Int)
     ·rw [if_pos c4] at H;have c4b0:decide (x8_1 < (l0.length:Int))=true:=decide_eq_true c4;clear c4;have H':=Aside0.mk H;clear H;have p61001:0≤(x8_1:Int):=of_decide_eq_true (by (with_reducible assumption));have q61001:x8_1 < (l0.length:Int):=of_decide_eq_true (by (with_reducible assumption));obtain ⟨ad61001,e61001,hx61001_0⟩:=Kd.at_int HR0.out x8_1 p61001 q61001;cases e61001;replace p61001:=eq_true p61001;replace q61001:=eq_true q61001
      go_wp2
      go_roundg k1
      case measure=>have:=HK1.out;omega
      case rel=>exact ⟨(wrap64 (x3_1+(rd l0 x8_1))),(wrap64 (x8_1+1)),(by rfl),(by rfl),H',⟨by have:=HK1.out;omega⟩,by repeat (first | exact Drawn0.refl _ | apply Drawn0.step)⟩
     ·rw [if_neg c4] at H;exact absurd H (by simp)
    ·rw [if_neg c3] at H;exact absurd H (by simp)
   ·rw [if_neg c2] at H;have c2b0:decide (x8_1 < (l0.length:Int))=false:=decide_eq_false c2;clear c2;obtain rfl:=Option.some.inj H
    go_wp2
    go_ret
    exact ⟨by first | rfl | (simp;done) | (simp [*];done),by repeat (first | exact Drawn0.refl _ | apply Drawn0.step)⟩
noncomputable def laws_at.f (l0:List Int) (a1:Int):Option (Int):=if a1 < (l0.length:Int) then (if 0≤a1 then (some (wrap64 (rd l0 a1))) else (none)) else (some 0)
set_option maxHeartbeats 8000000 in
set_option maxRecDepth 100000 in
theorem laws_at.calls (A0:Option Addr) (c0:Nat) (l0:List Int) (a1:Int) (r:Int) (w:World) (hr0:Kd.C (Kd.int .u8) w A0 l0.length l0) (hc0:l0.length≤c0) (h:laws_at.f l0 a1=some r) :
 Calls Tryz.prog 6 #[.slice A0 l0.length c0,.int .i64 a1] w fun e w'=>e = .returned (.int .i64 r)∧Drawn0 w w':=by
 have HR0:=Aside0.mk hr0;have HC0:=Aside0.mk hc0;clear hr0 hc0;have H:(if a1 < (l0.length:Int) then (if 0≤a1 then (some (wrap64 (rd l0 a1))) else (none)) else (some 0))=some r:=h;clear h;by_cases c3:a1 < (l0.length:Int)
 ·rw [if_pos c3] at H;have c3b0:decide (a1 < (l0.length:Int))=true:=decide_eq_true c3;clear c3;by_cases c4:0≤a1
  ·rw [if_pos c4] at H;have c4b0:decide (0≤a1)=true:=decide_eq_true c4;clear c4;obtain rfl:=Option.some.inj H;have p7001:0≤(a1:Int):=of_decide_eq_true (by first | (with_reducible assumption) | assumption);have q7001:a1 < (l0.length:Int):=of_decide_eq_true (by first | (with_reducible assumption) | assumption);obtain ⟨ad7001,e7001,hx7001_0⟩:=Kd.at_int HR0.out a1 p7001 q7001;cases e7001;replace p7001:=eq_true p7001;replace q7001:=eq_true q7001
   go_enter Tryz.func6,Tryz.ntmps6
   go_wp2
   go_ret
   exact ⟨by first | rfl | (simp;done) | (simp [*];done),by repeat (first | exact Drawn0.refl _ | apply Drawn0.step)⟩
  ·rw [if_neg c4] at H;exact absurd H (by simp)
 ·rw [if_neg c3] at H;have c3b0:decide (a1 < (l0.length:Int))=false:=decide_eq_false c3;clear c3;obtain rfl:=Option.some.inj H
  go_enter Tryz.func6,Tryz.ntmps6
  go_wp2
  go_ret
  exact ⟨by first | rfl | (simp;done) | (simp [*];done),by repeat (first | exact Drawn0.refl _ | apply Drawn0.step)⟩
noncomputable def laws_big.f (l0:List Int):Option (Bool):=some (decide ((l0.length:Int) > 1048576))
set_option maxHeartbeats 8000000 in
set_option maxRecDepth 100000 in
theorem laws_big.calls (A0:Option Addr) (c0:Nat) (l0:List Int) (r:Bool) (w:World) (hr0:Kd.C (Kd.int .u8) w A0 l0.length l0) (hc0:l0.length≤c0) (h:laws_big.f l0=some r) :
 Calls Tryz.prog 4 #[.slice A0 l0.length c0] w fun e w'=>e = .returned (.bool r)∧Drawn0 w w':=by
 have HR0:=Aside0.mk hr0;have HC0:=Aside0.mk hc0;clear hr0 hc0;have H:(some (decide ((l0.length:Int) > 1048576)))=some r:=h;clear h;obtain rfl:=Option.some.inj H
 go_enter Tryz.func4,Tryz.ntmps4
 go_wp2
 go_ret
 exact ⟨by first | rfl | (simp;done) | (simp [*];done),by repeat (first | exact Drawn0.refl _ | apply Drawn0.step)⟩
end Go.Proofs.YtnknanppoenigaaGreatDoor.Q
namespace Go.Proofs.YtnknanppoenigaaGreatDoor.Q
open Go.RowKit Go.Proofs.YtnknanppoenigaaGreatDoorW.PrintWords Go.Proofs.YtnknanppoenigaaGreatDoorW.PrintLast Go.Proofs.YtnknanppoenigaaGreatDoorW.PrintMore
set_option linter.unusedVariables false
set_option linter.unusedSimpArgs false
section
variable {P:Program} {ops:Array Oper} {Q:Exit→Act→World→Prop} {S:World→Prop} {ds:List Nat}
theorem pa_ (i N:Nat) {oi:Oper} {v:Value} {fuel:Nat} {l:Array Bool} {a a':Act} {w:World} {T:Bool × List (List Nat × List Nat)} (hT:Aside0 (rtab .any ops=T)) (h:wpAnyLast P .any ops Q S ds fuel (l.setIfInBounds i true) a' w)
 (hi:ops[i]?=some oi:=by rfl) (hN:oi.dst=some N:=by rfl) (hc:anyT T l.toList (l.setIfInBounds i true).toList i=true:=by kernel_rfl)
 (hQ:∀ c a w,Q (.panic c) (a.put oi.dst v) w→Q (.panic c) a w:=by exact fun _ _ _ h=>h)
 (hw:Region.wanted oi (yielded ops a.tmps)=true:=by rfl)
 (hy:∀ w,(execOp a.eval oi).run P w = .ok (.value v) w:=by intro w';go_simp;with_reducible rfl)
 (ha:a.put (some N) v=a':=by simp only [Act.put,List.setIfInBounds_toArray,List.set_cons_zero,List.set_cons_succ,i64_w,i32_w];rfl) :
 wpAnyLast P .any ops Q S ds (fuel+1) l a w:=pure_ (l.setIfInBounds i true) hi hN (any_of hT.out hc) hQ (Or.inl ⟨hw,hy⟩) ha h
theorem pu_ (i N:Nat) {oi:Oper} {fuel:Nat} {l:Array Bool} {a a':Act} {w:World} {T:Bool × List (List Nat × List Nat)} (hT:Aside0 (rtab .any ops=T)) (h:wpAnyLast P .any ops Q S ds fuel (l.setIfInBounds i true) a' w)
 (hi:ops[i]?=some oi:=by rfl) (hN:oi.dst=some N:=by rfl) (hc:anyT T l.toList (l.setIfInBounds i true).toList i=true:=by kernel_rfl)
 (hQ:∀ c a w,Q (.panic c) (a.put oi.dst undef) w→Q (.panic c) a w:=by exact fun _ _ _ h=>h)
 (hw:Region.wanted oi (yielded ops a.tmps)=false:=by rfl)
 (ha:a.put (some N) undef=a':=by simp only [Act.put,List.setIfInBounds_toArray,List.set_cons_zero,List.set_cons_succ,i64_w,i32_w];rfl) :
 wpAnyLast P .any ops Q S ds (fuel+1) l a w:=pure_ (l.setIfInBounds i true) hi hN (any_of hT.out hc) hQ (Or.inr ⟨hw,rfl⟩) ha h
end
end Go.Proofs.YtnknanppoenigaaGreatDoor.Q
namespace Go.Proofs.YtnknanppoenigaaGreatDoor.Q
open Go.RowKit Go.Proofs.YtnknanppoenigaaGreatDoorW.PrintWords Go.Proofs.YtnknanppoenigaaGreatDoorW.PrintLast Go.Proofs.YtnknanppoenigaaGreatDoorW.PrintMore
attribute [local go_sem] max2_int min2_int max_two min_two max_three min_three max_four min_four
set_option linter.unusedVariables false
set_option linter.unusedSimpArgs false
noncomputable def spec_l1Abs.f (a0:Int):Option (Int):=if a0 < 0 then (some (wrap64 (-a0))) else (some a0)
set_option maxHeartbeats 8000000 in
set_option maxRecDepth 100000 in
theorem spec_l1Abs.calls (a0:Int) (r:Int) (w:World) (h:spec_l1Abs.f a0=some r) :
 Calls Tryz.prog 65 #[.int .i64 a0] w fun e w'=>e = .returned (.int .i64 r)∧Drawn0 w w':=by
 have H:(if a0 < 0 then (some (wrap64 (-a0))) else (some a0))=some r:=h;clear h;by_cases c2:a0 < 0
 ·rw [if_pos c2] at H;have c2b0:decide (a0 < 0)=true:=decide_eq_true c2;clear c2;obtain rfl:=Option.some.inj H
  go_enter Tryz.func65,Tryz.ntmps65
  go_wp2
  go_ret
  exact ⟨by first | rfl | (simp;done) | (simp [*];done),by repeat (first | exact Drawn0.refl _ | apply Drawn0.step)⟩
 ·rw [if_neg c2] at H;have c2b0:decide (a0 < 0)=false:=decide_eq_false c2;clear c2;obtain rfl:=Option.some.inj H
  go_enter Tryz.func65,Tryz.ntmps65
  go_wp2
  go_ret
  exact ⟨by first | rfl | (simp;done) | (simp [*];done),by repeat (first | exact Drawn0.refl _ | apply Drawn0.step)⟩
noncomputable def impl_PeriodAt.l0:Nat→Int→List (S63)→Int→Int→Option (Int)
 | 0,_,_,_,_=>none
 | k+1,x1,x10,x11,x12=>if x12 < x11 then (if 0≤x12 then (if x12 < (x10.length:Int) then (if ((rd_T63 x10 x12).f0)≤x1 then (if x1≤((rd_T63 x10 x12).f1) then (some x12) else (impl_PeriodAt.l0 k x1 x10 x11 (wrap64 (x12+1)))) else (impl_PeriodAt.l0 k x1 x10 x11 (wrap64 (x12+1)))) else (none)) else (none)) else (some (-1))
noncomputable def impl_PeriodAt.f (k:Nat) (l0:List (S63)) (a1:Int):Option (Int):=if (l0.length:Int) > 60 then (some (-1)) else (impl_PeriodAt.l0 k a1 l0 (l0.length:Int) 0)
set_option maxHeartbeats 8000000 in
set_option maxRecDepth 100000 in
theorem impl_PeriodAt.calls (k:Nat) (A0:Option Addr) (c0:Nat) (l0:List (S63)) (a1:Int) (r:Int) (w:World) (hr0:Kd.C k63 w A0 l0.length l0) (hc0:l0.length≤c0) (h:impl_PeriodAt.f k l0 a1=some r) :
 Calls Tryz.prog 68 #[.slice A0 l0.length c0,.int .i64 a1] w fun e w'=>e = .returned (.int .i64 r)∧Below w.heap.size w w':=by
 have hu63:=Tryz.underlying63;have HR0:=Aside0.mk hr0;have HC0:=Aside0.mk hc0;clear hr0 hc0;have HB:=Aside0.mk (Below.refl w.heap.size w);have H:(if (l0.length:Int) > 60 then (some (-1)) else (impl_PeriodAt.l0 k a1 l0 (l0.length:Int) 0))=some r:=h;clear h;by_cases c3:(l0.length:Int) > 60
 ·rw [if_pos c3] at H;have c3b0:decide (60 < (l0.length:Int))=true:=decide_eq_true c3;have c3b1:decide (60 < l0.length)=true:=decide_eq_true (by omega);clear c3;obtain rfl:=Option.some.inj H
  go_enter Tryz.func68,Tryz.ntmps68
  go_wp2
  go_ret
  exact ⟨by first | rfl | (simp [errW_none,errW_some] <;> rfl) | (simp [*,errW_none,errW_some] <;> rfl),by exact HB.out⟩
 ·rw [if_neg c3] at H;have c3b0:decide (60 < (l0.length:Int))=false:=decide_eq_false c3;have c3b1:decide (60 < l0.length)=false:=decide_eq_false (by omega);clear c3;have H':=Aside0.mk H;clear H
  go_enter Tryz.func68,Tryz.ntmps68
  go_wp2
  go_loopg [12] k (fun kq v12 w'=>∃ (x12_1:Int),v12 = .int .i64 x12_1∧Aside0 (impl_PeriodAt.l0 kq a1 l0 (l0.length:Int) x12_1=some r)∧Aside0 (kq≤k)∧Aside0 (Below w.heap.size w w'))
  case atStart=>exact ⟨(0),(by rfl),H',⟨Nat.le_refl _⟩,⟨HB.out⟩⟩
  case round =>
   clear H';(try clear p2);(try clear c3);(try clear c3b0);(try clear c3b1);obtain ⟨x12_1,rfl,HA,HK1,HB⟩:=hrel;cases gk with
   | zero=>exact absurd HA.out (by simp [impl_PeriodAt.l0])
   | succ k1 =>
    have H:=HA.out;clear HA;simp only [impl_PeriodAt.l0] at H;by_cases c4:x12_1 < (l0.length:Int)
    ·rw [if_pos c4] at H;have c4b0:decide (x12_1 < (l0.length:Int))=true:=decide_eq_true c4;clear c4;by_cases c5:0≤x12_1
     ·rw [if_pos c5] at H;have c5b0:decide (0≤x12_1)=true:=decide_eq_true c5;clear c5;by_cases c6:x12_1 < (l0.length:Int)
      ·rw [if_pos c6] at H;have c6b0:decide (x12_1 < (l0.length:Int))=true:=decide_eq_true c6;clear c6;by_cases c7:((rd_T63 l0 x12_1).f0)≤a1
       ·rw [if_pos c7] at H;have c7b0:decide (((rd_T63 l0 x12_1).f0)≤a1)=true:=decide_eq_true c7;clear c7;by_cases c8:a1≤((rd_T63 l0 x12_1).f1)
        ·rw [if_pos c8] at H;have c8b0:decide (a1≤((rd_T63 l0 x12_1).f1))=true:=decide_eq_true c8;clear c8;obtain rfl:=Option.some.inj H;have p69001:0≤(x12_1:Int):=of_decide_eq_true (by (with_reducible assumption));have q69001:x12_1 < (l0.length:Int):=of_decide_eq_true (by (with_reducible assumption));obtain ⟨ad69001,e69001,hx69001_0,hx69001_1⟩:=at_T63 HR0.out x12_1 p69001 q69001;cases e69001;replace hx69001_0:=(HB.out.cell (World.block_lt_of_cell? w _ hx69001_0)).trans hx69001_0;replace hx69001_1:=(HB.out.cell (World.block_lt_of_cell? w _ hx69001_1)).trans hx69001_1;replace p69001:=eq_true p69001;replace q69001:=eq_true q69001
         go_wp2_with (((with_reducible refine gate_dst (N:=6) rfl ?_);refine box_event ?hg (N:=6) ?hd (cs:=#[.int .i64 0,.int .i64 0]) (t:=63) ?hr ?_;(case hd=>rfl);(case hg=>rfl);(case hr=>(go_simp;done));intro gb69002 hg w9 hbox hb;have n0_:=Aside0.mk (below_step HB.out hb);have n1_:=Aside0.mk (hbox);have n2_:=Aside0.mk ((by rw [hg];exact (below_size HB.out):w.heap.size≤gb69002));have n3_:=Aside0.mk ((by rw [hg];exact (below_size HB.out):w.heap.size≤gb69002));clear HB;have HB:=n0_;have BK69002:=n1_;have GW69002:=n2_;have GE69002:=n3_;clear n0_ n1_ n2_ n3_;clear hb hbox hg;have hcz10_0:w9.cell? ⟨gb69002,0,none⟩=some (.int .i64 0):=(y00 BK69002.out 0).trans rfl;have hcz10_1:w9.cell? ⟨gb69002,1,none⟩=some (.int .i64 0):=(y00 BK69002.out 1).trans rfl;have hfz10_0:=y02 BK69002.out 0;have hfz10_1:=y02 BK69002.out 1))
         go_ret
         exact ⟨by first | rfl | (simp [errW_none,errW_some] <;> rfl) | (simp [*,errW_none,errW_some] <;> rfl),by repeat ((with_reducible first | exact HB.out | refine below_set ?_ GE69002.out))⟩
        ·rw [if_neg c8] at H;have c8b0:decide (a1≤((rd_T63 l0 x12_1).f1))=false:=decide_eq_false c8;clear c8;have H':=Aside0.mk H;clear H;have p69001:0≤(x12_1:Int):=of_decide_eq_true (by (with_reducible assumption));have q69001:x12_1 < (l0.length:Int):=of_decide_eq_true (by (with_reducible assumption));obtain ⟨ad69001,e69001,hx69001_0,hx69001_1⟩:=at_T63 HR0.out x12_1 p69001 q69001;cases e69001;replace hx69001_0:=(HB.out.cell (World.block_lt_of_cell? w _ hx69001_0)).trans hx69001_0;replace hx69001_1:=(HB.out.cell (World.block_lt_of_cell? w _ hx69001_1)).trans hx69001_1;replace p69001:=eq_true p69001;replace q69001:=eq_true q69001
         go_wp2_with (((with_reducible refine gate_dst (N:=6) rfl ?_);refine box_event ?hg (N:=6) ?hd (cs:=#[.int .i64 0,.int .i64 0]) (t:=63) ?hr ?_;(case hd=>rfl);(case hg=>rfl);(case hr=>(go_simp;done));intro gb69002 hg w11 hbox hb;have n0_:=Aside0.mk (below_step HB.out hb);have n1_:=Aside0.mk (hbox);have n2_:=Aside0.mk ((by rw [hg];exact (below_size HB.out):w.heap.size≤gb69002));have n3_:=Aside0.mk ((by rw [hg];exact (below_size HB.out):w.heap.size≤gb69002));clear HB;have HB:=n0_;have BK69002:=n1_;have GW69002:=n2_;have GE69002:=n3_;clear n0_ n1_ n2_ n3_;clear hb hbox hg;have hcz12_0:w11.cell? ⟨gb69002,0,none⟩=some (.int .i64 0):=(y00 BK69002.out 0).trans rfl;have hcz12_1:w11.cell? ⟨gb69002,1,none⟩=some (.int .i64 0):=(y00 BK69002.out 1).trans rfl;have hfz12_0:=y02 BK69002.out 0;have hfz12_1:=y02 BK69002.out 1))
         go_roundg k1
         case measure=>have:=HK1.out;omega
         case rel=>exact ⟨(wrap64 (x12_1+1)),(by rfl),H',⟨by have:=HK1.out;omega⟩,⟨by repeat ((with_reducible first | exact HB.out | refine below_set ?_ GE69002.out))⟩⟩
       ·rw [if_neg c7] at H;have c7b0:decide (((rd_T63 l0 x12_1).f0)≤a1)=false:=decide_eq_false c7;clear c7;have H':=Aside0.mk H;clear H;have p69001:0≤(x12_1:Int):=of_decide_eq_true (by (with_reducible assumption));have q69001:x12_1 < (l0.length:Int):=of_decide_eq_true (by (with_reducible assumption));obtain ⟨ad69001,e69001,hx69001_0,hx69001_1⟩:=at_T63 HR0.out x12_1 p69001 q69001;cases e69001;replace hx69001_0:=(HB.out.cell (World.block_lt_of_cell? w _ hx69001_0)).trans hx69001_0;replace hx69001_1:=(HB.out.cell (World.block_lt_of_cell? w _ hx69001_1)).trans hx69001_1;replace p69001:=eq_true p69001;replace q69001:=eq_true q69001
        go_wp2_with (((with_reducible refine gate_dst (N:=6) rfl ?_);refine box_event ?hg (N:=6) ?hd (cs:=#[.int .i64 0,.int .i64 0]) (t:=63) ?hr ?_;(case hd=>rfl);(case hg=>rfl);(case hr=>(go_simp;done));intro gb69002 hg w13 hbox hb;have n0_:=Aside0.mk (below_step HB.out hb);have n1_:=Aside0.mk (hbox);have n2_:=Aside0.mk ((by rw [hg];exact (below_size HB.out):w.heap.size≤gb69002));have n3_:=Aside0.mk ((by rw [hg];exact (below_size HB.out):w.heap.size≤gb69002));clear HB;have HB:=n0_;have BK69002:=n1_;have GW69002:=n2_;have GE69002:=n3_;clear n0_ n1_ n2_ n3_;clear hb hbox hg;have hcz14_0:w13.cell? ⟨gb69002,0,none⟩=some (.int .i64 0):=(y00 BK69002.out 0).trans rfl;have hcz14_1:w13.cell? ⟨gb69002,1,none⟩=some (.int .i64 0):=(y00 BK69002.out 1).trans rfl;have hfz14_0:=y02 BK69002.out 0;have hfz14_1:=y02 BK69002.out 1))
        go_roundg k1
        case measure=>have:=HK1.out;omega
        case rel=>exact ⟨(wrap64 (x12_1+1)),(by rfl),H',⟨by have:=HK1.out;omega⟩,⟨by repeat ((with_reducible first | exact HB.out | refine below_set ?_ GE69002.out))⟩⟩
      ·rw [if_neg c6] at H;exact absurd H (by simp)
     ·rw [if_neg c5] at H;exact absurd H (by simp)
    ·rw [if_neg c4] at H;have c4b0:decide (x12_1 < (l0.length:Int))=false:=decide_eq_false c4;clear c4;obtain rfl:=Option.some.inj H
     go_wp2
     go_ret
     exact ⟨by first | rfl | (simp [errW_none,errW_some] <;> rfl) | (simp [*,errW_none,errW_some] <;> rfl),by exact HB.out⟩
end Go.Proofs.YtnknanppoenigaaGreatDoor.Q
namespace Go.Proofs.YtnknanppoenigaaGreatDoor.Q
open Go.RowKit Go.Proofs.YtnknanppoenigaaGreatDoorW.PrintWords Go.Proofs.YtnknanppoenigaaGreatDoorW.PrintLast Go.Proofs.YtnknanppoenigaaGreatDoorW.PrintMore
set_option linter.unusedVariables false
set_option linter.unusedSimpArgs false
theorem wr1 {a:Int} (h0:0≤a) (h1:a≤4611686018427387904):wrap64 (a+1)=a+1:=by unfold wrap64;omega
theorem S_put2 {α:Type} {dd:Kd α} {e base g t:Nat} {W:World} {ok:Nat→Prop} {v:Value} {xs:List α} {cells:Array Value} (h:Kd.S dd e W base ok v xs) (hb:W.heap[g]?=some (.cells cells t (0,0))) (ht:∀ q,q∈e :: dd.E→q≠t) (u0 u1:Value):Kd.S dd e ((W.setCell ⟨g,0,none⟩ u0).setCell ⟨g,1,none⟩ u1) base ok v xs:=by
 refine Kd.S_mono (ok:=fun k=>ok k∧k≠g) ?_ (fun _ hk=>hk.1);refine Kd.S_far ?_ (fun _ hk=>hk.2) _;refine Kd.S_far ?_ (fun _ hk=>hk.2) _;exact Kd.S_types h hb ht
theorem below_put2 {W w:World} {g:Nat} (h:Below w.heap.size w W) (hg:w.heap.size≤g) (u0 u1:Value):Below w.heap.size w ((W.setCell ⟨g,0,none⟩ u0).setCell ⟨g,1,none⟩ u1):=by
 repeat (refine below_set ?_ hg)
 exact h
theorem below_start {w W w3:World} {B:Nat} (_:Below W.heap.size W w3) (h:Below B w W):w.heap.size≤W.heap.size:=h.size
theorem cell_alloc2 {W:World} {o o2:Obj} {p:Addr} {v:Value} (h:(W.alloc o).cell? p=some v) (hp:p.block < W.heap.size):(W.alloc o2).cell? p=some v:=by
 rw [World.cell?_alloc_lt _ _ _ hp] at h ⊢;exact h
theorem er_typeOf (v:Value) (w:World):(Extern.ReflectliteType.typeOf #[.iface 155 v]).run Tryz.prog w = .ok (.iface 142 (.agg #[.pointer (some ⟨5,155,none⟩)])) w:=by kernel_rfl
theorem er_cmp:∃ E:Array Value→Sem Value,(∀ (args:Array Value) (w:World),Sem.run Tryz.prog (callFunc 111 args) w=(Sem.run Tryz.prog (E args) w).andThen fun v w'=>Result.ok (Next.value v) w')∧∀ w:World,(E #[.agg #[.pointer (some ⟨5,155,none⟩)]]).run Tryz.prog w = .ok (.bool true) w :=
 ⟨Extern.ReflectliteType.method fun t=>do Go.Extern.Rtype.noPackHeld "Comparable" t;pure (.bool (← typeInfo t).comparable),@run_callFunc_extern Tryz.prog 111 _ _ Tryz.func111 (by kernel_rfl) (by kernel_rfl) (by kernel_rfl) (by kernel_rfl),fun w=>by kernel_rfl⟩
theorem er_mComparable (v:Value) (w:World):(Go.method 293 142 v "Comparable").run Tryz.prog w = .ok (111,v) w:=by kernel_rfl
theorem er_comp:(Tryz.prog.info? 155).map (·.comparable)=some true:=by kernel_rfl
theorem er_size:(Tryz.prog.info? 181).map (·.size)=some 1:=by kernel_rfl
theorem er_noIsE (v:Value) (xT:TypeId) (w:World):(Instr.typeAssert (.iface 155 v) xT 144 true).run Tryz.prog w = .ok (.tuple #[.nilIface,.bool false]) w:=run_typeAssert_lacksB Tryz.underlying144 (by kernel_rfl) (by kernel_rfl) v xT w
theorem er_noUnwrapE (v:Value) (xT:TypeId) (w:World):(Instr.typeAssert (.iface 155 v) xT 147 true).run Tryz.prog w = .ok (.tuple #[.nilIface,.bool false]) w:=run_typeAssert_lacksB Tryz.underlying147 (by kernel_rfl) (by kernel_rfl) v xT w
theorem er_noUnwrapsE (v:Value) (xT:TypeId) (w:World):(Instr.typeAssert (.iface 155 v) xT 149 true).run Tryz.prog w = .ok (.tuple #[.nilIface,.bool false]) w:=run_typeAssert_lacksB Tryz.underlying149 (by kernel_rfl) (by kernel_rfl) v xT w
theorem er_noIsW (v:Value) (xT:TypeId) (w:World):(Instr.typeAssert (.iface 112 v) xT 144 true).run Tryz.prog w = .ok (.tuple #[.nilIface,.bool false]) w:=run_typeAssert_lacksB Tryz.underlying144 (by kernel_rfl) (by kernel_rfl) v xT w
theorem er_hasUnwrapW (v:Value) (xT:TypeId) (w:World):(Instr.typeAssert (.iface 112 v) xT 147 true).run Tryz.prog w = .ok (.tuple #[.iface 112 v,.bool true]) w:=run_typeAssert_hasB Tryz.underlying147 (by kernel_rfl) v xT w
theorem er_mUnwrap (v:Value) (w:World):(Go.method 293 112 v "Unwrap").run Tryz.prog w = .ok (107,v) w:=by kernel_rfl
set_option maxRecDepth 100000 in
theorem er_nil (b:Addr) (w:World) :
 Calls Tryz.prog 69 #[.nilIface,.iface 155 (.pointer (some b))] w fun e w'=>e = .returned (.bool false)∧w'=w:=by
 have hn:=run_eql_iface_nil_left (P:=Tryz.prog) w 155 (.pointer (some b)) Tryz.underlying70
 go_enter Tryz.func69,Tryz.ntmps69
 go_wp2
 go_ret
 exact ⟨rfl,rfl⟩
set_option maxRecDepth 100000 in
theorem er_same (pb po:Nat) (b:Addr) (w:World) (h1:w.cell? ⟨pb,po+1,none⟩=some (.iface 155 (.pointer (some b)))) :
 Calls Tryz.prog 69 #[.iface 112 (.pointer (some ⟨pb,po,none⟩)),.iface 155 (.pointer (some b))] w fun e w'=>e = .returned (.bool true)∧w'=w:=by
 obtain ⟨i,hi,hcmp⟩:=Option.map_eq_some_iff.1 er_comp;obtain ⟨j,hj,hjs⟩:=Option.map_eq_some_iff.1 er_size;have h8:=@run_callFunc_extern Tryz.prog 78 _ Extern.ReflectliteType.typeOf Tryz.func78 (by kernel_rfl) (by kernel_rfl) (by kernel_rfl) (by kernel_rfl);obtain ⟨E,h32,cT⟩:=er_cmp;have tT:=er_typeOf;have mR:=er_mComparable;have nE:=er_noIsE;have uE:=er_noUnwrapE;have vE:=er_noUnwrapsE;have nW:=er_noIsW;have uW:=er_hasUnwrapW;have mU:=er_mUnwrap;have heq:=run_eql_iface_ptr_same (P:=Tryz.prog) w b Tryz.underlying70 Tryz.underlying155 hi hcmp hj;have hty:=run_eql_iface_types (P:=Tryz.prog) 112 155 (.pointer (some ⟨pb,po,none⟩)) (.pointer (some b)) Tryz.underlying70 (by decide) w
 go_enter Tryz.func69,Tryz.ntmps69
 go_wp2
 refine wp_loop_rounds 2 ?_;rw [rounds_succ]
 go_wp2
 rw [rounds_succ]
 go_wp2
 go_ret
 exact ⟨rfl,rfl⟩
set_option maxRecDepth 100000 in
theorem er_other (pb po:Nat) (b a:Addr) (ca cb:Array Value) (ta tb:TypeId) (w:World) (h1:w.cell? ⟨pb,po+1,none⟩=some (.iface 155 (.pointer (some a)))) (hne:a≠b) (ha:w.heap[a.block]?=some (.cells ca ta (0,0))) (hb:w.heap[b.block]?=some (.cells cb tb (0,0))) :
 Calls Tryz.prog 69 #[.iface 112 (.pointer (some ⟨pb,po,none⟩)),.iface 155 (.pointer (some b))] w fun e w'=>e = .returned (.bool false)∧w'=w:=by
 obtain ⟨i,hi,hcmp⟩:=Option.map_eq_some_iff.1 er_comp;obtain ⟨j,hj,hjs⟩:=Option.map_eq_some_iff.1 er_size;have h8:=@run_callFunc_extern Tryz.prog 78 _ Extern.ReflectliteType.typeOf Tryz.func78 (by kernel_rfl) (by kernel_rfl) (by kernel_rfl) (by kernel_rfl);obtain ⟨E,h32,cT⟩:=er_cmp;have tT:=er_typeOf;have mR:=er_mComparable;have nE:=er_noIsE;have uE:=er_noUnwrapE;have vE:=er_noUnwrapsE;have nW:=er_noIsW;have uW:=er_hasUnwrapW;have mU:=er_mUnwrap;have heq:=run_eql_iface_ptr_other (P:=Tryz.prog) w Tryz.underlying70 Tryz.underlying155 hi hcmp hj (by rw [hjs];decide) hne ha hb;have hty:=run_eql_iface_types (P:=Tryz.prog) 112 155 (.pointer (some ⟨pb,po,none⟩)) (.pointer (some b)) Tryz.underlying70 (by decide) w
 go_enter Tryz.func69,Tryz.ntmps69
 go_wp2
 refine wp_loop_rounds 2 ?_;rw [rounds_succ]
 go_wp2
 rw [rounds_succ]
 go_wp2
 go_ret
 exact ⟨rfl,rfl⟩
end Go.Proofs.YtnknanppoenigaaGreatDoor.Q
