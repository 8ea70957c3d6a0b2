/- Parts of the proof: what functions of the program and of the reference answer.
   No condition. -/
import Derived.Test.YtcblmhpebijmaaaDoorZDues1
import Derived.Test.YtcblmhpebijmaaaDoorZDues10
import Derived.Test.YtcblmhpebijmaaaDoorZDues11
import Derived.Test.YtcblmhpebijmaaaDoorZDues14
import Derived.Test.YtcblmhpebijmaaaDoorZDues4
import Derived.Test.YtcblmhpebijmaaaDoorZDues6
import Derived.Test.YtcblmhpebijmaaaDoorZDues8
import Derived.Test.YtcblmhpebijmaaaDoorZDues13
import Derived.Test.YtcblmhpebijmaaaDoorZDues16
import Derived.Test.YtcblmhpebijmaaaDoorZDues9
namespace Go.Proofs.YtcblmhpebijmaaaDoor.Q
open Go.RowKit Go.Proofs.YtcblmhpebijmaaaDoorW.PrintWords Go.Proofs.YtcblmhpebijmaaaDoorW.PrintLast Go.Proofs.YtcblmhpebijmaaaDoorW.PrintMore
set_option linter.unusedVariables false
set_option linter.unusedSimpArgs false
def leapB (y:Int):Bool:=if Int.tmod y 4=0 then (if Int.tmod y 100=0 then (Int.tmod y 400 == 0) else true) else (Int.tmod y 400 == 0)
def mLen (y m:Int):Int:=if m=2 then (if leapB y=true then 29 else 28) else if m=4 then 30 else if m=6 then 30 else if m=9 then 30 else if m=11 then 30 else 31
def yLen (y:Int):Int:=if leapB y=true then 366 else 365
def ySum:Nat→Int
 | 0=>0
 | n+1=>ySum n+yLen (2000+n)
def mSum (y:Int):Nat→Int
 | 0=>0
 | n+1=>mSum y n+mLen y (n+1)
theorem w64 {x:Int} (h:-9223372036854775808≤x∧x≤9223372036854775807):wrap64 x=x:=by unfold wrap64;omega
theorem mLen_b (y m:Int):28≤mLen y m∧mLen y m≤31:=by unfold mLen;split <;> (try split) <;> (try split) <;> (try split) <;> (try split) <;> omega
theorem yLen_b (y:Int):365≤yLen y∧yLen y≤366:=by unfold yLen;split <;> omega
theorem ySum_b (n:Nat):365 * (n:Int)≤ySum n∧ySum n≤366 * (n:Int):=by
 induction n with
 | zero=>simp [ySum]
 | succ n ih=>have:=yLen_b (2000+n);simp only [ySum];omega
theorem mSum_b (y:Int) (n:Nat):28 * (n:Int)≤mSum y n∧mSum y n≤31 * (n:Int):=by
 induction n with
 | zero=>simp [mSum]
 | succ n ih=>have:=mLen_b y (n+1);simp only [mSum];omega
theorem mSum12 (y:Int):mSum y 12=yLen y:=by
 have e:mSum y 12=31+(if leapB y=true then 29 else 28)+31+30+31+30+31+31+30+31+30+31:=by
  simp [mSum,mLen]
 rw [e];unfold yLen
 split <;> omega
theorem mSum_lt (y:Int) {a b:Nat} (h:a < b):mSum y a+mLen y (a+1)≤mSum y b:=by
 induction b with
 | zero=>omega
 | succ b ih =>
  have:=mLen_b y (b+1);by_cases e:a=b
  ·subst e;simp only [mSum];omega
  ·have:=ih (by omega);simp only [mSum];omega
theorem ySum_lt {a b:Nat} (h:a < b):ySum a+yLen (2000+a)≤ySum b:=by
 induction b with
 | zero=>omega
 | succ b ih =>
  have:=yLen_b (2000+b);by_cases e:a=b
  ·subst e;simp only [ySum];omega
  ·have:=ih (by omega);simp only [ySum];omega
def DateP (day:Int) (a b:Nat) (d:Int):Prop:=b < 12∧1≤d∧d≤mLen (2000+a) (b+1)∧ySum a+mSum (2000+a) b+(d - 1)=day
theorem DateP.year {day:Int} {a b:Nat} {d:Int} (h:DateP day a b d):ySum a≤day∧day < ySum a+yLen (2000+a):=by
 obtain ⟨h1,h2,h3,h4⟩:=h;have:=mSum_lt (2000+a) h1;rw [mSum12] at this;have:=mSum_b (2000+a) b;omega
theorem DateP.unique {day:Int} {a b a' b':Nat} {d d':Int} (h:DateP day a b d) (h':DateP day a' b' d'):a=a'∧b=b'∧d=d':=by
 have hy:=h.year;have hy':=h'.year
 have ea:a=a':=by
  rcases Nat.lt_trichotomy a a' with q | q | q
  ·have:=ySum_lt q;omega
  ·exact q
  ·have:=ySum_lt q;omega
 subst ea;obtain ⟨h1,h2,h3,h4⟩:=h;obtain ⟨h1',h2',h3',h4'⟩:=h'
 have eb:b=b':=by
  rcases Nat.lt_trichotomy b b' with q | q | q
  ·have:=mSum_lt (2000+a) q;omega
  ·exact q
  ·have:=mSum_lt (2000+a) q;omega
 subst eb;exact ⟨rfl,rfl,by omega⟩
theorem DateP.small {day:Int} {a b:Nat} {d:Int} (h:DateP day a b d) (hd:day≤40000):a≤110:=by
 have:=h.year;have:=ySum_b a;omega
def dayV (y m d:Int):Int:=if 2000≤y∧y≤2200∧1≤m∧m≤12∧1≤d∧d≤mLen y m then (if ySum (y - 2000).toNat+mSum y (m - 1).toNat+(d - 1)≤40000 then ySum (y - 2000).toNat+mSum y (m - 1).toNat+(d - 1) else -1) else -1
noncomputable def dateV (day:Int):Nat × Nat × Int:=open Classical in if h:∃ p:Nat × Nat × Int,DateP day p.1 p.2.1 p.2.2 then Classical.choose h else (0,0,0)
theorem dateV_is {day:Int} {a b:Nat} {d:Int} (h:DateP day a b d):dateV day=(a,b,d):=by
 have hx:∃ p:Nat × Nat × Int,DateP day p.1 p.2.1 p.2.2:=⟨(a,b,d),h⟩;unfold dateV;rw [dif_pos hx];obtain ⟨h1,h2,h3⟩:=(Classical.choose_spec hx).unique h
 ext <;> simp [h1,h2,h3]
theorem l2Leap_is (y:Int):spec_l2Leap.f y=some (leapB y):=by
 unfold spec_l2Leap.f leapB
 split
 ·split <;> rfl
 ·rfl
theorem l2Long_is (y m:Int):spec_l2Long.f y m=some (mLen y m):=by
 unfold spec_l2Long.f mLen;rw [l2Leap_is];simp only [Option.bind_some]
 split
 ·split <;> rfl
 ·split
  ·rfl
  ·split
   ·rfl
   ·split
    ·rfl
    ·split <;> rfl
theorem DateOf_step (k:Nat) (x y m:Int) (hx:0≤x∧x≤40000) (hy:0≤y∧y≤40000) (hm:0≤m∧m≤40000) :
 spec_DateOf.l0 (k+1) x y m=if x ≥ mLen y m then (if m+1=13 then spec_DateOf.l0 k (x - mLen y m) (y+1) 1 else spec_DateOf.l0 k (x - mLen y m) y (m+1)) else some (y,m,x+1):=by
 have hL:=mLen_b y m;rw [spec_DateOf.l0,l2Long_is,Option.bind_some,Option.bind_some];rw [w64 (x:=m+1) (by omega),w64 (x:=x - mLen y m) (by omega),w64 (x:=y+1) (by omega),w64 (x:=x+1) (by omega)]
theorem DateOf_l0 (day:Int) (hd:day≤40000) (n:Nat):∀ (k a b:Nat) (x:Int),x≤n→n < k→0≤x→b < 12→ySum a+mSum (2000+a) b+x=day →
 ∃ (a' b':Nat) (d:Int),DateP day a' b' d∧spec_DateOf.l0 k x (2000+a) (b+1)=some ((2000+a':Int),(b'+1:Int),d):=by
 induction n with
 | zero =>
  intro k a b x hxn hk hx hb he;obtain ⟨k,rfl⟩:∃ j,k=j+1:=⟨k - 1,by omega⟩;have hm:=mLen_b (2000+a) (b+1);have hya:=ySum_b a;have hmb:=mSum_b (2000+a) b;rw [DateOf_step k x (2000+a) (b+1) (by omega) (by omega) (by omega),if_neg (by omega)];exact ⟨a,b,x+1,⟨hb,by omega,by omega,by omega⟩,rfl⟩
 | succ n ih =>
  intro k a b x hxn hk hx hb he;obtain ⟨k,rfl⟩:∃ j,k=j+1:=⟨k - 1,by omega⟩;have hm:=mLen_b (2000+a) (b+1);have hya:=ySum_b a;have hmb:=mSum_b (2000+a) b;rw [DateOf_step k x (2000+a) (b+1) (by omega) (by omega) (by omega)];have e1:mSum (2000+a) (b+1)=mSum (2000+a) b+mLen (2000+a) (b+1):=rfl;by_cases c:x ≥ mLen (2000+a) (b+1)
  ·rw [if_pos c];by_cases c2:(b:Int)+1+1=13
   ·rw [if_pos c2];have h12:=mSum12 (2000+a);have eb:b+1=12:=by omega
    rw [eb] at e1;have e4:ySum (a+1)=ySum a+yLen (2000+a):=rfl;have e3:mSum (2000+((a+1:Nat):Int)) 0=0:=rfl;obtain ⟨a',b',d,h1,h2⟩:=ih k (a+1) 0 (x - mLen (2000+a) (b+1)) (by omega) (by omega) (by omega) (by omega) (by omega);refine ⟨a',b',d,h1,?_⟩;rw [← h2,show (2000:Int)+((a+1:Nat):Int)=2000+a+1 by omega,show ((0:Nat):Int)+1=1 by omega]
   ·rw [if_neg c2];obtain ⟨a',b',d,h1,h2⟩:=ih k a (b+1) (x - mLen (2000+a) (b+1)) (by omega) (by omega) (by omega) (by omega) (by omega);refine ⟨a',b',d,h1,?_⟩;rw [← h2,show ((b+1:Nat):Int)=(b:Int)+1 by omega]
  ·rw [if_neg c];exact ⟨a,b,x+1,⟨hb,by omega,by omega,by omega⟩,rfl⟩
theorem DateOf_is {day:Int} (h0:0≤day) (h1:day≤40000):∃ (a b:Nat) (d:Int),DateP day a b d∧dateV day=(a,b,d)∧spec_DateOf.f 40002 day=some ((2000+a:Int),(b+1:Int),d):=by
 obtain ⟨a,b,d,hp,he⟩:=DateOf_l0 day h1 40001 40002 0 0 day (by omega) (by omega) h0 (by omega) (by simp [ySum,mSum]);refine ⟨a,b,d,hp,dateV_is hp,?_⟩;unfold spec_DateOf.f spec_l2Day.f;simp only [Option.bind_some];rw [if_pos (by unfold inB;simp;omega)]
 simpa using he
theorem DayOf_l1 (y m d:Int) (hy:2000≤y∧y≤2200) (hm:1≤m∧m≤12) (n:Nat):∀ (k:Nat) (c:Nat) (x:Int),(c:Int)+1+n=m→n < k→0≤x→x≤80000+31 * (c:Int) →
 spec_DayOf.l1 k x (c+1) y m d=some (if x - mSum y c+mSum y (m - 1).toNat≤40000 then x - mSum y c+mSum y (m - 1).toNat else -1):=by
 induction n with
 | zero =>
  intro k c x hc hk hx hx2;obtain ⟨k,rfl⟩:∃ j,k=j+1:=⟨k - 1,by omega⟩;rw [spec_DayOf.l1,if_neg (by omega)];unfold spec_l2Day.f;simp only [Option.bind_some];have e:(m - 1).toNat=c:=by omega
  rw [e,show x - mSum y c+mSum y c=x by omega];by_cases q:x≤40000
  ·rw [inB_of ⟨hx,q⟩,if_pos rfl,if_pos q]
  ·rw [inB_false.2 (by omega),if_neg (by decide),if_neg q]
 | succ n ih =>
  intro k c x hc hk hx hx2;obtain ⟨k,rfl⟩:∃ j,k=j+1:=⟨k - 1,by omega⟩;have hL:=mLen_b y (c+1);have h1:=mSum_b y c;rw [spec_DayOf.l1,if_pos (by omega),l2Long_is,Option.bind_some,w64 (x:=x+mLen y (c+1)) (by omega),w64 (x:=(c:Int)+1+1) (by omega)];have e1:mSum y (c+1)=mSum y c+mLen y (c+1):=rfl;have:=ih k (c+1) (x+mLen y (c+1)) (by omega) (by omega) (by omega) (by omega);rw [show (c:Int)+1+1=((c+1:Nat):Int)+1 by omega,this,e1,show x+mLen y (c+1) - (mSum y c+mLen y (c+1))=x - mSum y c by omega]
theorem DayOf_l0 (y m d:Int) (hy:2000≤y∧y≤2200) (hm:1≤m∧m≤12) (hd:1≤d∧d≤31) (n:Nat):∀ (k c:Nat),2000+(c:Int)+n=y→n+20 < k →
 spec_DayOf.l0 k (ySum c+(d - 1)) (2000+c) y m d=some (if ySum (y - 2000).toNat+mSum y (m - 1).toNat+(d - 1)≤40000 then ySum (y - 2000).toNat+mSum y (m - 1).toNat+(d - 1) else -1):=by
 induction n with
 | zero =>
  intro k c hc hk;obtain ⟨k,rfl⟩:∃ j,k=j+1:=⟨k - 1,by omega⟩;have hyb:=ySum_b c;rw [spec_DayOf.l0,if_neg (by omega)];have:=DayOf_l1 y m d hy hm (m - 1).toNat k 0 (ySum c+(d - 1)) (by omega) (by omega) (by omega) (by omega);simp only [Int.natCast_zero,Int.zero_add] at this;rw [this];have e:(y - 2000).toNat=c:=by omega
  have e0:mSum y 0=0:=rfl;rw [e,e0,show ySum c+(d - 1) - 0+mSum y (m - 1).toNat=ySum c+mSum y (m - 1).toNat+(d - 1) by omega]
 | succ n ih =>
  intro k c hc hk;obtain ⟨k,rfl⟩:∃ j,k=j+1:=⟨k - 1,by omega⟩;have hyb:=ySum_b c;have e1:ySum (c+1)=ySum c+yLen (2000+c):=rfl;have:=ih k (c+1) (by omega) (by omega);rw [spec_DayOf.l0,if_pos (by omega),l2Leap_is,Option.bind_some,w64 (x:=ySum c+(d - 1)+365) (by omega),w64 (x:=ySum c+(d - 1)+365+1) (by omega),w64 (x:=2000+(c:Int)+1) (by omega)];rw [show (2000:Int)+((c+1:Nat):Int)=2000+c+1 by omega] at this;by_cases q:leapB (2000+c)=true
  ·rw [if_pos q,← this,e1];unfold yLen;rw [if_pos q,show ySum c+(d - 1)+365+1=ySum c+366+(d - 1) by omega]
  ·rw [if_neg q,← this,e1];unfold yLen;rw [if_neg q,show ySum c+(d - 1)+365=ySum c+365+(d - 1) by omega]
theorem DayOf_is (y m d:Int) (k:Nat) (hk:300 < k):spec_DayOf.f k y m d=some (dayV y m d):=by
 obtain ⟨k,rfl⟩:∃ j,k=j+1:=⟨k - 1,by omega⟩;unfold spec_DayOf.f spec_l1In.f dayV;simp only [Option.bind_some,l2Long_is];by_cases c1:2000≤y∧y≤2200
 ·rw [inB_of c1,if_pos rfl];by_cases c2:1≤m∧m≤12
  ·rw [inB_of c2,if_pos rfl];have hL:=mLen_b y m;by_cases c3:1≤d∧d≤mLen y m
   ·rw [inB_of c3,if_pos (by omega)];rw [spec_DayOf.j0,if_neg (by decide),w64 (x:=d - 1) (by omega)];have:=DayOf_l0 y m d c1 c2 (by omega) (y - 2000).toNat k 0 (by omega) (by omega);rw [← this];simp [ySum]
   ·rw [inB_false.2 c3,spec_DayOf.j0,if_pos (by decide),if_neg (by omega)]
  ·rw [inB_false.2 c2,if_neg (by decide),spec_DayOf.j0,if_pos rfl,if_neg (by omega)]
 ·rw [inB_false.2 c1,if_neg (by decide),spec_DayOf.j0,if_pos rfl,if_neg (by omega)]
noncomputable def endV (day:Int):Int:=if 0≤day∧day≤40000 then dayV (2000+(dateV day).1) ((dateV day).2.1+1) (mLen (2000+(dateV day).1) ((dateV day).2.1+1)) else -1
theorem MonthEnd_is (day:Int):spec_MonthEnd.f 40002 day=some (endV day):=by
 unfold spec_MonthEnd.f spec_l2Day.f endV;simp only [Option.bind_some];by_cases c:0≤day∧day≤40000
 ·obtain ⟨a,b,d,hp,he,hf⟩:=DateOf_is c.1 c.2;rw [inB_of c,if_pos rfl,if_pos c,hf,Option.bind_some];simp only [l2Long_is,Option.bind_some,he];rw [DayOf_is _ _ _ _ (by omega),Option.bind_some]
 ·rw [inB_false.2 c,if_neg (by decide),if_neg c]
def holUpto (hs:List Int) (i:Int):Prop:=∀ j:Int,0≤j→j < i→(0≤rd hs j∧rd hs j≤40000)∧(0 < j→rd hs (j - 1) < rd hs j)
open Classical in
noncomputable def calB (off:Int) (hs:List Int):Bool:=decide ((0≤off∧off≤126)∧hs.length≤400∧holUpto hs hs.length)
theorem calB_true {off:Int} {hs:List Int}:calB off hs=true ↔ (0≤off∧off≤126)∧hs.length≤400∧holUpto hs hs.length:=by unfold calB;exact @decide_eq_true_iff _ (_)
theorem calB_of {off:Int} {hs:List Int} (h:(0≤off∧off≤126)∧hs.length≤400∧holUpto hs hs.length):calB off hs=true:=calB_true.2 h
theorem calB_not {off:Int} {hs:List Int} (h:¬ ((0≤off∧off≤126)∧hs.length≤400∧holUpto hs hs.length)):calB off hs=false:=by
 cases hb:calB off hs with
 | false=>rfl
 | true=>exact absurd (calB_true.1 hb) h
theorem holUpto_step {hs:List Int} {i:Int} (h:holUpto hs i) (h1:0≤rd hs i∧rd hs i≤40000) (h2:0 < i→rd hs (i - 1) < rd hs i):holUpto hs (i+1):=fun j h0 hj=>by
 by_cases e:j=i
 ·subst e;exact ⟨h1,h2⟩
 ·exact h j h0 (by omega)
theorem spec_CalOk_l0 (off:Int) (hs:List Int) (h1:0≤off∧off≤126) (h2:hs.length≤400) (n:Nat):∀ (k:Nat) (i:Int),0≤i→i+n=(hs.length:Int)→n < k→holUpto hs i→spec_CalOk.l0 k i off hs=some (calB off hs):=by
 induction n with
 | zero =>
  intro k i h0 hi hk hu;obtain ⟨k,rfl⟩:∃ j,k=j+1:=⟨k - 1,by omega⟩;rw [spec_CalOk.l0,if_neg (by omega),calB_of ⟨h1,h2,by rw [show (hs.length:Int)=i by omega];exact hu⟩]
 | succ n ih =>
  intro k i h0 hi hk hu;obtain ⟨k,rfl⟩:∃ j,k=j+1:=⟨k - 1,by omega⟩;rw [spec_CalOk.l0,if_pos (by omega),if_pos h0];unfold spec_l2Day.f;rw [Option.bind_some,w64 (x:=i - 1) (by omega),w64 (x:=i+1) (by omega)];by_cases c:0≤rd hs i∧rd hs i≤40000
  ·rw [inB_of c,if_pos rfl];by_cases c2:i > 0
   ·rw [if_pos c2,if_pos (by omega),if_pos (by omega)];by_cases c3:rd hs (i - 1) ≥ rd hs i
    ·rw [if_pos c3,calB_not (fun h=>by have:=(h.2.2 i h0 (by omega)).2 c2;omega)]
    ·rw [if_neg c3];exact ih k (i+1) (by omega) (by omega) (by omega) (holUpto_step hu c (fun _=>by omega))
   ·rw [if_neg c2];exact ih k (i+1) (by omega) (by omega) (by omega) (holUpto_step hu c (fun h=>absurd h c2))
  ·rw [inB_false.2 c,if_neg (by decide),calB_not (fun h=>c (h.2.2 i h0 (by omega)).1)]
theorem spec_CalOk_is (off:Int) (hs:List Int) (k:Nat) (hk:500 < k):spec_CalOk.f k off hs=some (calB off hs):=by
 obtain ⟨k,rfl⟩:∃ j,k=j+1:=⟨k - 1,by omega⟩;unfold spec_CalOk.f spec_l1In.f;rw [Option.bind_some];by_cases c:0≤off∧off≤126
 ·rw [inB_of c,if_pos rfl,spec_CalOk.j0];by_cases c2:(hs.length:Int) > 400
  ·rw [decide_eq_true c2,if_pos rfl,calB_not (fun h=>by have:=h.2.1;omega)]
  ·rw [decide_eq_false c2,if_neg (by decide)];exact spec_CalOk_l0 off hs c (by omega) hs.length k 0 (by omega) (by omega) (by omega) (fun j h0 hj=>by omega)
 ·rw [inB_false.2 c,if_neg (by decide),spec_CalOk.j0,if_pos rfl,calB_not (fun h=>c h.1)]
theorem impl_CalOk_l0 (off:Int) (hs:List Int) (h1:0≤off∧off≤126) (h2:hs.length≤400) (n:Nat):∀ (k:Nat) (i:Int),0≤i→i+n=(hs.length:Int)→n < k→holUpto hs i→impl_CalOk.l0 k hs hs.length i off hs=some (calB off hs):=by
 induction n with
 | zero =>
  intro k i h0 hi hk hu;obtain ⟨k,rfl⟩:∃ j,k=j+1:=⟨k - 1,by omega⟩;rw [impl_CalOk.l0,if_neg (by omega),calB_of ⟨h1,h2,by rw [show (hs.length:Int)=i by omega];exact hu⟩]
 | succ n ih =>
  intro k i h0 hi hk hu;obtain ⟨k,rfl⟩:∃ j,k=j+1:=⟨k - 1,by omega⟩;rw [impl_CalOk.l0,if_pos (by omega),if_pos h0,if_pos (by omega)];unfold impl_isDay.f;rw [Option.bind_some,w64 (x:=i - 1) (by omega),w64 (x:=i+1) (by omega)];by_cases c:0≤rd hs i∧rd hs i≤40000
  ·rw [inB_of c,if_pos rfl];by_cases c2:i > 0
   ·rw [if_pos c2,if_pos (by omega),if_pos (by omega)];by_cases c3:rd hs (i - 1) ≥ rd hs i
    ·rw [if_pos c3,calB_not (fun h=>by have:=(h.2.2 i h0 (by omega)).2 c2;omega)]
    ·rw [if_neg c3];exact ih k (i+1) (by omega) (by omega) (by omega) (holUpto_step hu c (fun _=>by omega))
   ·rw [if_neg c2];exact ih k (i+1) (by omega) (by omega) (by omega) (holUpto_step hu c (fun h=>absurd h c2))
  ·rw [inB_false.2 c,if_neg (by decide),calB_not (fun h=>c (h.2.2 i h0 (by omega)).1)]
theorem impl_CalOk_is (off:Int) (hs:List Int) (k:Nat) (hk:500 < k):impl_CalOk.f k off hs=some (calB off hs):=by
 obtain ⟨k,rfl⟩:∃ j,k=j+1:=⟨k - 1,by omega⟩;unfold impl_CalOk.f impl_between.f;rw [Option.bind_some];by_cases c:0≤off∧off≤126
 ·rw [inB_of c,if_pos rfl,impl_CalOk.j0];by_cases c2:(hs.length:Int) > 400
  ·rw [decide_eq_true c2,if_pos rfl,calB_not (fun h=>by have:=h.2.1;omega)]
  ·rw [decide_eq_false c2,if_neg (by decide)];exact impl_CalOk_l0 off hs c (by omega) hs.length k 0 (by omega) (by omega) (by omega) (fun j h0 hj=>by omega)
 ·rw [inB_false.2 c,if_neg (by decide),impl_CalOk.j0,if_pos rfl,calB_not (fun h=>c h.1)]
def offB (off day:Int):Bool:=Go.bits .and .i64 (shr .i64 off (IntKind.u64.wrap (Int.tmod (day+5) 7))) 1 == 1
def hasB (hs:List Int) (day:Int):Bool:=decide (day∈hs)
def workB (off:Int) (hs:List Int) (day:Int):Bool:=inB day 0 40000 && (!offB off day && !hasB hs day)
theorem u64_mod {day:Int}:0≤IntKind.u64.wrap (Int.tmod (day+5) 7):=by
 show 0≤Int.tmod (day+5) 7 % 18446744073709551616;omega
def hasUpto (hs:List Int) (i day:Int):Prop:=∀ j:Int,0≤j→j < i→rd hs j≠day
theorem has_iff {hs:List Int} {day:Int}:day∈hs ↔ ∃ j:Int,0≤j∧j < (hs.length:Int)∧rd hs j=day:=by
 constructor
 ·intro h;obtain ⟨i,hi,e⟩:=List.getElem_of_mem h;refine ⟨i,by omega,by omega,?_⟩;unfold rd;rw [Int.toNat_natCast,List.getD_eq_getElem?_getD,List.getElem?_eq_getElem hi];exact e
 ·rintro ⟨j,h0,h1,rfl⟩;unfold rd;rw [List.getD_eq_getElem?_getD,List.getElem?_eq_getElem (by omega)];exact List.getElem_mem _
theorem hasB_of {hs:List Int} {j day:Int} (h0:0≤j) (h1:j < (hs.length:Int)) (h:rd hs j=day):hasB hs day=true:=by
 unfold hasB;exact decide_eq_true (has_iff.2 ⟨j,h0,h1,h⟩)
theorem hasB_not {hs:List Int} {day:Int} (h:hasUpto hs hs.length day):hasB hs day=false:=by
 unfold hasB
 exact decide_eq_false (fun hm=>by
  obtain ⟨j,h0,h1,e⟩:=has_iff.1 hm
  exact h j h0 h1 e)
theorem l2Work_l0 (off day:Int) (hs:List Int) (h2:hs.length≤400) (n:Nat):∀ (k:Nat) (i:Int),0≤i→i+n=(hs.length:Int)→n < k→hasUpto hs i day→spec_l2Work.l0 k day i off hs=some (!hasB hs day):=by
 induction n with
 | zero =>
  intro k i h0 hi hk hu;obtain ⟨k,rfl⟩:∃ j,k=j+1:=⟨k - 1,by omega⟩;rw [spec_l2Work.l0,if_neg (by omega),hasB_not (by rw [show (hs.length:Int)=i by omega];exact hu)];rfl
 | succ n ih =>
  intro k i h0 hi hk hu;obtain ⟨k,rfl⟩:∃ j,k=j+1:=⟨k - 1,by omega⟩;rw [spec_l2Work.l0,if_pos (by omega),if_pos h0,w64 (x:=i+1) (by omega)];by_cases c:rd hs i=day
  ·rw [if_pos c,hasB_of h0 (by omega) c];rfl
  ·rw [if_neg c]
   exact ih k (i+1) (by omega) (by omega) (by omega) (fun j h0 hj=>by
    by_cases e:j=i
    ·subst e;exact c
    ·exact hu j h0 (by omega))
theorem Weekday_is {day:Int} (h:0≤day∧day≤40000):spec_Weekday.f day=some (Int.tmod (day+5) 7):=by
 unfold spec_Weekday.f spec_l2Day.f;rw [Option.bind_some,inB_of h,if_pos rfl,w64 (x:=day+5) (by omega)]
theorem l2Work_is (off day:Int) (hs:List Int) (h:0≤day∧day≤40000) (h2:hs.length≤400) (k:Nat) (hk:500 < k):spec_l2Work.f k off hs day=some (workB off hs day):=by
 unfold spec_l2Work.f;rw [Weekday_is h,Option.bind_some,if_pos u64_mod];unfold workB;rw [inB_of h,Bool.true_and];by_cases c:Go.bits .and .i64 (shr .i64 off (IntKind.u64.wrap (Int.tmod (day+5) 7))) 1=1
 ·rw [if_pos c,show offB off day=true by unfold offB;rw [c];rfl];rfl
 ·rw [if_neg c,show offB off day=false by unfold offB;exact beq_eq_false_iff_ne.2 c,l2Work_l0 off day hs h2 hs.length k 0 (by omega) (by omega) (by omega) (fun j h0 hj=>by omega)];rfl
theorem impl_Weekday_is {day:Int} (h:0≤day∧day≤40000):impl_Weekday.f day=some (Int.tmod (day+5) 7):=by
 unfold impl_Weekday.f impl_isDay.f;rw [Option.bind_some,inB_of h,if_pos rfl,w64 (x:=day+5) (by omega)]
theorem hol_lt {hs:List Int} {m:Int} (h:holUpto hs m):∀ (n:Nat) (i:Int),0≤i→i+n+1 < m→rd hs i < rd hs (i+n+1):=by
 intro n
 induction n with
 | zero =>
  intro i h0 h1;have:=(h (i+1) (by omega) (by omega)).2 (by omega);rw [show i+1 - 1=i by omega] at this
  simpa using this
 | succ n ih =>
  intro i h0 h1;have a:=ih i h0 (by omega);have b:=(h (i+n+1+1) (by omega) (by omega)).2 (by omega);rw [show i+(n:Int)+1+1 - 1=i+n+1 by omega] at b;rw [show i+((n+1:Nat):Int)+1=i+n+1+1 by omega];omega
theorem hol_le {hs:List Int} {m:Int} (h:holUpto hs m) {i j:Int} (h0:0≤i) (hij:i < j) (h1:j < m):rd hs i < rd hs j:=by
 have:=hol_lt h (j - i - 1).toNat i h0 (by omega);rw [show i+((j - i - 1).toNat:Int)+1=j by omega] at this;exact this
theorem works_l0 (off day:Int) (hs:List Int) (h2:hs.length≤400) (hh:holUpto hs hs.length) (n:Nat):∀ (k:Nat) (lo hi:Int),0≤lo→lo≤hi→hi≤(hs.length:Int)→hi - lo≤n→n < k →
 (∀ j:Int,0≤j→j < lo→rd hs j < day)→(∀ j:Int,hi≤j→j < (hs.length:Int)→day≤rd hs j)→impl_works.l0 k day lo hi off hs=some (!hasB hs day):=by
 induction n with
 | zero =>
  intro k lo hi h0 hlh hhl hn hk hlo hhi;obtain ⟨k,rfl⟩:∃ j,k=j+1:=⟨k - 1,by omega⟩;obtain rfl:lo=hi:=by omega
  rw [impl_works.l0,if_neg (by omega)];by_cases c:lo=(hs.length:Int)
  ·rw [if_pos c,hasB_not (fun j a b=>by have:=hlo j a (by omega);omega)];rfl
  ·rw [if_neg c,if_pos h0,if_pos (by omega)];by_cases e:rd hs lo=day
   ·rw [hasB_of h0 (by omega) e,e];simp
   ·rw [hasB_not (fun j a b=>?_)]
    ·simp [e]
    ·by_cases q:j < lo
     ·have:=hlo j a q;omega
     ·by_cases q2:j=lo
      ·subst q2;exact e
      ·have h3:=hol_le hh h0 (show lo < j by omega) b;have h4:=hhi lo (by omega) (by omega);omega
 | succ n ih =>
  intro k lo hi h0 hlh hhl hn hk hlo hhi;obtain ⟨k,rfl⟩:∃ j,k=j+1:=⟨k - 1,by omega⟩;by_cases c:lo < hi
  ·have hm:Int.tdiv (lo+hi) 2=(lo+hi) / 2:=Int.tdiv_eq_ediv_of_nonneg (by omega);rw [impl_works.l0,if_pos c,w64 (x:=lo+hi) (by omega),hm,w64 (x:=(lo+hi) / 2) (by omega),if_pos (by omega),if_pos (by omega),w64 (x:=(lo+hi) / 2+1) (by omega)];by_cases q:rd hs ((lo+hi) / 2) < day
   ·rw [if_pos q];refine ih k _ _ (by omega) (by omega) hhl (by omega) (by omega) (fun j a b=>?_) hhi;by_cases e:j=(lo+hi) / 2
    ·subst e;exact q
    ·have:=hol_le hh a (show j < (lo+hi) / 2 by omega) (by omega);omega
   ·rw [if_neg q];refine ih k _ _ h0 (by omega) (by omega) (by omega) (by omega) hlo (fun j a b=>?_);by_cases e:j=(lo+hi) / 2
    ·subst e;omega
    ·have:=hol_le hh (show 0≤(lo+hi) / 2 by omega) (show (lo+hi) / 2 < j by omega) b;omega
  ·exact ih k lo hi h0 hlh hhl (by omega) (by omega) hlo hhi |> fun h=>by
    have h':=ih (k+1) lo hi h0 hlh hhl (by omega) (by omega) hlo hhi;exact h'
theorem works_is (off day:Int) (hs:List Int) (h:calB off hs=true) (k:Nat) (hk:500 < k):impl_works.f k off hs day=some (workB off hs day):=by
 obtain ⟨k,rfl⟩:∃ j,k=j+1:=⟨k - 1,by omega⟩;obtain ⟨h1,h2,h3⟩:=calB_true.1 h;unfold impl_works.f impl_isDay.f workB;rw [Option.bind_some];by_cases c:0≤day∧day≤40000
 ·rw [inB_of c,if_pos rfl,impl_Weekday_is c,Option.bind_some,if_pos u64_mod,Bool.true_and,impl_works.j0];show (if offB off day=true then _ else _)=_;cases e:offB off day with
  | true=>rfl
  | false =>
   rw [if_neg (by decide),works_l0 off day hs h2 h3 hs.length k 0 hs.length (by omega) (by omega) (by omega) (by omega) (by omega) (fun j a b=>by omega) (fun j a b=>by omega)];rfl
 ·rw [inB_false.2 c,if_neg (by decide),impl_works.j0,if_pos rfl];rfl
noncomputable def wkGo (off:Int) (hs:List Int):Nat→Int→Int
 | 0,_=>-1
 | n+1,d=>if d≤40000 then (if workB off hs d=true then d else wkGo off hs n (d+1)) else -1
noncomputable def addV (off:Int) (hs:List Int) (d:Int):Int:=if calB off hs=true∧0≤d∧d≤40000 then wkGo off hs 40002 d else -1
theorem AddWork_l0 (off:Int) (hs:List Int) (h2:hs.length≤400) (n:Nat):∀ (k:Nat) (d:Int),0≤d→40001≤d+n→d≤40001→n+600 < k→spec_AddWork.l0 k (d - 1) 1 1 off hs=some (wkGo off hs (n+1) d):=by
 induction n with
 | zero =>
  intro k d h0 hn hd hk;obtain ⟨k,rfl⟩:∃ j,k=j+1:=⟨k - 1,by omega⟩;rw [spec_AddWork.l0,if_pos (by decide),show d - 1+1=d by omega,w64 (x:=d) (by omega),wkGo,if_neg (by omega)];unfold spec_l2Day.f;rw [Option.bind_some,inB_false.2 (by omega),if_neg (by decide)]
 | succ n ih =>
  intro k d h0 hn hd hk;obtain ⟨k,rfl⟩:∃ j,k=j+1:=⟨k - 1,by omega⟩;rw [spec_AddWork.l0,if_pos (by decide),show d - 1+1=d by omega,w64 (x:=d) (by omega),wkGo];unfold spec_l2Day.f;rw [Option.bind_some];by_cases c:d≤40000
  ·rw [inB_of ⟨h0,c⟩,if_pos rfl,if_pos c,l2Work_is off d hs ⟨h0,c⟩ h2 k (by omega),Option.bind_some];by_cases q:workB off hs d=true
   ·rw [if_pos q,if_pos q];obtain ⟨k,rfl⟩:∃ j,k=j+1:=⟨k - 1,by omega⟩;rw [w64 (x:=(1:Int) - 1) (by omega),spec_AddWork.l0,if_neg (by decide)]
   ·rw [if_neg q,if_neg q];have:=ih k (d+1) (by omega) (by omega) (by omega) (by omega);rw [show d+1 - 1=d by omega] at this;exact this
  ·rw [inB_false.2 (by omega),if_neg (by decide),if_neg c]
theorem AddWork_is (off d:Int) (hs:List Int) (k:Nat) (hk:50000 < k):spec_AddWork.f k off hs d 0=some (addV off hs d):=by
 obtain ⟨k,rfl⟩:∃ j,k=j+1+1+1:=⟨k - 3,by omega⟩;unfold spec_AddWork.f spec_l2Day.f spec_l1In.f addV;rw [spec_CalOk_is off hs _ (by omega),Option.bind_some];by_cases c:calB off hs=true
 ·rw [if_pos c,Option.bind_some];by_cases q:0≤d∧d≤40000
  ·rw [inB_of q,if_pos rfl,Option.bind_some,if_pos ⟨c,q⟩];rw [spec_AddWork.j0,if_neg (by decide),if_neg (by decide),spec_AddWork.j1,if_pos rfl,spec_AddWork.j2,w64 (x:=d - 1) (by omega)];exact AddWork_l0 off hs (calB_true.1 c).2.1 40001 k d q.1 (by omega) (by omega) (by omega)
  ·rw [inB_false.2 q,if_neg (by decide),spec_AddWork.j0,if_pos rfl,if_neg (fun h=>q h.2)]
 ·rw [if_neg c,spec_AddWork.j0,if_pos rfl,if_neg (fun h=>c h.1)]
def monArr:Array Value:=#[.int .i64 0,.int .i64 31,.int .i64 28,.int .i64 31,.int .i64 30,.int .i64 31,.int .i64 30,.int .i64 31,.int .i64 31,.int .i64 30,.int .i64 31,.int .i64 30,.int .i64 31]
def Mon (w:World):Prop:=∃ (t:TypeId) (tag:Nat × Nat),w.heap[0]?=some (.cells monArr t tag)
theorem Mon.below {w w':World} (h:Mon w) (hb:Below w.heap.size w w'):Mon w':=by
 obtain ⟨t,tag,h⟩:=h;have hlt:0 < w.heap.size:=(Array.getElem?_eq_some_iff.1 h).1;exact ⟨t,tag,(hb.block 0 hlt).trans h⟩
theorem Mon.drewN {w:World} (h:Mon w) (n:Nat):Mon (w.drewN n):=by
 obtain ⟨t,tag,h⟩:=h;exact ⟨t,tag,by rw [World.heap_drewN];exact h⟩
theorem longYear_is (y:Int):impl_longYear.f y=some (leapB y):=by
 unfold impl_longYear.f leapB
 split
 ·split <;> rfl
 ·rfl
theorem Mon.cell {w:World} (h:Mon w) {m:Int} (h0:1≤m) (h1:m≤12) (h2:¬ m=2 ):w.cell? ⟨0,m.toNat,none⟩=some (.int .i64 (mLen 1 m)):=by
 obtain ⟨t,tag,h⟩:=h;rcases (show m=1∨m=3∨m=4∨m=5∨m=6∨m=7∨m=8∨m=9∨m=10∨m=11∨m=12 by omega) with rfl | rfl | rfl | rfl | rfl | rfl | rfl | rfl | rfl | rfl | rfl <;> (unfold World.cell?;simp [h,monArr,mLen])
theorem Mon.cell2 {w:World} (h:Mon w):w.cell? ⟨0,2,none⟩=some (.int .i64 28):=by
 obtain ⟨t,tag,h⟩:=h;unfold World.cell?;simp [h,monArr]
theorem mLen_any {y m:Int} (h:¬ m=2):mLen 1 m=mLen y m:=by unfold mLen;rw [if_neg h,if_neg h]
theorem mLen_two {y:Int}:mLen y 2=if leapB y=true then 29 else 28:=by unfold mLen;rw [if_pos rfl]
set_option maxRecDepth 100000 in
theorem impl_daysOf.to (y m:Int) (w:World) (hM:Mon w) (h0:1≤m) (h1:m≤12):Calls Tryd.prog 49 #[.int .i64 y,.int .i64 m] w fun e w'=>e = .returned (.int .i64 (mLen y m))∧Drawn0 w w':=by
 by_cases c:m=2
 ·subst c;rw [mLen_two];cases hl:leapB y with
  | true =>
   go_enter Tryd.func49,Tryd.ntmps49
   go_wp2_with fail
   refine (impl_longYear.calls y true _ (by rw [longYear_is,hl])).mono ?_;rintro e w2 ⟨rfl,⟨n,rfl⟩⟩
   go_wp2_with fail
   go_ret
   exact ⟨rfl,⟨n,rfl⟩⟩
  | false =>
   go_enter Tryd.func49,Tryd.ntmps49
   go_wp2_with fail
   refine (impl_longYear.calls y false _ (by rw [longYear_is,hl])).mono ?_;rintro e w2 ⟨rfl,⟨n,rfl⟩⟩;have hc:=hM.cell2
   go_wp2_with fail
   go_ret
   exact ⟨rfl,⟨n,rfl⟩⟩
 ·have hc:=hM.cell h0 h1 c;rw [mLen_any (y:=y) c] at hc;have c2:(m == 2)=false:=beq_eq_false_iff_ne.2 c
  go_enter Tryd.func49,Tryd.ntmps49
  go_wp2_with fail
  go_ret
  exact ⟨rfl,⟨0,rfl⟩⟩
end Go.Proofs.YtcblmhpebijmaaaDoor.Q
