/- A part of the proof of a law. Condition of each theorem: as its statement says. -/
import Derived.Test.YtkaokkedapnfhaaGreatDoorVB7
set_option linter.all false
variable {B:Array Go.Obj} {s t p:Go.Lo.Str} {i n k ns ks nw cw nb cb j q mm:Nat} {a:UInt8} {v la xs ys ms:List Int} {ps pw pb pl wp:Option Go.Addr} {cl tv:List Go.Value} {lns ls L:List Go.Lo.Ln} {h H:Go.Lo.Hp} {bt:Bool} {li st z:Int}
set_option maxHeartbeats 4000000
set_option maxRecDepth 100000
set_option synthInstance.maxHeartbeats 1000000
set_option synthInstance.maxSize 100000
namespace Go.Proofs
open Go.Lo
open Go.Conc (G)
section
def jbY (s:Str) (c:UInt8):Nat→List Str×Nat
 |0=>([],0)
 |i+1=>if i=s.length∨s.getD i 0=c then ((jbY s c i).1++[(s.take i).drop (jbY s c i).2],i+1) else jbY s c i
def jjo (s:Str) (c:UInt8):List Str:=(jbY s c (s.length+1)).1
theorem jkZ {c:UInt8} (h:i=s.length∨s.getD i 0=c):jbY s c (i+1)=((jbY s c i).1++[(s.take i).drop (jbY s c i).2],i+1):=by rw [jbY,if_pos h]
theorem cut_no {c:UInt8} (h:i≠s.length) (h2:s.getD i 0≠c):jbY s c (i+1)=jbY s c i:=by rw [jbY,if_neg (by rintro (e|e);exact h e;exact h2 e)]
theorem jol (s:Str) (c:UInt8): ∀i,(jbY s c i).2≤i∧(jbY s c i).1.length≤i
 |0=>by simp [jbY]
 |i+1=>by
  have:=jol s c i
  unfold jbY
  split
  ·simp
   omega
  ·omega
theorem byte_eq {c:UInt8} (h:(a.toNat:Int)=c.toNat):a=c:=vT.1 zO
theorem byte_ne {c:UInt8} (h: ¬(a.toNat:Int)=c.toNat):a≠c:=fun e=>h (by rw [e])
theorem jj0 (ss:List Str) (s:Str):jay (ss++[s])=jay ss++[str s]:=by rw [jdg,jdg,GA];rfl
theorem f121_c (m:Md Tryz.prog B) (h:Hp) (s:Str) (hl:s.length≤100000) (c:UInt8):FnC m 121 #[str s,.int .u8 (c.toNat:Int)] h fun w h'=> ∃new,h'=h++new∧OwnS 9 1 w (jjo s c).length (jay (jjo s c)) new:=by
 refine jae Tryz.func121 rfl rfl (l:=(str s)::(.int .u8 (c.toNat:Int))::uu33) rfl ?_
 intro cf cs K hK
 refine Z18 ?_
 refine jaf (fun nn l h'=> ∃(i:Nat) (wp:Option Addr) (wc:Nat) (M:Hp) (f:Nat),nn=s.length+1-i∧(i≤s.length+1)∧(f=(jbY s c i).2)∧(OwnS 9 1 (.slice wp (jbY s c i).1.length wc) (jbY s c i).1.length (jay (jbY s c i).1) M)∧(∃U:Nat→Value,l=((str s)::(.int .u8 (c.toNat:Int))::(U 2)::(U 3)::(U 4)::(.slice wp (jbY s c i).1.length wc)::(.int .i64 (f:Int))::(.int .i64 (i:Int))::vw27 U 8 []))∧h++M=h') _ ⟨0,none,0,[],0,rfl,by omega,rfl,OwnS.nil,exU rfl,zS⟩ ?_;rintro nn l h' ⟨i,wp,wc,M,f,rfl,hi,hf,how,⟨U,rfl⟩,rfl⟩ hnext;obtain ⟨hfl,hpl⟩:=jol s c i
 refine Z6 ?_
 refine jbK rfl zq (fun hc=>?_) (fun hc=>?_)
 ·refine Z6 ?_;refine jpz ?_;refine Z3 ?_
  refine jaA rfl zq (fun hc=>?_) (fun hc=>?_)
  ·refine Z15 ?_;refine jhK (j:=f) (k:=i) rfl zq jke zO zO ?_
   refine jcb kdq rfl zq zA zA rfl (fun q30=>jap (jad ?_));refine ja2 rfl zq rfl how kdq zO zO (fun w9 n9 o9=>jad ?_);obtain ⟨p9,c9,rfl,hc9,r9⟩:=jas (B:=B) o9
   refine Z13 ?_
   have hks:=jkZ (s:=s) (c:=c) (i:=i) (.inl zO)
   have hkl:(jbY s c (i+1)).1.length=(jbY s c i).1.length+1:=by rw [hks];simp
   have hk2:(jbY s c (i+1)).2=i+1:=by rw [hks]
   rw [←hkl];exact E39
  ·refine Z3 ?_;refine D116 ?_;refine Zs ?_
   refine jaA rfl rfl (fun hc=>?_) (fun hc=>?_);refine Z9 ?_;refine jhK (j:=f) (k:=i) rfl zq jke zO zO ?_
   refine jcb kdq rfl zq zA zA rfl (fun q30=>jap (jad ?_));refine ja2 rfl zq rfl how kdq zO zO (fun w9 n9 o9=>jad ?_);obtain ⟨p9,c9,rfl,hc9,r9⟩:=jas (B:=B) o9
   refine Z7 ?_
   rotate_left
   refine Z4 ?_
   all_goals
    refine Z6 ?_
   ·have hks:jbY s c (i+1)=jbY s c i:=cut_no zO (byte_ne zD)
    rw [←hks];exact m.weak jaa (hnext _ _ _ zO ⟨i+1,wp,wc,M,f,rfl,by omega,by rw [hks];exact hf,by rw [hks];exact how,exU rfl,rfl⟩)
   ·have hks:=jkZ (s:=s) (c:=c) (i:=i) (.inr (byte_eq zD))
    have hkl:(jbY s c (i+1)).1.length=(jbY s c i).1.length+1:=by rw [hks];simp
    have hk2:(jbY s c (i+1)).2=i+1:=by rw [hks]
    rw [←hkl];exact E39
 ·refine Z9 ?_;refine jac (h++M) rfl Tryz.func121 rfl jaa ?_;refine Zs ?_
  obtain rfl:i=s.length+1:=by omega
  exact ⟨M,rfl,how⟩
end
section
variable [LaidO B]
def jfK (c:UInt8):Prop:=48≤c.toNat∧c.toNat≤57
instance (c:UInt8):Decidable (jfK c):=by unfold jfK;infer_instance
def negS (s:Str):Prop:=0<s.length∧s.getD 0 0=45
instance (s:Str):Decidable (negS s):=by unfold negS;infer_instance
def jaN (s:Str):Str:=if negS s then s.drop 1 else s
def jms (s:Str):Int:=if negS s then-1 else 1
def jjb (t:Str) (i:Nat):Nat:=(t.take i).foldl (fun n c=>10*n+(c.toNat-48)) 0
def jf1 (s:Str):Prop:=(1≤(jaN s).length∧(jaN s).length≤9)∧ ¬((jaN s).getD 0 0=48∧s≠[48])∧ ∀i,i<(jaN s).length→jfK ((jaN s).getD i 0)
instance (s:Str):Decidable (jf1 s):=by unfold jf1;infer_instance
def numS (s:Str):Int:=if jf1 s then jms s*(jjb (jaN s) (jaN s).length:Int) else 0
theorem jnD (s:Str):(jaN s).length≤s.length:=by
 unfold jaN
 split
 ·simp
 ·exact gL _
theorem jeB (h:i<t.length):jjb t (i+1)=10*jjb t i+((t.getD i 0).toNat-48):=by
 rw [jjb,ja5 t i h,vU];rfl
theorem valK_lt (i:Nat) (hi:i≤t.length) (hd: ∀j,j<i→jfK (t.getD j 0)):jjb t i<10^i:=by
 induction i with
 |zero=>simp [jjb]
 |succ i ih=>
  have h1:=ih zO fun j hj=>hd j zO
  have h2:=hd i zO
  unfold jfK at h2
  rw [jeB zO,Nat.pow_succ];omega
theorem jnn (hi:i≤t.length) (h9:t.length≤9) (hd: ∀j,j<i→jfK (t.getD j 0)):jjb t i<1000000000:=
 GW (valK_lt i hi hd) (GJ (GV zA (show i≤9 by omega)) zA)
theorem sgn_or (s:Str):jms s= -1∨jms s=1:=by
 unfold jms
 split
 ·exact .inl rfl
 ·exact .inr rfl
theorem ja4 (hn:n<256):(a.toNat:Int)=n↔a=UInt8.ofNat n:=by
 constructor
 ·intro h
  refine vT.1 ?_
  rw [UInt8.toNat_ofNat'];omega
 ·rintro rfl;rw [UInt8.toNat_ofNat'];omega
abbrev numV (s:Str):Value:= .tuple [.int .i64 (numS s),.bool (decide (jf1 s))].toArray
theorem ja3 (h: ¬jf1 s): .tuple [.int .i64 0,.bool false].toArray=numV s:=by rw [numV,numS,if_neg h,decide_eq_false h]
theorem jcw (h:jf1 s): .tuple [.int .i64 (jms s*(jjb (jaN s) (jaN s).length:Int)),.bool true].toArray=numV s:=by rw [numV,numS,if_pos h,decide_eq_true h]
theorem f160_c (m:Md Tryz.prog B) (h:Hp) (s:Str) (hl:s.length≤100000):FnC m 160 #[str s] h fun v h'=>h'=h∧v=numV s:=by
 obtain ⟨s',hs'⟩: ∃s',s'=s:=⟨_,rfl⟩
 obtain ⟨sg,hsg⟩: ∃x:Int,x=1:=⟨_,rfl⟩
 have hls:s'.length=s.length:=by rw [hs']
 refine jae Tryz.func160 rfl rfl (l:=(str s)::uu57) rfl ?_
 intro cf cs K hK
 refine Z8 ?_;refine k_asE (show str s=str s' by rw [hs']) rfl zq ?_;refine k_asE (show Value.int .i64 1= .int .i64 sg by rw [hsg]) rfl zq ?_;refine Z6 ?_
 refine jaz rfl zq (fun hc=>?_) (fun hc=>?_)
 ·refine Z2 ?_;refine jhj (c:=s'.getD 0 0) rfl rfl jke zO (jkS zO) ?_
  refine jaA rfl rfl (fun hc=>?_) (fun hc=>?_);refine Z5 ?_;refine k_ssfrom (j:=1) rfl zq jke zO ?_
  have hng:negS s:=by rw [←hs'];exact ⟨by omega,(ja4 (n:=45) zA).1 zD⟩
  refine k_asE (show str (s'.drop 1)=str (jaN s) by rw [jaN,if_pos hng,hs']) rfl zq ?_;refine k_asE (show Value.int .i64 (-1)= .int .i64 (jms s) by rw [jms,if_pos hng]) rfl zq ?_;refine Zs ?_;rotate_left
  refine Z4 ?_
  all_goals
   refine Z2 ?_
   have hrl:=jnD s
   first
    |(have hng: ¬negS s:=by
       rw [←hs'];rintro ⟨e1,e2⟩;first|omega|exact absurd ((ja4 (n:=45) zA).2 e2) zD
      rw [show s'=jaN s by rw [jaN,if_neg hng,hs'],show sg=jms s by rw [jms,if_neg hng,hsg]])
    |skip
   refine rr17 ?_;refine Z2 ?_;refine jak rfl zq (fun hc=>?_) (fun hc=>?_)
   ·refine Z22 ?_;refine jou ?_
    refine ⟨rfl,?_⟩
    first
     |exact ja3 fun e=>by have:=e.1;omega
     |exact E40
     |exact E41
     |(obtain rfl:i=(jaN s).length:=by omega
       refine jcw ⟨by omega,fun e=>?_,hdg⟩
       first
        |exact e.2 hz
        |exact E42)
   ·refine Z2 ?_;refine jn1 rfl rfl jke ?_
    refine jaz rfl rfl (fun hc=>?_) (fun hc=>?_)
    ·refine Z18 ?_;refine jou ?_
     refine ⟨rfl,?_⟩
     first
      |exact ja3 fun e=>by have:=e.1;omega
      |exact E40
      |exact E41
      |(obtain rfl:i=(jaN s).length:=by omega
        refine jcw ⟨by omega,fun e=>?_,hdg⟩
        first
         |exact e.2 hz
         |exact E42)
    ·refine Z3 ?_;refine jhj (c:=(jaN s).getD 0 0) rfl rfl jke zO (jkS zO) ?_
     refine jaA rfl rfl (fun hc=>?_) (fun hc=>?_)
     ·refine Z2 ?_
      by_cases hz:s=[48]
      ·refine jgO rfl rfl hz ?_;refine Z15 ?_;refine jaf (fun nn l h'=> ∃(i:Nat),nn=(jaN s).length-i∧(i≤(jaN s).length)∧(∀j,j<i→jfK ((jaN s).getD j 0))∧(∃U:Nat→Value,l=((str s)::(U 1)::(U 2)::(U 3)::(str (jaN s))::(.int .i64 (jms s))::(.int .i64 (jjb (jaN s) i:Int))::(.int .i64 (i:Int))::vw50 U 8 []))∧h=h') _ ⟨0,rfl,by omega,fun j hj=>absurd hj zO,exU rfl,rfl⟩ ?_;rintro nn l h' ⟨i,rfl,hi,hdg,⟨U,rfl⟩,rfl⟩ hnext;have hvb:=jnn hi zO hdg
       have hcb:=((jaN s).getD i 0).toNat_lt
       refine Z6 ?_
       refine jak rfl zq (fun hc=>?_) (fun hc=>?_);refine Z6 ?_
       rotate_left
       refine Z3 ?_
       all_goals
        refine Z4 ?_
       ·refine D71 ?_;refine Z4 ?_;refine jou ?_
        refine ⟨rfl,?_⟩
        first
         |exact ja3 fun e=>by have:=e.1;omega
         |exact E40
         |exact E41
         |(obtain rfl:i=(jaN s).length:=by omega
           refine jcw ⟨by omega,fun e=>?_,hdg⟩
           first
            |exact e.2 hz
            |exact E42)
       ·refine D32 ?_;refine D47 ?_
        rintro v (⟨hc,rfl⟩|⟨hc,rfl⟩)
        ·refine Z7 ?_;refine D26 ?_;refine Z2 ?_;refine D32 ?_;refine D50 ?_;refine Z10 ?_
         have hdi:jfK ((jaN s).getD i 0):=by assumption
         rw [show 10*(jjb (jaN s) i:Int)+(((jaN s).getD i 0).toNat:Int)-48=(jjb (jaN s) (i+1):Int) by rw [jeB zO];unfold jfK at hdi;omega];exact m.weak jaa (hnext _ _ _ zO ⟨i+1,rfl,by omega,fun j hj=>by
          by_cases e:j<i
          ·exact hdg j e
          ·obtain rfl:j=i:=by omega
           assumption,exU rfl,rfl⟩)
        ·refine Z10 ?_;refine jou ?_
         refine ⟨rfl,?_⟩
         first
          |exact ja3 fun e=>by have:=e.1;omega
          |exact E40
          |exact E41
          |(obtain rfl:i=(jaN s).length:=by omega
            refine jcw ⟨by omega,fun e=>?_,hdg⟩
            first
             |exact e.2 hz
             |exact E42)
      ·refine jiz rfl rfl hz ?_;refine Z10 ?_;refine jou ?_;refine ⟨rfl,?_⟩
       first
        |exact ja3 fun e=>by have:=e.1;omega
        |exact E40
        |exact E41
        |(obtain rfl:i=(jaN s).length:=by omega
          refine jcw ⟨by omega,fun e=>?_,hdg⟩
          first
           |exact e.2 hz
           |exact E42)
     ·refine Z18 ?_
      refine jaf (fun nn l h'=> ∃(i:Nat),nn=(jaN s).length-i∧(i≤(jaN s).length)∧(∀j,j<i→jfK ((jaN s).getD j 0))∧(∃U:Nat→Value,l=((str s)::(U 1)::(U 2)::(U 3)::(str (jaN s))::(.int .i64 (jms s))::(.int .i64 (jjb (jaN s) i:Int))::(.int .i64 (i:Int))::vw50 U 8 []))∧h=h') _ ⟨0,rfl,by omega,fun j hj=>absurd hj zO,exU rfl,rfl⟩ ?_;rintro nn l h' ⟨i,rfl,hi,hdg,⟨U,rfl⟩,rfl⟩ hnext;have hvb:=jnn hi zO hdg
      have hcb:=((jaN s).getD i 0).toNat_lt
      refine Z6 ?_
      refine jak rfl zq (fun hc=>?_) (fun hc=>?_);refine Z6 ?_
      rotate_left
      refine Z3 ?_
      all_goals
       refine Z4 ?_
      ·refine D71 ?_;refine Z4 ?_;refine jou ?_
       refine ⟨rfl,?_⟩
       first
        |exact ja3 fun e=>by have:=e.1;omega
        |exact E40
        |exact E41
        |(obtain rfl:i=(jaN s).length:=by omega
          refine jcw ⟨by omega,fun e=>?_,hdg⟩
          first
           |exact e.2 hz
           |exact E42)
      ·refine D32 ?_;refine D47 ?_
       rintro v (⟨hc,rfl⟩|⟨hc,rfl⟩)
       ·refine Z7 ?_;refine D26 ?_;refine Z2 ?_;refine D32 ?_;refine D50 ?_;refine Z10 ?_
        have hdi:jfK ((jaN s).getD i 0):=by assumption
        rw [show 10*(jjb (jaN s) i:Int)+(((jaN s).getD i 0).toNat:Int)-48=(jjb (jaN s) (i+1):Int) by rw [jeB zO];unfold jfK at hdi;omega];exact m.weak jaa (hnext _ _ _ zO ⟨i+1,rfl,by omega,fun j hj=>by
         by_cases e:j<i
         ·exact hdg j e
         ·obtain rfl:j=i:=by omega
          assumption,exU rfl,rfl⟩)
       ·refine Z10 ?_;refine jou ?_
        refine ⟨rfl,?_⟩
        first
         |exact ja3 fun e=>by have:=e.1;omega
         |exact E40
         |exact E41
         |(obtain rfl:i=(jaN s).length:=by omega
           refine jcw ⟨by omega,fun e=>?_,hdg⟩
           first
            |exact e.2 hz
            |exact E42)
 ·refine Z10 ?_
  have hrl:=jnD s
  first
   |(have hng: ¬negS s:=by
      rw [←hs'];rintro ⟨e1,e2⟩;first|omega|exact absurd ((ja4 (n:=45) zA).2 e2) zD
     rw [show s'=jaN s by rw [jaN,if_neg hng,hs'],show sg=jms s by rw [jms,if_neg hng,hsg]])
   |skip
  refine rr17 ?_;refine Z2 ?_;refine jak rfl zq (fun hc=>?_) (fun hc=>?_)
  ·refine Z22 ?_;refine jou ?_
   refine ⟨rfl,?_⟩
   first
    |exact ja3 fun e=>by have:=e.1;omega
    |exact E40
    |exact E41
    |(obtain rfl:i=(jaN s).length:=by omega
      refine jcw ⟨by omega,fun e=>?_,hdg⟩
      first
       |exact e.2 hz
       |exact E42)
  ·refine Z2 ?_;refine jn1 rfl rfl jke ?_
   refine jaz rfl rfl (fun hc=>?_) (fun hc=>?_)
   ·refine Z18 ?_;refine jou ?_
    refine ⟨rfl,?_⟩
    first
     |exact ja3 fun e=>by have:=e.1;omega
     |exact E40
     |exact E41
     |(obtain rfl:i=(jaN s).length:=by omega
       refine jcw ⟨by omega,fun e=>?_,hdg⟩
       first
        |exact e.2 hz
        |exact E42)
   ·refine Z3 ?_;refine jhj (c:=(jaN s).getD 0 0) rfl rfl jke zO (jkS zO) ?_
    refine jaA rfl rfl (fun hc=>?_) (fun hc=>?_)
    ·refine Z2 ?_
     by_cases hz:s=[48]
     ·refine jgO rfl rfl hz ?_;refine Z15 ?_;refine jaf (fun nn l h'=> ∃(i:Nat),nn=(jaN s).length-i∧(i≤(jaN s).length)∧(∀j,j<i→jfK ((jaN s).getD j 0))∧(∃U:Nat→Value,l=((str s)::(U 1)::(U 2)::(U 3)::(str (jaN s))::(.int .i64 (jms s))::(.int .i64 (jjb (jaN s) i:Int))::(.int .i64 (i:Int))::vw50 U 8 []))∧h=h') _ ⟨0,rfl,by omega,fun j hj=>absurd hj zO,exU rfl,rfl⟩ ?_;rintro nn l h' ⟨i,rfl,hi,hdg,⟨U,rfl⟩,rfl⟩ hnext;have hvb:=jnn hi zO hdg
      have hcb:=((jaN s).getD i 0).toNat_lt
      refine Z6 ?_
      refine jak rfl zq (fun hc=>?_) (fun hc=>?_);refine Z6 ?_
      rotate_left
      refine Z3 ?_
      all_goals
       refine Z4 ?_
      ·refine D71 ?_;refine Z4 ?_;refine jou ?_
       refine ⟨rfl,?_⟩
       first
        |exact ja3 fun e=>by have:=e.1;omega
        |exact E40
        |exact E41
        |(obtain rfl:i=(jaN s).length:=by omega
          refine jcw ⟨by omega,fun e=>?_,hdg⟩
          first
           |exact e.2 hz
           |exact E42)
      ·refine D32 ?_;refine D47 ?_
       rintro v (⟨hc,rfl⟩|⟨hc,rfl⟩)
       ·refine Z7 ?_;refine D26 ?_;refine Z2 ?_;refine D32 ?_;refine D50 ?_;refine Z10 ?_
        have hdi:jfK ((jaN s).getD i 0):=by assumption
        rw [show 10*(jjb (jaN s) i:Int)+(((jaN s).getD i 0).toNat:Int)-48=(jjb (jaN s) (i+1):Int) by rw [jeB zO];unfold jfK at hdi;omega];exact m.weak jaa (hnext _ _ _ zO ⟨i+1,rfl,by omega,fun j hj=>by
         by_cases e:j<i
         ·exact hdg j e
         ·obtain rfl:j=i:=by omega
          assumption,exU rfl,rfl⟩)
       ·refine Z10 ?_;refine jou ?_
        refine ⟨rfl,?_⟩
        first
         |exact ja3 fun e=>by have:=e.1;omega
         |exact E40
         |exact E41
         |(obtain rfl:i=(jaN s).length:=by omega
           refine jcw ⟨by omega,fun e=>?_,hdg⟩
           first
            |exact e.2 hz
            |exact E42)
     ·refine jiz rfl rfl hz ?_;refine Z10 ?_;refine jou ?_;refine ⟨rfl,?_⟩
      first
       |exact ja3 fun e=>by have:=e.1;omega
       |exact E40
       |exact E41
       |(obtain rfl:i=(jaN s).length:=by omega
         refine jcw ⟨by omega,fun e=>?_,hdg⟩
         first
          |exact e.2 hz
          |exact E42)
    ·refine Z18 ?_
     refine jaf (fun nn l h'=> ∃(i:Nat),nn=(jaN s).length-i∧(i≤(jaN s).length)∧(∀j,j<i→jfK ((jaN s).getD j 0))∧(∃U:Nat→Value,l=((str s)::(U 1)::(U 2)::(U 3)::(str (jaN s))::(.int .i64 (jms s))::(.int .i64 (jjb (jaN s) i:Int))::(.int .i64 (i:Int))::vw50 U 8 []))∧h=h') _ ⟨0,rfl,by omega,fun j hj=>absurd hj zO,exU rfl,rfl⟩ ?_;rintro nn l h' ⟨i,rfl,hi,hdg,⟨U,rfl⟩,rfl⟩ hnext;have hvb:=jnn hi zO hdg
     have hcb:=((jaN s).getD i 0).toNat_lt
     refine Z6 ?_
     refine jak rfl zq (fun hc=>?_) (fun hc=>?_);refine Z6 ?_
     rotate_left
     refine Z3 ?_
     all_goals
      refine Z4 ?_
     ·refine D71 ?_;refine Z4 ?_;refine jou ?_
      refine ⟨rfl,?_⟩
      first
       |exact ja3 fun e=>by have:=e.1;omega
       |exact E40
       |exact E41
       |(obtain rfl:i=(jaN s).length:=by omega
         refine jcw ⟨by omega,fun e=>?_,hdg⟩
         first
          |exact e.2 hz
          |exact E42)
     ·refine D32 ?_;refine D47 ?_
      rintro v (⟨hc,rfl⟩|⟨hc,rfl⟩)
      ·refine Z7 ?_;refine D26 ?_;refine Z2 ?_;refine D32 ?_;refine D50 ?_;refine Z10 ?_
       have hdi:jfK ((jaN s).getD i 0):=by assumption
       rw [show 10*(jjb (jaN s) i:Int)+(((jaN s).getD i 0).toNat:Int)-48=(jjb (jaN s) (i+1):Int) by rw [jeB zO];unfold jfK at hdi;omega];exact m.weak jaa (hnext _ _ _ zO ⟨i+1,rfl,by omega,fun j hj=>by
        by_cases e:j<i
        ·exact hdg j e
        ·obtain rfl:j=i:=by omega
         assumption,exU rfl,rfl⟩)
      ·refine Z10 ?_;refine jou ?_
       refine ⟨rfl,?_⟩
       first
        |exact ja3 fun e=>by have:=e.1;omega
        |exact E40
        |exact E41
        |(obtain rfl:i=(jaN s).length:=by omega
          refine jcw ⟨by omega,fun e=>?_,hdg⟩
          first
           |exact e.2 hz
           |exact E42)
end
section
variable [LaidO B]
def jcp (s:Str):Int:=if s=[63] then-1 else numS s
def je8 (s:Str) (k:Nat):Prop:=s=[63]∨(jf1 s∧(0≤numS s∧numS s≤mosts.getD k 0))
instance (s:Str) (k:Nat):Decidable (je8 s k):=by unfold je8;infer_instance
def okR (s:Str):Prop:=(jjo s 45).length=3∧ ∀k,k<3→je8 ((jjo s 45).getD k []) k
def jmz (s:Str) (k:Nat):List Int:=((jjo s 45).take k).map jcp
theorem ix3 (hk:k<3):([Value.int .i64 9,.int .i64 11,.int .i64 7]:List Value)[0+((k:Nat):Int).toNat*1]?=some (.int .i64 (mosts.getD k 0)):=by
 rcases (by omega:k=0∨k=1∨k=2) with rfl|rfl|rfl<;>rfl
theorem jm7 (s:Str) (c:UInt8): ∀i,∀p∈(jbY s c i).1,p.length≤s.length
 |0,p,h=>by simp [jbY] at h
 |i+1,p,h=>by
  unfold jbY at h
  split at h
  ·rcases gQ.1 h with h|h
   ·exact jm7 s c i p h
   ·obtain rfl:p=_:=by simpa using h
    simp
    omega
  ·exact jm7 s c i p h
theorem f161_c (m:Md Tryz.prog B) (h:Hp) (k:Nat) (hk:k<3):FnC m 161 #[.int .i64 (k:Int)] h fun v h'=>h'=h∧v= .int .i64 (mosts.getD k 0):=by
 refine jae Tryz.func161 rfl rfl (l:=(.int .i64 (k:Int))::uu6) rfl ?_
 intro cf cs K hK
 refine Z6 ?_
 refine jcb kdq rfl zq zA zA rfl (fun q3=>jap (jad ?_));refine Zs ?_;refine D11 ?_;refine jaI rfl zq (Rd.held (Has.mem (b:=q3)) (by simpa using ix3 hk)) ?_;refine Z3 ?_;refine jac (h) rfl Tryz.func161 rfl jaa ?_;refine Zs ?_
 exact ⟨rfl,rfl⟩
theorem f122_c (m:Md Tryz.prog B) (h:Hp) (s:Str) (hl:s.length≤100000) (k:Nat) (hk:k<3):FnC m 122 #[str s,.int .i64 (k:Int)] h fun v h'=>h'=h∧ ∃b,IsB (je8 s k) b∧v= .tuple [.int .i64 (jcp s),b].toArray:=by
 refine jae Tryz.func122 rfl rfl (l:=(str s)::(.int .i64 (k:Int))::uu21) rfl ?_
 intro cf cs K hK
 refine Z9 ?_
 by_cases hq:s=[63]
 ·refine jiA rfl zq hq ?_;refine Z8 ?_;refine jac (h) rfl Tryz.func122 rfl jaa ?_;refine Zs ?_;first
   |exact E43
   |exact E44
   |exact E45
   |exact E46
 ·refine jiB rfl zq hq ?_;refine Z6 ?_;refine jag (Post:=fun v=>v=_) rfl zq zK (fun H' hH=>f160_c m H' s hl) ?_;rintro v rfl;refine Z8 ?_
  cases hno:decide (jf1 s)
  all_goals
   refine Z4 ?_
  ·refine Z9 ?_;refine jac (h) rfl Tryz.func122 rfl jaa ?_;refine Zs ?_
   first
    |exact E43
    |exact E44
    |exact E45
    |exact E46
  ·refine Z2 ?_;refine jag (Post:=fun v=>v=_) rfl rfl zK (fun H' hH=>f161_c m H' k hk) ?_
   rintro v rfl;refine Zs ?_;refine jag (Post:=fun v=>IsB _ v) rfl rfl zK (fun H' hH=>f43_c m H' _ _ _) ?_
   rintro v (⟨hc,rfl⟩|⟨hc,rfl⟩);all_goals
    refine Z6 ?_;refine jac (h) rfl Tryz.func122 rfl jaa ?_;refine Zs ?_
    first
     |exact E43
     |exact E44
     |exact E45
     |exact E46
end
section
variable [LaidO B]
theorem jpN (h:k<(jjo s 45).length):jmz s (k+1)=jmz s k++[jcp ((jjo s 45).getD k [])]:=by
 rw [jmz,ja5 _ k h,GA];rfl
theorem valR_len (h:k≤(jjo s 45).length):(jmz s k).length=k:=by simp [jmz];omega
instance (s:Str):Decidable (okR s):=by unfold okR;infer_instance
def jjk (s:Str):List Int:=if okR s then jmz s 3 else []
theorem f91_c (m:Md Tryz.prog B) (h:Hp) (s:Str) (hl:s.length≤100000):FnC m 91 #[str s] h fun v h'=> ∃new,h'=h++new∧ ∃w b,OwnS 3 1 w (jjk s).length (jaq (jjk s)) new∧IsB (okR s) b∧v= .tuple [w,b].toArray:=by
 refine jae Tryz.func91 rfl rfl (l:=(str s)::uu33) rfl ?_
 intro cf cs K hK
 refine Z8 ?_;refine jaJ rfl zq zK (Post:=fun w new=>OwnS 9 1 w (jjo s 45).length (jay (jjo s 45)) new) (fun H' hH=>f121_c m H' s hl 45) ?_
 rintro w n4 o4;refine jaG (jad ?_);obtain ⟨p4,c4,rfl,hc4,r4⟩:=jas (B:=B) o4
 have hcl:=(jol s 45 (s.length+1)).2
 have hle:=fun k=>show (((jjo s 45).getD k []).length≤100000) from by
  rcases Gf k (jjo s 45).length with e|e
  ·exact GJ (jm7 s 45 _ _ (jal (l:=jjo s 45) e)) hl
  ·rw [gC,gl e];simp
 refine Z7 ?_
 refine jaP rfl zq (fun hc=>?_) (fun hc=>?_)
 ·refine Z8 ?_;refine jac (h) rfl Tryz.func91 rfl jaa ?_;refine Zs ?_
  have hno: ¬okR s:=fun e=>by have:=e.1;omega
  exact ⟨[],by simp,_,_,by rw [jjk,if_neg hno];exact OwnS.nil,IsB.no hno,rfl⟩
 ·refine Z13 ?_
  refine jaf (fun nn l h'=> ∃(k:Nat) (wp:Option Addr) (wc:Nat) (M:Hp),nn=3-k∧(k≤3)∧(OwnS 3 1 (.slice wp (jmz s k).length wc) (jmz s k).length (jaq (jmz s k)) M)∧(∀j,j<k→je8 ((jjo s 45).getD j []) j)∧(∃U:Nat→Value,l=((str s)::(U 1)::(U 2)::(U 3)::(.slice p4 (jjo s 45).length c4)::(.slice wp (jmz s k).length wc)::(.int .i64 (k:Int))::vw27 U 7 []))∧h++n4++M=h') _ ⟨0,none,0,[],rfl,by omega,OwnS.nil,fun j hj=>absurd hj zO,exU rfl,zS⟩ ?_;rintro nn l h' ⟨k,wp,wc,M,rfl,hk,how,hpk,⟨U,rfl⟩,rfl⟩ hnext;have hvl:=valR_len (s:=s) (k:=k) zO
  refine Z4 ?_
  refine jak rfl zq (fun hc=>?_) (fun hc=>?_)
  ·refine Z6 ?_
   have hkn:k<(jjo s 45).length:=by omega
   obtain ⟨b4,o4_,hp4⟩:=r4.ptr zO
   subst hp4
   refine jpz ?_;refine Z2 ?_;refine D11 ?_;refine jaI rfl zq (r4.sat k zO zO) ?_;refine Zs ?_;refine jag (Post:=fun v=> ∃b,IsB (je8 ((jjo s 45).getD k []) k) b∧v= .tuple [.int .i64 (jcp ((jjo s 45).getD k [])),b].toArray) rfl zq zK (fun H' hH=>f122_c m H' _ (hle k) k zO) ?_;rintro v ⟨b8,hb8,rfl⟩;refine Z9 ?_
   rcases hb8 with ⟨hc8,rfl⟩|⟨hc8,rfl⟩
   ·refine Z9 ?_
    refine jcb kdq rfl zq zA zA rfl (fun q31=>jap (jad ?_));refine ja2 rfl zq rfl how kdq zO zO (fun w9 n9 o9=>jad ?_);obtain ⟨p9,c9,rfl,hc9,r9⟩:=jas (B:=B) o9
    refine Z8 ?_
    have hks:=jpN (s:=s) (k:=k) zO
    have hkl:(jmz s (k+1)).length=(jmz s k).length+1:=by rw [hks];simp
    rw [←hkl];exact m.weak jaa (hnext _ _ _ zO ⟨k+1,p9,c9,n9,rfl,by omega,by rw [hkl,hks,jaZ];exact o9,fun j hj=>by
     by_cases e:j<k
     ·exact hpk j e
     ·obtain rfl:j=k:=by omega
      exact hc8,exU rfl,rfl⟩)
   ·refine Z11 ?_;refine jac (h) rfl Tryz.func91 rfl jaa ?_;refine Zs ?_
    have hno: ¬okR s:=fun e=>hc8 (e.2 k zO)
    exact ⟨[],by simp,_,_,by rw [jjk,if_neg hno];exact OwnS.nil,IsB.no hno,rfl⟩
  ·refine Z10 ?_;refine jac (h++M) rfl Tryz.func91 rfl jaa ?_;refine Zs ?_
   obtain rfl:k=3:=by omega
   have hok:okR s:=⟨by omega,hpk⟩
   have e:jjk s=jmz s 3:=by rw [jjk,if_pos hok]
   exact ⟨M,rfl,_,_,by rw [e];exact how,IsB.yes hok,rfl⟩
end
end Go.Proofs
namespace Go.Proofs
open Go.Lo
def spl (c:UInt8):Str→List Str
 |[]=>[[]]
 |x::r=>if x=c then []::spl c r else match spl c r with
  |[]=>[[x]]
  |p::q=>(x::p)::q
theorem jlm (c:UInt8) (s:Str):spl c s≠[]:=by
 cases s with
 |nil=>simp [spl]
 |cons x r=>
  unfold spl
  split
  ·simp
  ·split<;>simp
theorem jkp (c y:UInt8): ∀(xs:Str) (A:List Str) (l:Str),spl c xs=A++[l]→spl c (xs++[y])=if y=c then A++[l]++[[]] else A++[l++[y]]
 |[],A,l,h=>by
  have h2:A=[]∧l=[]:=by
   cases A with
   |nil=>simpa [spl,eq_comm] using h
   |cons a A=>simp [spl] at h
  obtain ⟨rfl,rfl⟩:=h2
  by_cases e:y=c<;>simp [spl,e]
 |x::r,A,l,h=>by
  by_cases hx:x=c
  ·rw [spl,if_pos hx] at h
   cases A with
   |nil=>
    have:spl c r=[]:=by simpa using (List.cons.inj h).2
    exact absurd this (jlm c r)
   |cons a A=>
    obtain ⟨rfl,h2⟩:=List.cons.inj h
    have:=jkp c y r A l h2
    rw [gt,spl,if_pos hx,this];split<;>simp
  ·obtain ⟨p,q,hpq⟩: ∃p q,spl c r=p::q:=by
    cases e:spl c r with
    |nil=>exact absurd e (jlm c r)
    |cons p q=>exact ⟨p,q,rfl⟩
   rw [spl,if_neg hx,hpq] at h
   simp only at h
   have hr: ∃A' l',spl c r=A'++[l']∧((A'=[]∧A=[]∧l=x::l')∨(∃A2,A'=p::A2∧A=(x::p)::A2∧l=l')):=by
    cases A with
    |nil=>
     have h3:x::p=l∧q=[]:=by simpa using h
     exact ⟨[],p,by rw [hpq,h3.2];rfl,.inl ⟨rfl,rfl,h3.1.symm⟩⟩
    |cons a A=>
     obtain ⟨h3,h4⟩:=List.cons.inj h
     exact ⟨p::A,l,by rw [hpq,h4];rfl,.inr ⟨A,rfl,by rw [h3],rfl⟩⟩
   obtain ⟨A',l',he,hc⟩:=hr
   have ih:=jkp c y r A' l' he
   rw [gt,spl,if_neg hx,ih];rcases hc with ⟨rfl,rfl,rfl⟩|⟨A2,rfl,rfl,rfl⟩<;>by_cases e:y=c<;>simp [e]
theorem jrP (s:Str) (c:UInt8): ∀i,i≤s.length→spl c (s.take i)=(jbY s c i).1++[(s.take i).drop (jbY s c i).2]
 |0,_=>by simp [spl,jbY]
 |i+1,h=>by
  have ih:=jrP s c i zO
  have hle:=(jol s c i).1
  rw [ja5 s i zO,jkp c (s.getD i default) _ _ _ ih];by_cases e:s.getD i 0=c
  ·rw [if_pos (show s.getD i default=c from e),jkZ (.inr e)];simp only
   congr 1
   rw [gS];simp
   omega
  ·rw [if_neg (show¬s.getD i default=c from e),cut_no zO e,List.drop_append_of_le_length zN]
theorem jmg (s:Str) (c:UInt8):jjo s c=spl c s:=by
 have:=jrP s c s.length (gL _)
 rw [GQ] at this
 rw [jjo,jkZ (.inl rfl),this,GQ]
def jdE (x:Nat) (p:Str):Nat:=p.foldl (fun n c=>10*n+(c.toNat-48)) x
theorem jkV: ∀(p:Str) (x:Nat),1≤x→x+p.length≤jdE x p
 |[],x,_=>by simp [jdE]
 |c::r,x,h=>by
  have:=jkV r (10*x+(c.toNat-48)) zO
  show _≤jdE (10*x+(c.toNat-48)) r
  simp only [gY]
  omega
abbrev failV:List Int×Bool:=([0,0,0],false)
theorem set_set {x y:Int}:(v.set k x).set k y=v.set k y:=List.set_set ..
theorem jql: ∀(p r:Str) (v:List Int) (k n x:Nat),v.length=3→k≤2→0<n→1≤x→v.getD k 0=(x:Int)→(x:Int)≤mosts.getD k 0→(∀c∈p,c≠45)→
  rdF mosts (p++r) v k n=if (∀c∈p,jfK c)∧(jdE x p:Int)≤mosts.getD k 0 then rdF mosts r (v.set k (jdE x p:Int)) k (n+p.length) else failV
 |[],r,v,k,n,x,hv,hk,hn,hx,hvx,hm,_=>by
  have e:v.set k (x:Int)=v:=by
   rw [←hvx];rw [gC,gD zO];simp
  rw [if_pos ⟨fun c hc=>by simp at hc,by simpa [jdE] using hm⟩];simp [jdE,e]
 |c::p,r,v,k,n,x,hv,hk,hn,hx,hvx,hm,hd=>by
  have hc45:c.toNat≠45:=fun e=>hd c zS (vT.1 (by rw [e];rfl))
  rw [gt];by_cases hdg:jfK c
  ·have hdg':=hdg
   unfold jfK at hdg'
   have hset:(v.set k (10*v.getD k 0+((c.toNat:Int)-48))).getD k 0=10*v.getD k 0+((c.toNat:Int)-48):=jbz zO
   have hy:10*v.getD k 0+((c.toNat:Int)-48)=((10*x+(c.toNat-48):Nat):Int):=by rw [hvx];omega
   by_cases hb:(v.set k (10*v.getD k 0+((c.toNat:Int)-48))).getD k 0>mosts.getD k 0
   ·rw [jky ⟨hdg',.inr zO⟩ hb,if_neg];rintro ⟨-,h2⟩;have:=jkV p (10*x+(c.toNat-48)) zO
    rw [hset,hy] at hb
    have h3:(jdE (10*x+(c.toNat-48)) p:Int)≤mosts.getD k 0:=h2
    omega
   ·have hb':(v.set k (10*v.getD k 0+((c.toNat:Int)-48))).getD k 0≤mosts.getD k 0:=by omega
    rw [jkx ⟨hdg',.inr zO⟩ hb',jql p r _ k (n+1) (10*x+(c.toNat-48)) (by simpa using hv) hk zO zO (by rw [hset,hy]) (by rw [hset,hy] at hb';exact hb') (fun c hc=>hd c (by simp [hc]))];have e1:((∀c∈p,jfK c)∧(jdE (10*x+(c.toNat-48)) p:Int)≤mosts.getD k 0)↔((∀c'∈c::p,jfK c')∧(jdE x (c::p):Int)≤mosts.getD k 0):=by
     constructor
     ·rintro ⟨a,b⟩;exact ⟨fun c' hc'=>by rcases gO.1 hc' with rfl|h;exact hdg;exact a c' h,b⟩
     ·rintro ⟨a,b⟩;exact ⟨fun c' hc'=>a c' (by simp [hc']),b⟩
    by_cases h:(∀c∈p,jfK c)∧(jdE (10*x+(c.toNat-48)) p:Int)≤mosts.getD k 0
    ·rw [if_pos h,if_pos (e1.1 h),set_set];show rdF mosts r (v.set k (jdE (10*x+(c.toNat-48)) p:Int)) k (n+1+p.length)=rdF mosts r (v.set k (jdE (10*x+(c.toNat-48)) p:Int)) k (n+(p.length+1))
     rw [show n+1+p.length=n+(p.length+1) by omega]
    ·rw [if_neg h,if_neg (fun e=>h (e1.2 e))]
  ·rw [jcW zO zO (by rintro ⟨a,-⟩;exact hdg a),if_neg (fun e=>hdg (e.1 c zS))]
theorem jl3: ∀(p:Str) (x:Nat),1≤x→x+9*p.length≤jdE x p
 |[],x,_=>by simp [jdE]
 |c::r,x,h=>by
  have:=jl3 r (10*x+(c.toNat-48)) zO
  show _≤jdE (10*x+(c.toNat-48)) r
  simp only [gY]
  omega
theorem neg_no (h: ∀c∈p,c≠45): ¬negS p:=fun ⟨e1,e2⟩=>h _ (jal (l:=p) e1) e2
theorem jqp (h: ∀c∈p,c≠45):jaN p=p:=by rw [jaN,if_neg (neg_no h)]
theorem jmQ (h: ∀c∈p,c≠45):jf1 p↔(1≤p.length∧p.length≤9)∧ ¬(p.getD 0 0=48∧p≠[48])∧ ∀c∈p,jfK c:=by
 rw [jf1,jqp h];refine and_congr_right fun _=>and_congr_right fun _=>⟨fun e c hc=>?_,fun e i hi=>e _ (jal (l:=p) hi)⟩
 obtain ⟨i,hi,rfl⟩:=GE.1 hc
 have:=e i hi
 rwa [gC,gD hi] at this
theorem jkE (h: ∀c∈p,c≠45) (ok:jf1 p):numS p=(jdE 0 p:Int):=by
 rw [numS,if_pos ok,jqp h,jms,if_neg (neg_no h),jjb,GQ,Int.one_mul];rfl
theorem most_bd (h:k≤2):7≤mosts.getD k 0∧mosts.getD k 0≤11:=jf6 zO
theorem jnM (p r:Str) (v:List Int) (k:Nat) (hp:p≠[]) (hd: ∀c∈p,c≠45) (hv:v.length=3) (hk:k≤2) (h0:v.getD k 0=0):
  rdF mosts (p++r) v k 0=if je8 p k then rdF mosts r (v.set k (jcp p)) k p.length else failV:=by
 obtain ⟨c,q,rfl⟩:=List.exists_cons_of_ne_nil hp
 have hmb:=most_bd hk
 have hc45:c.toNat≠45:=fun e=>hd c zS (vT.1 (by rw [e];rfl))
 have hq: ∀c∈q,c≠45:=fun c hc=>hd c (by simp [hc])
 have hni:=jmQ hd
 by_cases h63:c.toNat=63
 ·have hcc:c=63:=vT.1 (by rw [h63];rfl)
  subst hcc
  have hno: ¬jf1 (63::q):=fun e=>by have:=(hni.1 e).2.2 63 zS;unfold jfK at this;revert this;decide
  have hs:(v.set k (-1)).getD k 0= -1:=jbz zO
  rw [gt,jqt ⟨rfl,rfl⟩ (by rw [hs];omega)];cases q with
  |nil=>
   rw [if_pos (.inl rfl)];show rdF mosts r (v.set k (-1)) k 1=rdF mosts r (v.set k (jcp [63])) k 1
   rw [jcp,if_pos rfl]
  |cons c2 q2=>
   have h2:c2.toNat≠45:=fun e=>hq c2 zS (vT.1 (by rw [e];rfl))
   rw [gt,jcW zO zO (by rw [hs];omega),if_neg];rintro (e|e)
   ·simp at e
   ·exact hno e.1
 ·have hn63:c::q≠[63]:=fun e=>by
   obtain ⟨rfl,-⟩:=List.cons.inj e
   exact h63 rfl
  by_cases hdg:jfK c
  ·have hdg':=hdg
   unfold jfK at hdg'
   have hs:(v.set k (10*v.getD k 0+((c.toNat:Int)-48))).getD k 0=10*v.getD k 0+((c.toNat:Int)-48):=jbz zO
   have hx:10*v.getD k 0+((c.toNat:Int)-48)=((c.toNat-48:Nat):Int):=by rw [h0];omega
   have hf:jdE 0 (c::q)=jdE (c.toNat-48) q:=by
    show jdE (10*0+(c.toNat-48)) q=_
    rw [Nat.mul_zero,GD]
   by_cases hb:(v.set k (10*v.getD k 0+((c.toNat:Int)-48))).getD k 0>mosts.getD k 0
   ·rw [gt,jky ⟨hdg',.inl rfl⟩ hb,if_neg];rintro (e|⟨e1,e2⟩)
    ·exact hn63 e
    ·rw [jkE hd e1,hf] at e2
     rw [hs,hx] at hb
     have:=jkV q (c.toNat-48) zO
     omega
   ·have hb':(v.set k (10*v.getD k 0+((c.toNat:Int)-48))).getD k 0≤mosts.getD k 0:=by omega
    rw [gt,jkx ⟨hdg',.inl rfl⟩ hb'];by_cases hz:c.toNat=48
    ·have hcc:c=48:=vT.1 (by rw [hz];rfl)
     subst hcc
     cases q with
     |nil=>
      have hok:jf1 [48]:=hni.2 ⟨by decide,fun e=>e.2 rfl,fun c hc=>by rw [gr.1 hc];decide⟩
      have hns:=jkE hd hok
      have hz0:(jdE 0 ([48]:Str):Int)=0:=rfl
      rw [if_pos (.inr ⟨hok,by omega,by omega⟩),jcp,if_neg hn63,hns,hz0,hx];rfl
     |cons c2 q2=>
      have h2:c2.toNat≠45:=fun e=>hq c2 zS (vT.1 (by rw [e];rfl))
      rw [gt,jcW zO zO (by rw [hs,hx];rintro ⟨-,e⟩;rcases e with e|e;omega;simp at e),if_neg];rintro (e|e)
      ·exact hn63 e
      ·exact (hni.1 e.1).2.1 ⟨rfl,by simp⟩
    ·rw [jql q r _ k (0+1) (c.toNat-48) (by simpa using hv) hk zO zO (by rw [hs,hx]) (by rw [hs,hx] at hb';exact hb') hq];by_cases hall:(∀c∈q,jfK c)∧(jdE (c.toNat-48) q:Int)≤mosts.getD k 0
     ·have h9:=jl3 q (c.toNat-48) zO
      have hok:jf1 (c::q):=hni.2 ⟨by simp only [gY];omega,fun e=>hz (by have:=e.1;rw [show c=48 from this];rfl),fun c' hc'=>by rcases gO.1 hc' with rfl|e;exact hdg;exact hall.1 c' e⟩
      have hns:=jkE hd hok
      rw [hf] at hns
      rw [if_pos hall,if_pos (.inr ⟨hok,by omega,by omega⟩),set_set,jcp,if_neg hn63,hns];simp only [gY]
      rw [GD,vv]
     ·rw [if_neg hall,if_neg];rintro (e|⟨e1,e2⟩)
      ·exact hn63 e
      ·rw [jkE hd e1,hf] at e2
       exact hall ⟨fun c' hc'=>(hni.1 e1).2.2 c' (by simp [hc']),e2.2⟩
  ·rw [gt,jcW zO zO (by rintro ⟨a,-⟩;exact hdg a),if_neg];rintro (e|e)
   ·exact hn63 e
   ·exact hdg ((hni.1 e.1).2.2 c zS)
theorem jh3: ∀s:Str,∃p r,s=p++r∧(∀c∈p,c≠45)∧((r=[]∧spl 45 s=[p])∨ ∃r',r=45::r'∧spl 45 s=p::spl 45 r')
 |[]=>⟨[],[],rfl,by simp,.inl ⟨rfl,rfl⟩⟩
 |x::t=>by
  by_cases hx:x=45
  ·subst hx
   exact ⟨[],45::t,rfl,by simp,.inr ⟨t,rfl,by rw [spl,if_pos rfl]⟩⟩
  ·obtain ⟨p,r,rfl,hp,h⟩:=jh3 t
   refine ⟨x::p,r,rfl,fun c hc=>by rcases gO.1 hc with rfl|e;exact hx;exact hp c e,?_⟩
   rcases h with ⟨e1,e2⟩|⟨r',e1,e2⟩
   ·exact .inl ⟨e1,by rw [spl,if_neg hx,e2]⟩
   ·exact .inr ⟨r',e1,by rw [spl,if_neg hx,e2]⟩
theorem jkA (k:Nat): ¬je8 [] k:=by
 rintro (e|e)
 ·simp at e
 ·have:=((jmQ (p:=[]) zS).1 e.1).1.1
  simp at this
def okP (k:Nat) (ps:List Str):Prop:=ps.length=3-k∧ ∀j,j<3-k→je8 (ps.getD j []) (k+j)
theorem okP_cons {ps:List Str} (hk:k<2):okP k (p::ps)↔je8 p k∧okP (k+1) ps:=by
 unfold okP
 constructor
 ·rintro ⟨a,b⟩;refine ⟨b 0 zO,by simp only [gY] at a;omega,fun j hj=>?_⟩
  have:=b (j+1) zO
  rw [show k+(j+1)=k+1+j by omega] at this
  simpa using this
 ·rintro ⟨a,b,c⟩;refine ⟨by simp only [gY];omega,fun j hj=>?_⟩
  cases j with
  |zero=>exact a
  |succ j=>
   have:=c j zO
   rw [show k+(j+1)=k+1+j by omega];simpa using this
theorem jmO (hk:k≤2):okP k [p]↔k=2∧je8 p k:=by
 unfold okP
 constructor
 ·rintro ⟨a,b⟩;simp only [gY,vk] at a
  exact ⟨by omega,b 0 zO⟩
 ·rintro ⟨rfl,b⟩;refine ⟨rfl,fun j hj=>?_⟩
  obtain rfl:j=0:=by omega
  exact b
theorem jqu {r:Str} (h: ¬(0<n∧k<2)):rdF mosts (45::r) v k n=failV:=jcW (fun e=>h e.2) (fun e=>absurd e.1 zA) (fun e=>absurd e.1 zA)
theorem fig_go: ∀(d k:Nat) (s:Str) (v:List Int),k+d=2→v.length=3→(∀j,k≤j→v.getD j 0=0)→
  ((rdF mosts s v k 0).2=true↔okP k (spl 45 s))∧(okP k (spl 45 s)→(rdF mosts s v k 0).1=v.take k++(spl 45 s).map jcp):=by
 intro d
 induction d with
 |zero=>
  intro k s v hk hv h0
  obtain rfl:k=2:=by omega
  obtain ⟨p,r,rfl,hp,h⟩:=jh3 s
  by_cases hpn:p=[]
  ·subst hpn
   rcases h with ⟨rfl,e⟩|⟨r',rfl,e⟩
   ·rw [e];have: ¬okP 2 [([]:Str)]:=fun x=>jkA 2 ((jmO zO).1 x).2
    exact ⟨⟨fun x=>by simp [rdF] at x,fun x=>absurd x this⟩,fun x=>absurd x this⟩
   ·rw [e];have: ¬okP 2 (([]:Str)::spl 45 r'):=fun x=>jkA 2 (x.2 0 zO)
    rw [GI,jqu zO];exact E47
  ·rw [jnM p r v 2 hpn hp hv zO (h0 2 zO)];by_cases hpp:je8 p 2
   ·rw [if_pos hpp];rcases h with ⟨rfl,e⟩|⟨r',rfl,e⟩
    ·rw [e];have hl:0<p.length:=by cases p with|nil=>exact absurd rfl hpn|cons a b=>simp
     refine ⟨⟨fun _=>(jmO zO).2 ⟨rfl,hpp⟩,fun _=>by simp [rdF,hl]⟩,fun _=>?_⟩
     obtain ⟨a,b,c,rfl⟩:=three hv
     rfl
    ·rw [e,jqu zO];have: ¬okP 2 (p::spl 45 r'):=fun x=>by
      have h1:=x.1
      have h2:0<(spl 45 r').length:=vX.2 (jlm 45 r')
      simp only [gY] at h1
      omega
     exact E47
   ·rw [if_neg hpp];have: ¬okP 2 (spl 45 (p++r)):=by
     rcases h with ⟨-,e⟩|⟨r',-,e⟩<;>rw [e]<;>exact fun x=>hpp (x.2 0 zO)
    exact E47
 |succ d ih=>
  intro k s v hk hv h0
  obtain ⟨p,r,rfl,hp,h⟩:=jh3 s
  have hbad: ¬je8 p k→ ¬okP k (spl 45 (p++r)):=fun hpp=>by
   rcases h with ⟨-,e⟩|⟨r',-,e⟩<;>rw [e]<;>exact fun x=>hpp (x.2 0 zO)
  by_cases hpn:p=[]
  ·subst hpn
   have:=hbad (jkA k)
   rcases h with ⟨rfl,e⟩|⟨r',rfl,e⟩
   ·exact ⟨⟨fun x=>by simp [rdF] at x,fun x=>absurd x this⟩,fun x=>absurd x this⟩
   ·rw [show rdF mosts ([]++45::r') v k 0=failV from jqu zO];exact E47
  ·rw [jnM p r v k hpn hp hv zO (h0 k zO)];by_cases hpp:je8 p k
   ·rw [if_pos hpp];rcases h with ⟨rfl,e⟩|⟨r',rfl,e⟩
    ·rw [e,jmO zO];refine ⟨⟨fun x=>?_,fun x=>absurd x.1 zO⟩,fun x=>absurd x.1 zO⟩
     simp [rdF] at x
     omega
    ·have hl:0<p.length:=by cases p with|nil=>exact absurd rfl hpn|cons a b=>simp
     rw [e,jnI ⟨by decide,hl,by omega⟩,okP_cons zO];obtain ⟨i1,i2⟩:=ih (k+1) r' (v.set k (jcp p)) zO (by simpa using hv) (fun j hj=>by rw [set_other zO];exact h0 j zO)
     refine ⟨i1.trans ⟨fun x=>⟨hpp,x⟩,fun x=>x.2⟩,fun x=>?_⟩
     rw [i2 x.2,gu];have:(v.set k (jcp p)).take (k+1)=v.take k++[jcp p]:=by
      rw [ja5 _ k zN,VV zO];congr 2
      exact jbz zO
     rw [this,gG];rfl
   ·rw [if_neg hpp];have:=hbad hpp
    exact E47
theorem jis (s:Str):okR s↔jbc s=true:=by
 have:=(fig_go 2 0 s [0,0,0] rfl rfl fun j _=>jk5 j).1
 rw [jbc,this,okR,okP,jmg];refine and_congr_right fun _=>forall_congr' fun j=>?_
 rw [GD]
theorem jnY (s:Str):jjk s=if jbc s then jau s else []:=by
 by_cases h:okR s
 ·rw [jjk,if_pos h,if_pos ((jis s).1 h)];have:=(fig_go 2 0 s [0,0,0] rfl rfl fun j _=>jk5 j).2 (by
   have h2:=h
   rw [okR,jmg] at h2
   refine ⟨h2.1,fun j hj=>?_⟩
   rw [GD];exact h2.2 j hj)
  rw [jau,this,jmz,gh (by have:=h.1;omega),jmg];rfl
 ·rw [jjk,if_neg h,if_neg (fun e=>h ((jis s).2 e))]
end Go.Proofs
namespace Go.Proofs
open Go.Lo
open Go.Conc (G)
section
variable [LaidO B]
def lisP (s:Str):List Int:=if jbc s then jau s else []
theorem f55p_c (m:Md Tryz.prog B) (h:Hp) (s:Str) (hl:s.length≤100000):FnC m 91 #[str s] h fun v h'=> ∃new,h'=h++new∧ ∃w,OwnS 3 1 w (lisP s).length (jaq (lisP s)) new∧v= .tuple [w,.bool (jbc s)].toArray:=
 CallF.mono (f91_c m h s hl) fun v h' ⟨new,e,w,b,o,hb,ev⟩=>⟨new,e,w,by rw [lisP,←jnY];exact o,by
  rcases hb with ⟨h1,rfl⟩|⟨h1,rfl⟩
  ·rw [(jis s).1 h1];exact ev
  ·rw [show jbc s=false from gz.2 fun e=>h1 ((jis s).2 e)];exact ev⟩
theorem jhM:jfC v n=true↔ ∀j,j<3→(v.getD j 0<0∨v.getD j 0=(jdt n).getD j 0):=by
 rw [jfC,gX];exact ⟨fun e j hj=>by simpa using e j (gT.2 hj),fun e j hj=>by simpa using e j (gT.1 hj)⟩
theorem ixN (hi:i<3):([.int .i64 ((n:Int)/96),.int .i64 ((n:Int)/8%12),.int .i64 ((n:Int)%8)]:List Value)[0+((i:Nat):Int).toNat*1]?=some (.int .i64 ((jdt n).getD i 0)):=by
 rcases (by omega:i=0∨i=1∨i=2) with rfl|rfl|rfl<;>rfl
theorem jd0 (s:Str):jbw s=true↔jbc s=true∨s=[45]:=by rw [jbw,GR,decide_eq_true_iff];rfl
theorem f120_c (m:Md Tryz.prog B) (h:Hp) (s:Str) (hl:s.length≤100000):FnC m 120 #[str s] h fun v h'=>h'=h∧IsB (jbw s=true) v:=by
 refine jae Tryz.func120 rfl rfl (l:=(str s)::uu14) rfl ?_
 intro cf cs K hK
 refine Z7 ?_;refine D67 ?_
 rintro v n1 ⟨w1,o1,rfl⟩;refine jaG (jad ?_);obtain ⟨p1,c1,rfl,hc1,r1⟩:=jas (B:=B) o1
 refine Z7 ?_
 cases hfo:jbc s
 all_goals
  refine Z3 ?_
 ·refine Zs ?_
  by_cases hda:s=[45]
  refine jiA rfl rfl hda ?_;rotate_left
  refine jiB rfl rfl hda ?_;all_goals
   refine Z4 ?_;refine jac (h) rfl Tryz.func120 rfl jaa ?_;refine Zs ?_
   first
    |exact ⟨rfl,IsB.yes ((jd0 s).2 (.inl hfo))⟩
    |exact ⟨rfl,IsB.yes ((jd0 s).2 (.inr hda))⟩
    |exact E48
 ·refine Z6 ?_;refine jac (h) rfl Tryz.func120 rfl jaa ?_;refine Zs ?_
  first
   |exact ⟨rfl,IsB.yes ((jd0 s).2 (.inl hfo))⟩
   |exact ⟨rfl,IsB.yes ((jd0 s).2 (.inr hda))⟩
   |exact E48
theorem f92_c (m:Md Tryz.prog B) (h:Hp) {p:Option Addr} {c:Nat} (rd:RdS B h 1 (.slice p 3 c) 3 (jaq v)) (n:Nat) (hn:n<960):FnC m 92 #[.slice p 3 c,.int .i64 (n:Int)] h fun w h'=>h'=h∧IsB (jfC v n=true) w:=by
 refine jae Tryz.func92 rfl rfl (l:=(.slice p 3 c)::(.int .i64 (n:Int))::uu33) rfl ?_
 intro cf cs K hK
 refine Z7 ?_;refine jmT n 96 rfl zq rfl rfl zO zO ?_;refine Zs ?_;refine jmT n 8 rfl zq rfl rfl zO zO ?_;refine k_rem (a:=n/8) (b:=12) rfl zq zO ?_;refine Zs ?_;refine k_rem (a:=n) (b:=8) rfl zq zO ?_
 refine jcb kdq rfl zq zA zA rfl (fun q14=>jap (jad ?_));refine Z8 ?_
 refine jaf (fun nn l h'=> ∃(i:Nat),nn=3-i∧(i≤3)∧(∀j,j<i→(v.getD j 0<0∨v.getD j 0=(jdt n).getD j 0))∧(∃U:Nat→Value,l=((.slice p 3 c)::(.int .i64 (n:Int))::(U 2)::(U 3)::(U 4)::(.slice (some ⟨q14,0,none⟩) 3 3)::(.int .i64 (i:Int))::vw28 U 7 []))∧h++[⟨true,q14,.cells [.int .i64 ((n:Int)/96),.int .i64 ((n:Int)/8%12),.int .i64 ((n:Int)%8)].toArray 3 (0,0)⟩]=h') _ ⟨0,rfl,by omega,fun j hj=>absurd hj zO,exU rfl,rfl⟩ ?_;rintro nn l h' ⟨i,rfl,hi,hft,⟨U,rfl⟩,rfl⟩ hnext;refine Z4 ?_
 refine jak rfl zq (fun hc=>?_) (fun hc=>?_)
 ·refine Z6 ?_
  obtain ⟨b0,o0,rfl⟩:=rd.ptr zO
  refine jan [Zp 0,Zp 1,Zp 2,Zr 3,Zp 4,Zp 5,Zp 6,Zp 7,Zp 8,Zp 10,Zp 11,Zp 12,Zr 9,Zr 13,Zp 14,Zp 15] zK zK (gE _) ?_;refine Z2 ?_;refine D11 ?_;refine jaI rfl zq (rd.iat i zO zO) ?_;refine jbG rfl zq (fun hc=>?_) (fun hc=>?_)
  ·refine Z3 ?_;refine D113 ?_;refine Z2 ?_;refine D113 ?_;refine jaI rfl rfl (rd.iat i zO zO) ?_;refine jaI (v:= .int .i64 ((jdt n).getD i 0)) rfl rfl (Rd.held (Has.mem (b:=q14)) (by have:=ixN (n:=n) (i:=i) zO;simpa using this)) ?_
   refine jaP rfl rfl (fun hc=>?_) (fun hc=>?_)
   ·refine Z8 ?_;refine jac (h) rfl Tryz.func92 rfl jaa ?_;refine Zs ?_
    first
     |exact ⟨rfl,IsB.yes (jhM.2 fun j hj=>hft j zO)⟩
     |exact ⟨rfl,IsB.no fun e=>by have:=jhM.1 e i zO;omega⟩
   ·refine Z10 ?_
    exact m.weak jaa (hnext _ _ _ zO ⟨i+1,rfl,by omega,fun j hj=>by
     by_cases e:j<i
     ·exact hft j e
     ·obtain rfl:j=i:=by omega
      omega,exU rfl,rfl⟩)
  ·refine Z20 ?_
   exact m.weak jaa (hnext _ _ _ zO ⟨i+1,rfl,by omega,fun j hj=>by
    by_cases e:j<i
    ·exact hft j e
    ·obtain rfl:j=i:=by omega
     omega,exU rfl,rfl⟩)
 ·refine Z8 ?_;refine jac (h) rfl Tryz.func92 rfl jaa ?_;refine Zs ?_
  first
   |exact ⟨rfl,IsB.yes (jhM.2 fun j hj=>hft j zO)⟩
   |exact ⟨rfl,IsB.no fun e=>by have:=jhM.1 e i zO;omega⟩
theorem f46_c (m:Md Tryz.prog B) (h:Hp) (s:Str) (hl:s.length≤100000):FnC m 46 #[str s] h fun w h'=> ∃new,h'=h++new∧OwnS 3 1 w (jdw s).length (jaq (jdw s)) new:=by
 refine jae Tryz.func46 rfl rfl (l:=(str s)::uu26) rfl ?_
 intro cf cs K hK
 refine Z7 ?_;refine D67 ?_
 rintro v n1 ⟨w1,o1,rfl⟩;refine jaG (jad ?_);obtain ⟨p1,c1,rfl,hc1,r1⟩:=jas (B:=B) o1
 refine Z7 ?_
 cases hfo:jbc s
 rotate_left
 have hls:lisP s=jau s:=by rw [lisP,if_pos hfo]
 have hll:(lisP s).length=3:=by rw [hls];exact (ja7 s).len
 rw [hls] at r1
 have h3:=(ja7 s).len
 all_goals
  refine Z9 ?_
 ·rw [hll];refine jaf (fun nn l h'=> ∃(k:Nat) (wp:Option Addr) (wc:Nat) (M:Hp),nn=960-k∧(k≤960)∧(OwnS 3 1 (.slice wp (jhf (jau s) k).length wc) (jhf (jau s) k).length (jaq (jhf (jau s) k)) M)∧(∃U:Nat→Value,l=((str s)::(U 1)::(U 2)::(.slice p1 3 c1)::(.bool true)::(.slice wp (jhf (jau s) k).length wc)::(.int .i64 (k:Int))::vw20 U 7 []))∧h++n1++M=h') _ ⟨0,none,0,[],rfl,by omega,OwnS.nil,exU rfl,zS⟩ ?_;rintro nn l h' ⟨k,wp,wc,M,rfl,hk,how,⟨U,rfl⟩,rfl⟩ hnext;have hml:=jmS (jau s) k
  refine Z2 ?_
  skip
  ·refine Z2 ?_
   refine jbK rfl zq (fun hc=>?_) (fun hc=>?_)
   ·refine Z12 ?_;refine jag (Post:=fun v=>IsB _ v) rfl zq zK (fun H' hH=>f92_c m H' (c:=c1) (p:=p1) ((h3▸r1).keeps (sq hH)) k zO) ?_
    rintro v (⟨hc,rfl⟩|⟨hc,rfl⟩);refine Z6 ?_
    refine jcb kdq rfl zq zA zA rfl (fun q24=>jap (jad ?_));refine ja2 rfl zq rfl how kdq zO zO (fun w9 n9 o9=>jad ?_);obtain ⟨p9,c9,rfl,hc9,r9⟩:=jas (B:=B) o9
    refine Z2 ?_
    rotate_left
    refine Z4 ?_
    all_goals
     refine Z6 ?_
    ·have hks:jhf (jau s) (k+1)=jhf (jau s) k:=by rw [jf7,if_neg hc,gd]
     rw [←hks];exact E26
    ·have hks:jhf (jau s) (k+1)=jhf (jau s) k++[(k:Int)]:=by rw [jf7,if_pos hc]
     have hkl:(jhf (jau s) (k+1)).length=(jhf (jau s) k).length+1:=by rw [hks];simp
     rw [←hkl];exact E27
   ·refine Z12 ?_;refine jac (h++M) rfl Tryz.func46 rfl jaa ?_;refine Zs ?_
    obtain rfl:k=960:=by omega
    exact ⟨M,rfl,by rw [jdw,hfo];exact how⟩
 ·refine jaf (fun nn l h'=> ∃(k:Nat),nn=0-k∧(k≤0)∧(∃U:Nat→Value,l=((str s)::(U 1)::(U 2)::(U 3)::(.bool false)::(.slice none 0 0)::(.int .i64 (k:Int))::vw20 U 7 []))∧h++n1=h') _ ⟨0,rfl,by omega,exU rfl,rfl⟩ ?_;rintro nn l h' ⟨k,rfl,hk,⟨U,rfl⟩,rfl⟩ hnext;refine Z2 ?_
  skip
  ·refine Z2 ?_
   refine jbK rfl zq (fun hc=>?_) (fun hc=>?_);refine Z3 ?_
   rotate_left
   refine Z3 ?_
   all_goals
    refine Z9 ?_;refine jac (h) rfl Tryz.func46 rfl jaa ?_;refine Zs ?_
    exact ⟨[],by simp,by rw [jdw,hfo];exact OwnS.nil⟩
end
section
variable [LaidO B]
theorem f89_c (m:Md Tryz.prog B) (h:Hp) {b:Tb} (rds:RdS B h 1 (.slice ps ns ks) ns (jay b.sts)) (hcs:ns≤ks) (hns:ns≤1000) (hsl: ∀s∈b.sts,s.length≤100000) {nl cl:Nat} (hln:RdLn B h (.slice pl nl cl) nl lns) (hnl:nl≤1000) (hsm: ∀l∈lns,l.figs.length≤1000∧ ∀f∈l.figs,f.length≤100000):FnC m 89 #[tbV b ps ns ks pw nw cw pb nb cb,.slice pl nl cl] h fun v h'=>h'=h∧v= .int .i64 (jaD b.sts.length lns):=by
 have hml:=rds.elen zA
 obtain ⟨lps,rfl,rl,hfig⟩:=hln
 have hll:=rl.elen zA
 refine jae Tryz.func89 rfl rfl (l:=(tbV b ps ns ks pw nw cw pb nb cb)::(.slice pl nl cl)::uu67) rfl ?_
 intro cf cs K hK
 refine Z2 ?_
 refine jaF rfl zq (fun q2=>jap (jad ?_));refine Z7 ?_
 refine jaz rfl zq (fun hc=>?_) (fun hc=>?_)
 ·refine Z7 ?_;refine D68 ?_;refine Zs ?_
  refine ⟨rfl,congrArg (Value.int .i64) ?_⟩
  first
   |(rw [jaD,if_pos zI];done)
   |(rw [jaD,if_neg zI,hlm];first
     |(rw [gS zI];rfl)
     |(rw [hdr];first
       |exact (jb4 zO).symm
       |exact E30
       |exact E31
       |exact E49))
 ·refine Z9 ?_
  refine jaf (fun nn l h'=> ∃(i:Nat),nn=nl-i∧(i≤nl)∧(jb0 b.sts.length none (lps.map (·.ln))=jb0 b.sts.length (jmM (lps.map (·.ln)) i) ((lps.map (·.ln)).drop i))∧(∃U:Nat→Value,l=((tbV b ps ns ks pw nw cw pb nb cb)::(.slice pl nl cl)::(.pointer (some ⟨q2,0,none⟩))::(U 3)::(U 4)::(.int .i64 (i:Int))::vw63 U 6 []))∧h++[⟨true,q2,.cells (tbL b ps ns ks pw nw cw pb nb cb).toArray 25 (0,0)⟩]=h') _ ⟨0,rfl,by omega,rfl,exU rfl,rfl⟩ ?_;rintro nn l h' ⟨i,rfl,hi,hlm,⟨U,rfl⟩,rfl⟩ hnext1;refine Z6 ?_
  refine jak rfl zq (fun hc=>?_) (fun hc=>?_)
  ·refine Z7 ?_
   obtain ⟨rl_b,rl_o,rfl⟩:=rl.ptr zO
   obtain ⟨x,hx⟩: ∃x,x=lps.getD i default:=⟨_,rfl⟩
   have hxm:x∈lps:=hx▸jal zO
   obtain ⟨hxc,rdf0⟩:=hfig x hxm
   have hdr:(lps.map (·.ln)).drop i=x.ln::(lps.map (·.ln)).drop (i+1):=by rw [jkX zI,ja9 _ _ zO,←hx]
   obtain ⟨hfl,hfs⟩:=hsm x.ln (gP.2 ⟨x,hxm,rfl⟩)
   refine Z3 ?_;refine D11 ?_;refine Zs ?_;refine jaI (v:= .int .i64 (lps.getD i default).ln.lat) rfl zq (rl.fat i 0 zO zO rfl) ?_
   rw [←hx];refine D63 ?_
   rintro v (⟨hc,rfl⟩|⟨hc,rfl⟩)
   ·refine Z7 ?_;refine jan [Zp 0,Zp 1,Zp 2,Zp 3,Zp 4,Zp 5,Zp 6,Zp 8,Zp 9,Zp 10,Zp 11,Zp 12,Zr 7,Zr 13,Zp 14,Zp 15] zK zK (gE _) ?_;refine Zs ?_
    refine jaz rfl zq (fun hc=>?_) (fun hc=>?_)
    ·refine Z3 ?_;refine D113 ?_;refine Z3 ?_;refine D100 ?_;refine D113 ?_;refine Zs ?_;refine jaI (v:= .int .i64 (lps.getD i default).ln.lat) rfl rfl (rl.fat i 0 zO zO rfl) ?_
     rw [←hx];refine D115 ?_
     refine jbK rfl rfl (fun hc=>?_) (fun hc=>?_)
     ·refine Z8 ?_;refine D68 ?_;refine Zs ?_
      refine ⟨rfl,congrArg (Value.int .i64) ?_⟩
      first
       |(rw [jaD,if_pos zI];done)
       |(rw [jaD,if_neg zI,hlm];first
         |(rw [gS zI];rfl)
         |(rw [hdr];first
           |exact (jb4 zO).symm
           |exact E30
           |exact E31
           |exact E49))
     ·refine Z6 ?_
      have hnu: ¬jhv (jmM (lps.map (·.ln)) i) x.ln.lat:=by
       rintro ⟨y,e1,e2⟩;first
        |(have hi0:i=0:=by omega
          subst hi0
          cases e1)
        |(rw [jaQ zO,ja9 _ _ zO] at e1;have e3:=gF e1;omega)
      refine D65 ?_;refine Z2 ?_;refine D11 ?_;refine Z2 ?_;refine D17 ?_
      rw [←hx];refine Z3 ?_
      refine jaP rfl zq (fun hc=>?_) (fun hc=>?_)
      ·refine Z7 ?_;refine D68 ?_;refine Zs ?_
       refine ⟨rfl,congrArg (Value.int .i64) ?_⟩
       first
        |(rw [jaD,if_pos zI];done)
        |(rw [jaD,if_neg zI,hlm];first
          |(rw [gS zI];rfl)
          |(rw [hdr];first
            |exact (jb4 zO).symm
            |exact E30
            |exact E31
            |exact E49))
      ·refine Z8 ?_
       refine jaf (fun nn l h'=> ∃(k:Nat),nn=x.ln.figs.length-k∧(k≤x.ln.figs.length)∧(∀j,j<k→jbw (x.ln.figs.getD j [])=true)∧(∃U:Nat→Value,l=((tbV b ps ns ks pw nw cw pb nb cb)::(.slice (some ⟨rl_b,rl_o,none⟩) nl cl)::(.pointer (some ⟨q2,0,none⟩))::(U 3)::(U 4)::(.int .i64 (i:Int))::(.int .i64 (k:Int))::vw62 U 7 []))∧h++[⟨true,q2,.cells (tbL b ps ns ks pw nw cw pb nb cb).toArray 25 (0,0)⟩]=h') _ ⟨0,rfl,by omega,fun j hj=>absurd hj zO,exU rfl,rfl⟩ ?_;rintro nn l h' ⟨k,rfl,hk,hfk,⟨U,rfl⟩,rfl⟩ hnext2;refine Z6 ?_;refine D11 ?_;refine Zs ?_;refine D17 ?_
       rw [←hx];refine Zs ?_
       refine jak rfl zq (fun hc=>?_) (fun hc=>?_)
       ·refine Z6 ?_
        have rdf:=rdf0 zO
        obtain ⟨fb,fo,hfp⟩:=rdf.ptr zO
        have rdg:=rdf
        rw [hfp] at rdg
        have hsk:(x.ln.figs.getD k []).length≤100000:=hfs _ (jal (l:=x.ln.figs) zO)
        refine Z3 ?_;refine D11 ?_;refine Zs ?_;refine D17 ?_
        rw [←hx];refine Zs ?_;refine D57 ?_;refine D105 ?_;refine jag (Post:=fun v=>IsB _ v) rfl zq zK (fun H' hH=>f120_c m H' _ hsk) ?_
        rintro v (⟨hc,rfl⟩|⟨hc,rfl⟩)
        ·refine Z6 ?_
         skip
         refine Z5 ?_
         exact m.weak jaa (hnext2 _ _ _ zO ⟨k+1,rfl,by omega,fun j hj=>by
          by_cases e:j<k
          ·exact hfk j e
          ·obtain rfl:j=k:=by omega
           assumption,exU rfl,rfl⟩)
        ·refine Z9 ?_;refine D68 ?_;refine Zs ?_
         refine ⟨rfl,congrArg (Value.int .i64) ?_⟩
         first
          |(rw [jaD,if_pos zI];done)
          |(rw [jaD,if_neg zI,hlm];first
            |(rw [gS zI];rfl)
            |(rw [hdr];first
              |exact (jb4 zO).symm
              |exact E30
              |exact E31
              |exact E49))
       ·refine Z4 ?_
        have hall: ∀f∈x.ln.figs,jbw f=true:=fun f hf=>by
         obtain ⟨j,hj,e⟩:=GE.1 hf
         have:=hfk j zO
         rw [gC,gD hj] at this
         exact e▸this
        refine Z5 ?_
        exact E33
    ·refine Z19 ?_
     have hnu: ¬jhv (jmM (lps.map (·.ln)) i) x.ln.lat:=by
      rintro ⟨y,e1,e2⟩;first
       |(have hi0:i=0:=by omega
         subst hi0
         cases e1)
       |(rw [jaQ zO,ja9 _ _ zO] at e1;have e3:=gF e1;omega)
     refine D65 ?_;refine Z2 ?_;refine D11 ?_;refine Z2 ?_;refine D17 ?_
     rw [←hx];refine Z3 ?_
     refine jaP rfl zq (fun hc=>?_) (fun hc=>?_)
     ·refine Z7 ?_;refine D68 ?_;refine Zs ?_
      refine ⟨rfl,congrArg (Value.int .i64) ?_⟩
      first
       |(rw [jaD,if_pos zI];done)
       |(rw [jaD,if_neg zI,hlm];first
         |(rw [gS zI];rfl)
         |(rw [hdr];first
           |exact (jb4 zO).symm
           |exact E30
           |exact E31
           |exact E49))
     ·refine Z8 ?_
      refine jaf (fun nn l h'=> ∃(k:Nat),nn=x.ln.figs.length-k∧(k≤x.ln.figs.length)∧(∀j,j<k→jbw (x.ln.figs.getD j [])=true)∧(∃U:Nat→Value,l=((tbV b ps ns ks pw nw cw pb nb cb)::(.slice (some ⟨rl_b,rl_o,none⟩) nl cl)::(.pointer (some ⟨q2,0,none⟩))::(U 3)::(U 4)::(.int .i64 (i:Int))::(.int .i64 (k:Int))::vw62 U 7 []))∧h++[⟨true,q2,.cells (tbL b ps ns ks pw nw cw pb nb cb).toArray 25 (0,0)⟩]=h') _ ⟨0,rfl,by omega,fun j hj=>absurd hj zO,exU rfl,rfl⟩ ?_;rintro nn l h' ⟨k,rfl,hk,hfk,⟨U,rfl⟩,rfl⟩ hnext2;refine Z6 ?_;refine D11 ?_;refine Zs ?_;refine D17 ?_
      rw [←hx];refine Zs ?_
      refine jak rfl zq (fun hc=>?_) (fun hc=>?_)
      ·refine Z6 ?_
       have rdf:=rdf0 zO
       obtain ⟨fb,fo,hfp⟩:=rdf.ptr zO
       have rdg:=rdf
       rw [hfp] at rdg
       have hsk:(x.ln.figs.getD k []).length≤100000:=hfs _ (jal (l:=x.ln.figs) zO)
       refine Z3 ?_;refine D11 ?_;refine Zs ?_;refine D17 ?_
       rw [←hx];refine Zs ?_;refine D57 ?_;refine D105 ?_;refine jag (Post:=fun v=>IsB _ v) rfl zq zK (fun H' hH=>f120_c m H' _ hsk) ?_
       rintro v (⟨hc,rfl⟩|⟨hc,rfl⟩)
       ·refine Z6 ?_
        skip
        refine Z5 ?_
        exact m.weak jaa (hnext2 _ _ _ zO ⟨k+1,rfl,by omega,fun j hj=>by
         by_cases e:j<k
         ·exact hfk j e
         ·obtain rfl:j=k:=by omega
          assumption,exU rfl,rfl⟩)
       ·refine Z9 ?_;refine D68 ?_;refine Zs ?_
        refine ⟨rfl,congrArg (Value.int .i64) ?_⟩
        first
         |(rw [jaD,if_pos zI];done)
         |(rw [jaD,if_neg zI,hlm];first
           |(rw [gS zI];rfl)
           |(rw [hdr];first
             |exact (jb4 zO).symm
             |exact E30
             |exact E31
             |exact E49))
      ·refine Z4 ?_
       have hall: ∀f∈x.ln.figs,jbw f=true:=fun f hf=>by
        obtain ⟨j,hj,e⟩:=GE.1 hf
        have:=hfk j zO
        rw [gC,gD hj] at this
        exact e▸this
       refine Z5 ?_
       exact E33
   ·refine Z9 ?_;refine D68 ?_;refine Zs ?_
    refine ⟨rfl,congrArg (Value.int .i64) ?_⟩
    first
     |(rw [jaD,if_pos zI];done)
     |(rw [jaD,if_neg zI,hlm];first
       |(rw [gS zI];rfl)
       |(rw [hdr];first
         |exact (jb4 zO).symm
         |exact E30
         |exact E31
         |exact E49))
  ·refine Z8 ?_;refine D68 ?_;refine Zs ?_
   refine ⟨rfl,congrArg (Value.int .i64) ?_⟩
   first
    |(rw [jaD,if_pos zI];done)
    |(rw [jaD,if_neg zI,hlm];first
      |(rw [gS zI];rfl)
      |(rw [hdr];first
        |exact (jb4 zO).symm
        |exact E30
        |exact E31
        |exact E49))
end
end Go.Proofs
namespace Go.Proofs
open Go.Lo
theorem jh6 (x:UInt8) (r:Str):jgv (x::r)=jgv r+if x.toNat=63 then 1 else 0:=by
 rw [jgv,VQ];simp [jgv]
theorem jln: ∀s:Str,jgv s=((spl 45 s).map jgv).sum
 |[]=>rfl
 |x::r=>by
  have ih:=jln r
  by_cases hx:x=45
  ·subst hx
   rw [spl,if_pos rfl,jh6,ih];simp [jgv]
  ·obtain ⟨p,q,hpq⟩: ∃p q,spl 45 r=p::q:=by
    cases e:spl 45 r with
    |nil=>exact absurd e (jlm 45 r)
    |cons p q=>exact ⟨p,q,rfl⟩
   rw [spl,if_neg hx,hpq,jh6,ih,hpq];simp only [gu,vL,jh6]
   omega
theorem jhD: ∀(s:Str),∀p∈spl 45 s,∀c∈p,c≠45
 |[],p,h,c,hc=>by
  simp [spl] at h
  subst h
  simp at hc
 |x::r,p,h,c,hc=>by
  by_cases hx:x=45
  ·rw [spl,if_pos hx] at h
   rcases gO.1 h with rfl|h
   ·simp at hc
   ·exact jhD r p h c hc
  ·obtain ⟨p',q,hpq⟩: ∃p q,spl 45 r=p::q:=by
    cases e:spl 45 r with
    |nil=>exact absurd e (jlm 45 r)
    |cons p q=>exact ⟨p,q,rfl⟩
   rw [spl,if_neg hx,hpq] at h
   simp only at h
   rcases gO.1 h with rfl|h
   ·rcases gO.1 hc with rfl|hc
    ·exact hx
    ·exact jhD r p' (by rw [hpq];simp) c hc
   ·exact jhD r p (by rw [hpq];simp [h]) c hc
theorem part_smu (h:je8 p k) (hd: ∀c∈p,c≠45):jgv p=if jcp p= -1 then 1 else 0:=by
 by_cases hq:p=[63]
 ·subst hq
  rw [jcp,if_pos rfl];rfl
 ·rcases h with e|⟨e1,e2,e3⟩
  ·exact absurd e hq
  ·rw [jcp,if_neg hq,if_neg zO,jgv,xM];intro c hc e
   have h1:=((jmQ hd).1 e1).2.2 c hc
   have h2:=of_decide_eq_true e
   unfold jfK at h1
   omega
theorem jlp: ∀(l:List Str),(∀p∈l,(∃k,je8 p k)∧ ∀c∈p,c≠45)→(l.map jcp).countP (fun x=>decide (x= -1))=(l.map jgv).sum
 |[],_=>rfl
 |p::l,h=>by
  have ih:=jlp l fun q hq=>h q (by simp [hq])
  obtain ⟨⟨k,hp⟩,hd⟩:=h p zS
  rw [gu,VQ,ih,gu,vL,part_smu hp hd,vv];simp
theorem jp6 (h:jbw s=true):jgv s=jfT s:=by
 rw [jbw,GR] at h
 rcases h with h|h
 ·have hok:=(jis s).2 h
  have hv:jau s=(spl 45 s).map jcp:=by
   have:=jnY s
   rw [jjk,if_pos hok,if_pos h,jmz,gh (by have:=hok.1;omega),jmg] at this
   exact this.symm
  have hok2:=hok
  rw [okR,jmg] at hok2
  rw [jfT,hv,jlp,jln];intro p hp
  refine ⟨?_,jhD s p hp⟩
  obtain ⟨j,hj,e⟩:=GE.1 hp
  have:=hok2.2 j zO
  rw [gC,gD hj] at this
  exact ⟨j,e▸this⟩
 ·obtain rfl:s=jjn:=of_decide_eq_true h
  decide
theorem jlN {n:Nat}: ∀(ls:List Ln) (p:Option Int),jb0 n p ls=0→ ∀l∈ls,l.figs.length=n∧ ∀f∈l.figs,jbw f=true
 |[],_,_,l,hl=>by simp at hl
 |x::r,p,h,l,hl=>by
  unfold jb0 at h
  split at h
  ·omega
  ·split at h
   ·omega
   ·split at h
    ·omega
    ·split at h
     ·omega
     ·rename_i h3 h4
      rcases gO.1 hl with rfl|hl
      ·exact ⟨Decidable.not_not.1 h3,Decidable.not_not.1 h4⟩
      ·exact jlN r _ h l hl
theorem jf8 (h:jaD n ls=0):ls.length≤2∧ ∀l∈ls,l.figs.length=n∧ ∀f∈l.figs,jbw f=true:=by
 unfold jaD at h
 split at h
 ·omega
 ·exact ⟨by omega,jlN ls _ h⟩
def jks (l:Ln):Nat:=(l.figs.map jgv).sum
theorem jkr {l:Ln} (h: ∀f∈l.figs,jbw f=true):jks l=jht l:=by
 rw [jks,jht,GY fun f hf=>jp6 (h f hf)]
theorem jnv (h:jaD n ls=0):(ls.map jks).sum=jjd ls:=by
 rw [jjd,GY fun l hl=>jkr ((jf8 h).2 l hl).2]
end Go.Proofs
namespace Go.Proofs
open Go.Lo
open Go.Conc (G)
section
variable [LaidO B]
theorem jaT {b:Tb} {v:Int} (h:jek b=v) (h0:v≠0):tbS b=v:=by rw [tbS,h,if_pos h0]
theorem jfp {b:Tb} (h:jek b=0) (h0:jaD b.sts.length b.waters≠0):tbS b=jaD b.sts.length b.waters:=by rw [tbS,if_neg (fun e=>e h),jiZ,if_pos h0]
theorem jfq {b:Tb} (h:jek b=0) (h0:jaD b.sts.length b.waters=0) (h1:jaD b.sts.length b.butts≠0):tbS b=jaD b.sts.length b.butts:=by rw [tbS,if_neg (fun e=>e h),jiZ,if_neg (fun e=>e h0),if_pos h1]
theorem jbO {b:Tb} (h:jek b=0) (h0:jaD b.sts.length b.waters=0) (h1:jaD b.sts.length b.butts=0):tbS b=if jjd b.waters+jjd b.butts>2 then 2 else 0:=by rw [tbS,if_neg (fun e=>e h),jiZ,if_neg (fun e=>e h0),if_neg (fun e=>e h1)]
def jpp (L:List Ln) (k:Nat):Nat:=((L.take k).map jks).sum
theorem jrT (h:k<L.length):jpp L (k+1)=jpp L k+jks (L.getD k default):=jfQ jks L k h
theorem jbQ {b:Tb} (h0:jaD n b.waters=0) (h1:jaD n b.butts=0) (hk:b.waters.length+b.butts.length≤k):jpp (b.waters++b.butts) k=jjd b.waters+jjd b.butts:=by
 rw [jpp,gh (by simpa using hk),GA,VZ,jnv h0,jnv h1]
theorem f40_c (m:Md Tryz.prog B) (h:Hp) {b:Tb} (rds:RdS B h 1 (.slice ps ns ks) ns (jay b.sts)) (hcs:ns≤ks) (hns:ns≤1000) (hsl: ∀s∈b.sts,s.length≤100000) (rdw:RdLn B h (.slice pw nw cw) nw b.waters) (hnw:nw≤1000) (rdb:RdLn B h (.slice pb nb cb) nb b.butts) (hnb:nb≤1000) (hsm:TbSm b):FnC m 40 #[tbV b ps ns ks pw nw cw pb nb cb] h fun v h'=>h'=h∧v= .int .i64 (tbS b):=by
 have hml:=rds.elen zA
 refine jae Tryz.func40 rfl rfl (l:=(tbV b ps ns ks pw nw cw pb nb cb)::uu93) rfl ?_
 intro cf cs K hK
 refine Z2 ?_
 refine jaF rfl zq (fun q1=>jap (jad ?_));refine Z7 ?_;refine D63 ?_
 rintro v (⟨hc,rfl⟩|⟨hc,rfl⟩)
 ·refine Z11 ?_;refine D63 ?_
  rintro v (⟨hc,rfl⟩|⟨hc,rfl⟩)
  ·refine Z11 ?_
   refine jaf (fun nn l h'=> ∃(i:Nat),nn=ns-i∧(i≤ns)∧(jdu [] b.sts=jdu (b.sts.take i) (b.sts.drop i))∧(∃U:Nat→Value,l=((tbV b ps ns ks pw nw cw pb nb cb)::(.pointer (some ⟨q1,0,none⟩))::(U 2)::(.int .i64 (i:Int))::vw90 U 4 []))∧h++[⟨true,q1,.cells (tbL b ps ns ks pw nw cw pb nb cb).toArray 25 (0,0)⟩]=h') _ ⟨0,rfl,by omega,by simp,exU rfl,rfl⟩ ?_;rintro nn l h' ⟨i,rfl,hi,hnm,⟨U,rfl⟩,rfl⟩ hnext1;refine Z7 ?_
   refine jak rfl zq (fun hc=>?_) (fun hc=>?_)
   ·refine Z7 ?_
    have hdr:b.sts.drop i=b.sts.getD i []::b.sts.drop (i+1):=jkX zO
    have hsi:(b.sts.getD i []).length≤100000:=hsl _ (jal (l:=b.sts) zO)
    have rdt:=rds.pre (m:=i) zO
    rw [GK,←jjZ] at rdt
    obtain ⟨s_b,s_o,hps⟩:=rds.ptr zO
    have rdsg:=rds
    rw [hps] at rdsg
    refine Z4 ?_;refine ja1 rfl zq hps zO zO ?_;refine jaI rfl zq (rdsg.sat i zO zO) ?_;refine jag (Post:=fun v=>IsB _ v) rfl zq zK (fun H' hH=>f87_c m H' _ hsi) ?_
    rintro v (⟨hc,rfl⟩|⟨hc,rfl⟩)
    ·refine Z6 ?_;refine jan [Zp 0,Zp 2,Zp 4,Zp 6,Zr 1,Zp 3,Zr 5,Zp 7,Zr 8,Zk 9,Zp 10] zK zK (gE _) ?_;refine Z5 ?_;refine jlQ (b:=i) rfl zq rds.okp rfl zO ?_;refine Zs ?_;refine ja1 rfl zq hps zO zO ?_;refine jaI rfl zq (rdsg.sat i zO zO) ?_;refine jag (Post:=fun v=> ∃x:Int,v= .int .i64 x∧jep x∧(0≤x↔b.sts.getD i []∈b.sts.take i)) rfl zq zK (fun H' hH=>f88_c m H' (rdt.keeps (sq hH)) zO _) ?_
     rintro v ⟨fx,rfl,hx64,hxi⟩;refine Zs ?_
     refine jbG rfl zq (fun hc=>?_) (fun hc=>?_)
     ·refine Z7 ?_;refine D82 ?_;refine Zs ?_
      refine ⟨rfl,congrArg (Value.int .i64) ?_⟩
      first
       |exact E50
       |exact E51
       |(refine (jaT (v:=4) ?_ zA).symm;rw [jbg zO zO,hnm,hdr];exact jc5 zD)
       |(refine (jaT (v:=5) ?_ zA).symm;rw [jbg zO zO,hnm,hdr];exact jc4 zD (hxi.1 zO))
       |exact (jfp hh0 zD).symm
       |exact E52
       |(rw [jbO hh0 hw0 hb0,←jbQ hw0 hb0 (k:=k) zO,if_pos zO];done)
       |(rw [jbO hh0 hw0 hb0,←jbQ hw0 hb0 (k:=k) zO,if_neg zO];done)
     ·refine Z9 ?_
      exact m.weak jaa (hnext1 _ _ _ zO ⟨i+1,rfl,by omega,by rw [hnm,hdr,jnU zD (fun e=>by have:=hxi.2 e;omega),←jjy b.sts i zO],exU rfl,rfl⟩)
    ·refine Z9 ?_;refine D82 ?_;refine Zs ?_
     refine ⟨rfl,congrArg (Value.int .i64) ?_⟩
     first
      |exact E50
      |exact E51
      |(refine (jaT (v:=4) ?_ zA).symm;rw [jbg zO zO,hnm,hdr];exact jc5 zD)
      |(refine (jaT (v:=5) ?_ zA).symm;rw [jbg zO zO,hnm,hdr];exact jc4 zD (hxi.1 zO))
      |exact (jfp hh0 zD).symm
      |exact E52
      |(rw [jbO hh0 hw0 hb0,←jbQ hw0 hb0 (k:=k) zO,if_pos zO];done)
      |(rw [jbO hh0 hw0 hb0,←jbQ hw0 hb0 (k:=k) zO,if_neg zO];done)
   ·refine Z5 ?_
    have hh0:jek b=0:=by
     rw [jbg zO zO,hnm,gS zO];rfl
    refine Z4 ?_;refine jag (Post:=fun v=>v= .int .i64 (jaD b.sts.length b.waters)) rfl zq zK (fun H' hH=>f89_c m H' (rds.keeps (sq hH)) hcs hns hsl (rdw.keeps (sq hH)) hnw hsm.wat) ?_
    rintro v rfl;refine Z6 ?_
    refine jaP rfl zq (fun hc=>?_) (fun hc=>?_)
    ·refine Z8 ?_;refine D82 ?_;refine Zs ?_
     refine ⟨rfl,congrArg (Value.int .i64) ?_⟩
     first
      |exact E50
      |exact E51
      |(refine (jaT (v:=4) ?_ zA).symm;rw [jbg zO zO,hnm,hdr];exact jc5 zD)
      |(refine (jaT (v:=5) ?_ zA).symm;rw [jbg zO zO,hnm,hdr];exact jc4 zD (hxi.1 zO))
      |exact (jfp hh0 zD).symm
      |exact E52
      |(rw [jbO hh0 hw0 hb0,←jbQ hw0 hb0 (k:=k) zO,if_pos zO];done)
      |(rw [jbO hh0 hw0 hb0,←jbQ hw0 hb0 (k:=k) zO,if_neg zO];done)
    ·refine Z9 ?_;refine jag (Post:=fun v=>v= .int .i64 (jaD b.sts.length b.butts)) rfl zq zK (fun H' hH=>f89_c m H' (rds.keeps (sq hH)) hcs hns hsl (rdb.keeps (sq hH)) hnb hsm.but) ?_
     rintro v rfl;refine Z6 ?_
     refine jaP rfl zq (fun hc=>?_) (fun hc=>?_)
     ·refine Z8 ?_;refine D82 ?_;refine Zs ?_
      refine ⟨rfl,congrArg (Value.int .i64) ?_⟩
      first
       |exact E50
       |exact E51
       |(refine (jaT (v:=4) ?_ zA).symm;rw [jbg zO zO,hnm,hdr];exact jc5 zD)
       |(refine (jaT (v:=5) ?_ zA).symm;rw [jbg zO zO,hnm,hdr];exact jc4 zD (hxi.1 zO))
       |exact (jfp hh0 zD).symm
       |exact E52
       |(rw [jbO hh0 hw0 hb0,←jbQ hw0 hb0 (k:=k) zO,if_pos zO];done)
       |(rw [jbO hh0 hw0 hb0,←jbQ hw0 hb0 (k:=k) zO,if_neg zO];done)
     ·refine Z8 ?_
      have hw0:jaD b.sts.length b.waters=0:=by omega
      have hb0:jaD b.sts.length b.butts=0:=by omega
      obtain ⟨lw,hlw,rw_,hfw⟩:=rdw
      obtain ⟨lb,hlb,rb_,hfb⟩:=rdb
      have hlwl:=rw_.elen zA
      have hlbl:=rb_.elen zA
      have hbw:b.waters.length=nw:=by rw [←hlw,gU,hlwl]
      have hbb:b.butts.length=nb:=by rw [←hlb,gU,hlbl]
      refine jan [Zp 1,Zp 4,Zr 2,Zr 5,Zk 0,Zk 3,Zk 6,Zp 7] zK zK (gE _) ?_;refine Z4 ?_;refine jfa kdq rfl zq (fun q58=>jap (jad ?_));refine jcX rfl zq (OwnS.zero (q:=q58)) rw_.up (jdJ _) kdq zO zO (fun w61 n61 o61=>jad ?_);refine jcX rfl zq o61 rb_.up (jdJ _) kdq zO zO (fun w64 n64 o64=>jad ?_);replace o64:OwnS 114 2 w64 (nw+nb) (jay (lw++lb)) n64:=by rw [jaX];simpa using o64
      obtain ⟨p64,c64,rfl,hc64,r64⟩:=jas (B:=B) o64
      refine Z4 ?_
      have hall: ∀l∈b.waters++b.butts,jks l≤3000:=fun l hl=>by
       rcases gQ.1 hl with hl|hl
       ·rw [jkr ((jf8 hw0).2 l hl).2];exact jkq (hsm.wat l hl).1
       ·rw [jkr ((jf8 hb0).2 l hl).2];exact jkq (hsm.but l hl).1
      have hlen:(lw++lb).length=nw+nb:=by rw [gJ,hlwl,hlbl]
      have hln:(lw++lb).map (·.ln)=b.waters++b.butts:=by rw [GA,hlw,hlb]
      refine Z4 ?_
      refine jaf (fun nn l h'=> ∃(k:Nat),nn=nw+nb-k∧(k≤nw+nb)∧(∃U:Nat→Value,l=((tbV b ps ns ks pw nw cw pb nb cb)::vw5 U 1 ((.int .i64 (jpp (b.waters++b.butts) k:Int))::(.slice p64 (nw+nb) c64)::(.int .i64 (k:Int))::vw85 U 9 [])))∧h++[⟨true,q1,.cells (tbL b ps ns ks pw nw cw pb nb cb).toArray 25 (0,0)⟩]++n64=h') _ ⟨0,rfl,by omega,exU rfl,rfl⟩ ?_;rintro nn l h' ⟨k,rfl,hk,⟨U,rfl⟩,rfl⟩ hnext2;have hck:jpp (b.waters++b.butts) k≤k*3000:=GJ (jhZ jks 3000 _ fun l hl=>hall l (xH hl)) (GP _ zN)
      refine Z6 ?_
      refine jak rfl zq (fun hc=>?_) (fun hc=>?_)
      ·refine Z6 ?_
       have hxm0:(lw++lb).getD k default∈lw++lb:=jal zO
       obtain ⟨x,hx⟩: ∃x,x=(lw++lb).getD k default:=⟨_,rfl⟩
       rw [←hx] at hxm0
       have hxl:(b.waters++b.butts).getD k default=x.ln:=by rw [←hln,ja9 _ _ zO,←hx]
       have rdf0:0<x.ln.figs.length→RdS B h 1 (.slice x.p x.ln.figs.length x.c) x.ln.figs.length (jay x.ln.figs):=by
        rcases gQ.1 hxm0 with e|e
        ·exact (hfw x e).2
        ·exact (hfb x e).2
       have hxb:x.ln∈b.waters++b.butts:=hxl▸jal zN
       have hxs: ∀f∈x.ln.figs,jgv f≤3∧f.length≤100000:=fun f hf=>by
        rcases gQ.1 hxb with e|e
        ·exact ⟨by rw [jp6 (((jf8 hw0).2 _ e).2 f hf)];exact jh5 f,(hsm.wat _ e).2 f hf⟩
        ·exact ⟨by rw [jp6 (((jf8 hb0).2 _ e).2 f hf)];exact jh5 f,(hsm.but _ e).2 f hf⟩
       have hxf:x.ln.figs.length≤1000:=by
        rcases gQ.1 hxb with e|e
        ·exact (hsm.wat _ e).1
        ·exact (hsm.but _ e).1
       obtain ⟨b64,o64_,rfl⟩:=r64.ptr zO
       refine Z4 ?_
       rw [show jpp (b.waters++b.butts) k=jpp (b.waters++b.butts) k+((x.ln.figs.take 0).map jgv).sum by simp];refine jaf (fun nn l h'=> ∃(j:Nat),nn=x.ln.figs.length-j∧(j≤x.ln.figs.length)∧(∃U:Nat→Value,l=((tbV b ps ns ks pw nw cw pb nb cb)::vw5 U 1 ((.int .i64 ((jpp (b.waters++b.butts) k+((x.ln.figs.take j).map jgv).sum:Nat):Int))::(.slice (some ⟨b64,o64_,none⟩) (nw+nb) c64)::(.int .i64 (k:Int))::(.int .i64 (j:Int))::vw84 U 10 [])))∧h++[⟨true,q1,.cells (tbL b ps ns ks pw nw cw pb nb cb).toArray 25 (0,0)⟩]++n64=h') _ ⟨0,rfl,by omega,exU rfl,rfl⟩ ?_;rintro nn l h' ⟨j,rfl,hj,⟨U,rfl⟩,rfl⟩ hnext3;have hcj:((x.ln.figs.take j).map jgv).sum≤j*3:=GJ (jhZ jgv 3 _ fun f hf=>(hxs f (xH hf)).1) (GP _ zN)
       refine Z6 ?_;refine D11 ?_;refine Zs ?_;refine D73 ?_
       rw [←hx];refine Zs ?_
       refine jak rfl zq (fun hc=>?_) (fun hc=>?_);refine Z5 ?_
       have rdf:=rdf0 zO
       obtain ⟨fb,fo,hfp⟩:=rdf.ptr zO
       have rdg:=rdf
       rw [hfp] at rdg
       have hsk2:=hxs (x.ln.figs.getD j []) (jal (l:=x.ln.figs) zO)
       have hk3:k*3000≤2000*3000:=GP _ zO
       refine D60 ?_;refine Z3 ?_;refine D11 ?_;refine Zs ?_;refine D73 ?_
       rw [←hx];refine Zs ?_;refine D57 ?_;refine jaI rfl zq (rdg.sat j zO zO) ?_;refine jag (Post:=fun v=>v=_) rfl zq zK (fun H' hH=>f90_c m H' _ hsk2.2) ?_
       rintro v rfl;refine Z4 ?_
       rotate_left
       refine Z3 ?_
       all_goals
        refine Z6 ?_
       ·rw [show (jpp (b.waters++b.butts) k+((x.ln.figs.take j).map jgv).sum:Nat)=jpp (b.waters++b.butts) (k+1) by rw [jrT zN,hxl,jks,gh zO]];exact m.weak jaa (hnext2 _ _ _ zO ⟨k+1,rfl,by omega,exU rfl,rfl⟩)
       ·rw [show ((jpp (b.waters++b.butts) k+((x.ln.figs.take j).map jgv).sum:Nat):Int)+(jgv (x.ln.figs.getD j []):Int)=((jpp (b.waters++b.butts) k+((x.ln.figs.take (j+1)).map jgv).sum:Nat):Int) by rw [jfQ jgv _ _ zO];show _+((jgv (x.ln.figs.getD j default):Nat):Int)=_;omega];exact m.weak jaa (hnext3 _ _ _ zO ⟨j+1,rfl,by omega,exU rfl,rfl⟩)
      ·refine Z7 ?_
       refine jaz rfl zq (fun hc=>?_) (fun hc=>?_);refine Z2 ?_
       rotate_left
       refine Z3 ?_
       all_goals
        refine Z5 ?_;refine D82 ?_;refine Zs ?_
        refine ⟨rfl,congrArg (Value.int .i64) ?_⟩
        first
         |exact E50
         |exact E51
         |(refine (jaT (v:=4) ?_ zA).symm;rw [jbg zO zO,hnm,hdr];exact jc5 zD)
         |(refine (jaT (v:=5) ?_ zA).symm;rw [jbg zO zO,hnm,hdr];exact jc4 zD (hxi.1 zO))
         |exact (jfp hh0 zD).symm
         |exact E52
         |(rw [jbO hh0 hw0 hb0,←jbQ hw0 hb0 (k:=k) zO,if_pos zO];done)
         |(rw [jbO hh0 hw0 hb0,←jbQ hw0 hb0 (k:=k) zO,if_neg zO];done)
  ·refine Z9 ?_;refine D82 ?_;refine Zs ?_
   refine ⟨rfl,congrArg (Value.int .i64) ?_⟩
   first
    |exact E50
    |exact E51
    |(refine (jaT (v:=4) ?_ zA).symm;rw [jbg zO zO,hnm,hdr];exact jc5 zD)
    |(refine (jaT (v:=5) ?_ zA).symm;rw [jbg zO zO,hnm,hdr];exact jc4 zD (hxi.1 zO))
    |exact (jfp hh0 zD).symm
    |exact E52
    |(rw [jbO hh0 hw0 hb0,←jbQ hw0 hb0 (k:=k) zO,if_pos zO];done)
    |(rw [jbO hh0 hw0 hb0,←jbQ hw0 hb0 (k:=k) zO,if_neg zO];done)
 ·refine Z9 ?_;refine D82 ?_;refine Zs ?_
  refine ⟨rfl,congrArg (Value.int .i64) ?_⟩
  first
   |exact E50
   |exact E51
   |(refine (jaT (v:=4) ?_ zA).symm;rw [jbg zO zO,hnm,hdr];exact jc5 zD)
   |(refine (jaT (v:=5) ?_ zA).symm;rw [jbg zO zO,hnm,hdr];exact jc4 zD (hxi.1 zO))
   |exact (jfp hh0 zD).symm
   |exact E52
   |(rw [jbO hh0 hw0 hb0,←jbQ hw0 hb0 (k:=k) zO,if_pos zO];done)
   |(rw [jbO hh0 hw0 hb0,←jbQ hw0 hb0 (k:=k) zO,if_neg zO];done)
end
section
variable [LaidO B]
structure RdTb (B:Array Obj) (h:Hp) (b:Tb) (ps:Option Addr) (ns ks:Nat) (pw:Option Addr) (nw cw:Nat) (pb:Option Addr) (nb cb:Nat):Prop where
 s:RdS B h 1 (.slice ps ns ks) ns (jay b.sts)
 sc:ns≤ks
 w:RdLn B h (.slice pw nw cw) nw b.waters
 u:RdLn B h (.slice pb nb cb) nb b.butts
 sm:TbSm b
 n1:1≤ns
 n3:ns≤3
 w2:nw≤2
 b2:nb≤2
 wf: ∀l∈b.waters,l.figs.length=ns∧ ∀f∈l.figs,jbw f=true
 bf: ∀l∈b.butts,l.figs.length=ns∧ ∀f∈l.figs,jbw f=true
section
variable {b:Tb}
theorem RdTb.keeps (r:RdTb B h b ps ns ks pw nw cw pb nb cb) (s:h.Sublist H):RdTb B H b ps ns ks pw nw cw pb nb cb:=
 ⟨r.s.keeps s,r.sc,r.w.keeps s,r.u.keeps s,r.sm,r.n1,r.n3,r.w2,r.b2,r.wf,r.bf⟩
theorem RdTb.sl (r:RdTb B h b ps ns ks pw nw cw pb nb cb):b.sts.length=ns:=r.s.elen zA
theorem RdTb.wl (r:RdTb B h b ps ns ks pw nw cw pb nb cb):b.waters.length=nw:=jcv r.w
theorem RdTb.bl (r:RdTb B h b ps ns ks pw nw cw pb nb cb):b.butts.length=nb:=jcv r.u
end
abbrev cV (bt:Bool) (li st:Int):Value:= .agg [.bool bt,.int .i64 li,.int .i64 st].toArray
theorem f66_c (m:Md Tryz.prog B) (hs:h.Sublist H) {b:Tb} (rd:RdTb B h b ps ns ks pw nw cw pb nb cb) (h0:0≤li) (h1:li<(jbo b bt).length):FnC m 66 #[tbV b ps ns ks pw nw cw pb nb cb,cV bt li st] H fun v h'=>h'=H∧ ∃x:Lp,v=lpV x∧x.ln=jcF b ⟨bt,li,st⟩∧x.ln.figs.length≤x.c∧(0<x.ln.figs.length→RdS B h 1 (.slice x.p x.ln.figs.length x.c) x.ln.figs.length (jay x.ln.figs)):=by
 refine jae Tryz.func66 rfl rfl (l:=(tbV b ps ns ks pw nw cw pb nb cb)::(cV bt li st)::uu17) rfl ?_
 intro cf cs K hK
 refine Z2 ?_
 refine jaF rfl zq (fun q2=>jap (jad ?_));refine jaF rfl zq (fun q3=>jap (jad ?_));refine jaB rfl zq (fun q4=>jap (jad ?_));refine Z7 ?_
 refine jb7 (fun hc=>?_) (fun hc=>?_);first|replace hc:=of_decide_eq_true hc|replace hc:=of_decide_eq_false hc|skip
 refine Zs ?_
 subst hc
 have hlt:li<b.butts.length:=h1
 obtain ⟨lps,hle,rl,hfig⟩:=rd.u
 have hll:=rl.elen zA
 have hln:b.butts.length=lps.length:=by rw [←hle,gU]
 rotate_left
 first|replace hc:=of_decide_eq_true hc|replace hc:=of_decide_eq_false hc|skip
 refine Z2 ?_
 subst hc
 have hlt:li<b.waters.length:=h1
 obtain ⟨lps,hle,rl,hfig⟩:=rd.w
 have hll:=rl.elen zA
 have hln:b.waters.length=lps.length:=by rw [←hle,gU]
 all_goals
  obtain ⟨z_b,z_o,hzp⟩:=rl.ptr zO
  have rlg:=rl.keeps hs
  rw [hzp] at rlg
  refine Z5 ?_;refine D83 ?_;refine jca (vs:=[.int .i64 (lps.getD li.toNat default).ln.lat,.slice (lps.getD li.toNat default).p (lps.getD li.toNat default).ln.figs.length (lps.getD li.toNat default).c]) rfl zq rfl (rlg.eat li.toNat zO zO) ?_;refine D7 ?_;refine Z2 ?_;refine jac (H) rfl Tryz.func66 rfl jaa ?_;refine Zs ?_
  refine ⟨rfl,lps.getD li.toNat default,rfl,?_,hfig _ (jal zO)⟩
  rw [jcF,jbo]
 ·show _=List.getD b.waters li.toNat default
  rw [←hle,ja9 _ _ zO]
 ·show _=List.getD b.butts li.toNat default
  rw [←hle,ja9 _ _ zO]
theorem jhL {b:Tb}:jeu b ⟨bt,li,st⟩=true↔(0≤li∧li≤(jbo b bt).length-1)∧(0≤st∧st≤(b.sts.length:Int)-1):=by
 unfold jeu
 simp only [gK,decide_eq_true_iff]
 omega
theorem figs_len {b:Tb} (rd:RdTb B h b ps ns ks pw nw cw pb nb cb) {c:Ce} (h0:jeu b c=true):jcF b c∈jbo b c.butt∧(jcF b c).figs.length=ns:=by
 have hm:jcF b c∈jbo b c.butt:=by
  unfold jeu at h0
  simp only [gK,decide_eq_true_iff] at h0
  exact jal (l:=jbo b c.butt) zO
 refine ⟨hm,?_⟩
 unfold jbo at hm
 split at hm
 ·exact (rd.bf _ hm).1
 ·exact (rd.wf _ hm).1
theorem f45_c (m:Md Tryz.prog B) (h:Hp) {b:Tb} (rd:RdTb B h b ps ns ks pw nw cw pb nb cb):FnC m 45 #[tbV b ps ns ks pw nw cw pb nb cb,cV bt li st] h fun v h'=>h'=h∧v= .tuple [str (if jeu b ⟨bt,li,st⟩ then jcG b ⟨bt,li,st⟩ else []),.bool (jeu b ⟨bt,li,st⟩)].toArray:=by
 have hsl:=rd.sl
 have hwl:=rd.wl
 have hbl:=rd.bl
 have rds:=rd.s
 have hn1:=rd.n1
 have hn3:=rd.n3
 have hw2:=rd.w2
 have hb2:=rd.b2
 refine jae Tryz.func45 rfl rfl (l:=(tbV b ps ns ks pw nw cw pb nb cb)::(cV bt li st)::uu37) rfl ?_
 intro cf cs K hK
 refine Z2 ?_
 refine jaF rfl zq (fun q2=>jap (jad ?_));refine jaF rfl zq (fun q3=>jap (jad ?_));refine Z16 ?_
 refine jb7 (fun hc=>?_) (fun hc=>?_);first|replace hc:=of_decide_eq_true hc|replace hc:=of_decide_eq_false hc|skip
 refine Z6 ?_
 rotate_left
 first|replace hc:=of_decide_eq_true hc|replace hc:=of_decide_eq_false hc|skip
 refine Zs ?_
 all_goals
  refine Z2 ?_
  have hbt:=hc
  first
   |(have hnl:(jbo b bt).length=nb:=by rw [hbt];exact hbl)
   |(have hnl:(jbo b bt).length=nw:=by rw [hbt];exact hwl)
  refine D44 ?_;refine Z4 ?_;refine D63 ?_
  rintro v (⟨hc,rfl⟩|⟨hc,rfl⟩)
  ·refine Z4 ?_;refine jkM rfl rfl ?_;refine Zs ?_;refine jkM rfl rfl ?_;refine jhw rfl rfl ?_;refine D100 ?_;refine jag (Post:=fun v=>IsB _ v) rfl rfl zK (fun H' hH=>f43_c m H' _ _ _) ?_
   rintro v (⟨hc,rfl⟩|⟨hc,rfl⟩);refine jpD ?_;refine Z5 ?_
   have hyes:jeu b ⟨bt,li,st⟩=true:=jhL.2 ⟨by omega,by omega⟩
   refine jan [Zp 4,Zr 0,Zr 1,Zr 5,Zk 2,Zp 3,Zp 6,Zk 7,Zp 8,Zp 9] zK zK (gE _) ?_;refine Z4 ?_;refine jag (Post:=fun v=> ∃x:Lp,v=lpV x∧x.ln=jcF b ⟨bt,li,st⟩∧x.ln.figs.length≤x.c∧(0<x.ln.figs.length→RdS B h 1 (.slice x.p x.ln.figs.length x.c) x.ln.figs.length (jay x.ln.figs))) rfl zq zK (fun H' hH=>f66_c m (sq hH) rd zO zO) ?_;rintro v ⟨x,rfl,hxl,hxc,rdf0⟩;refine Zs ?_
   have hfl:x.ln.figs.length=ns:=by rw [hxl];exact (figs_len rd hyes).2
   have rdf:=rdf0 (by have:=rd.n1;omega)
   obtain ⟨f_b,f_o,hfp⟩:=rdf.ptr zO
   have rdg:=rdf
   rw [hfp] at rdg
   refine jmW rfl zq ?_;refine D57 ?_;refine jaI (v:=str (x.ln.figs.getD st.toNat [])) rfl zq (rdg.sat st.toNat zO zO) ?_;rotate_left
   refine D135 ?_;refine Z5 ?_
   all_goals
    refine Z4 ?_;refine jac (h) rfl Tryz.func45 rfl jaa ?_;refine Zs ?_
    first
     |(have hno:jeu b ⟨bt,li,st⟩=false:=gz.2 fun e=>by
        have:=jhL.1 e
        omega
       rw [hno];exact ⟨rfl,rfl⟩)
     |(rw [hyes];exact ⟨rfl,by rw [hxl];rfl⟩)
  ·refine Z20 ?_;refine jac (h) rfl Tryz.func45 rfl jaa ?_;refine Zs ?_
   first
    |(have hno:jeu b ⟨bt,li,st⟩=false:=gz.2 fun e=>by
       have:=jhL.1 e
       omega
      rw [hno];exact ⟨rfl,rfl⟩)
    |(rw [hyes];exact ⟨rfl,by rw [hxl];rfl⟩)
end
section
variable [LaidO B]
def jeN (b:Tb) (c:Ce):Bool:=jeu b c&&decide (jcG b c≠jjn)
def jjH (b:Tb) (bt:Bool) (j k:Nat):List Ce:=((List.range k).map fun (s:Nat)=>(⟨bt,(j:Int),(s:Int)⟩:Ce)).filter (jeN b)
def jpC (b:Tb) (bt:Bool) (j:Nat):List Ce:=(List.range j).flatMap fun j'=>jjH b bt j' b.sts.length
def accI (b:Tb) (i:Nat):List Ce:=(List.range i).flatMap fun i'=>jpC b (decide (i'=1)) 2
def jbp (b:Tb) (i j k:Nat):List Ce:=accI b i++jpC b (decide (i=1)) j++jjH b (decide (i=1)) j k
theorem rowK_yes {b:Tb} (h:jeN b ⟨bt,(j:Int),(k:Int)⟩=true):jjH b bt j (k+1)=jjH b bt j k++[⟨bt,(j:Int),(k:Int)⟩]:=by
 rw [jjH,GT,GA,GG];simp [h,jjH]
theorem rowK_no {b:Tb} (h:jeN b ⟨bt,(j:Int),(k:Int)⟩=false):jjH b bt j (k+1)=jjH b bt j k:=by
 rw [jjH,GT,GA,GG];simp [h,jjH]
theorem jor {b:Tb} (h:jeN b ⟨decide (i=1),(j:Int),(k:Int)⟩=true):jbp b i j (k+1)=jbp b i j k++[⟨decide (i=1),(j:Int),(k:Int)⟩]:=by
 rw [jbp,rowK_yes h,jbp];simp only [gG]
theorem jng {b:Tb} (h:jeN b ⟨decide (i=1),(j:Int),(k:Int)⟩=false):jbp b i j (k+1)=jbp b i j k:=by
 rw [jbp,rowK_no h,jbp]
theorem jgt (b:Tb) (i j:Nat):jbp b i j b.sts.length=jbp b i (j+1) 0:=by
 rw [jbp,jbp,jpC,jpC,GT,Gd];simp [jjH]
theorem ji7 (b:Tb) (i:Nat):jbp b i 2 0=jbp b (i+1) 0 0:=by
 rw [jbp,jbp,accI,accI,GT,Gd];simp [jjH,jpC]
theorem jhP (b:Tb):jbp b 2 0 0=jab b:=by
 have e (bt:Bool) (j:Nat):rowT b bt j=jjH b bt j b.sts.length:=rfl
 have z (bt:Bool) (j:Nat):jjH b bt j 0=[]:=rfl
 rw [jab,e,e,e,e];simp [jbp,accI,jpC,z,GT]
theorem jie (b:Tb) (bt:Bool) (j k:Nat):(jjH b bt j k).length≤k:=by
 have:=GU (jeN b) ((List.range k).map fun (s:Nat)=>(⟨bt,(j:Int),(s:Int)⟩:Ce))
 simpa [jjH] using this
theorem jg5 (b:Tb) (bt:Bool) (hj:j≤2):(jpC b bt j).length≤j*b.sts.length:=by
 rcases (by omega:j=0∨j=1∨j=2) with rfl|rfl|rfl
 ·simp [jpC]
 ·have:=jie b bt 0 b.sts.length
  simp [jpC,GT]
  omega
 ·have:=jie b bt 0 b.sts.length
  have:=jie b bt 1 b.sts.length
  simp [jpC,GT]
  omega
theorem jr4 (b:Tb) (hi:i≤2) (hj:j≤2) (h3:b.sts.length≤3) (hk:k≤3):(jbp b i j k).length≤21:=by
 have h1:=jg5 b (decide (i=1)) hj
 have h2:=jie b (decide (i=1)) j k
 have h4:(accI b i).length≤12:=by
  have a0:=jg5 b (decide (0=1)) (gL 2)
  have a1:=jg5 b (decide (1=1)) (gL 2)
  rcases (by omega:i=0∨i=1∨i=2) with rfl|rfl|rfl<;>simp [accI,GT] at* <;>omega
 have h5:j*b.sts.length≤2*3:=vt hj h3
 rw [jbp,gJ,gJ];omega
theorem f41_c (m:Md Tryz.prog B) (h:Hp) {b:Tb} (rd:RdTb B h b ps ns ks pw nw cw pb nb cb):FnC m 41 #[tbV b ps ns ks pw nw cw pb nb cb] h fun v h'=> ∃new,h'=h++new∧OwnS 28 3 v (jab b).length (jay (jab b)) new:=by
 have hsl:=rd.sl
 have rds:=rd.s
 have hn1:=rd.n1
 have hn3:=rd.n3
 refine jae Tryz.func41 rfl rfl (l:=(tbV b ps ns ks pw nw cw pb nb cb)::uu45) rfl ?_
 intro cf cs K hK
 refine Z2 ?_
 refine jaF rfl zq (fun q1=>jap (jad ?_));refine Z12 ?_
 refine jaf (fun nn l h'=> ∃(i:Nat) (wpi:Option Addr) (wci:Nat) (Mi:Hp),nn=2-i∧(i≤2)∧(OwnS 28 3 (.slice wpi (jbp b i 0 0).length wci) (jbp b i 0 0).length (jay (jbp b i 0 0)) Mi)∧(∃U:Nat→Value,l=((tbV b ps ns ks pw nw cw pb nb cb)::(.pointer (some ⟨q1,0,none⟩))::(U 2)::(.slice wpi (jbp b i 0 0).length wci)::(.int .i64 (i:Int))::vw41 U 5 []))∧h++[⟨true,q1,.cells (tbL b ps ns ks pw nw cw pb nb cb).toArray 25 (0,0)⟩]++Mi=h') _ ⟨0,none,0,[],rfl,by omega,OwnS.nil,exU rfl,zS⟩ ?_;rintro nn l h' ⟨i,wpi,wci,Mi,rfl,hi,howi,⟨U,rfl⟩,rfl⟩ hnext1;refine Z4 ?_
 refine jak rfl zq (fun hc=>?_) (fun hc=>?_)
 ·refine Z10 ?_
  refine jaf (fun nn l h'=> ∃(j:Nat) (wpj:Option Addr) (wcj:Nat) (Mj:Hp),nn=2-j∧(j≤2)∧(OwnS 28 3 (.slice wpj (jbp b i j 0).length wcj) (jbp b i j 0).length (jay (jbp b i j 0)) Mj)∧(∃U:Nat→Value,l=((tbV b ps ns ks pw nw cw pb nb cb)::(.pointer (some ⟨q1,0,none⟩))::(U 2)::(.slice wpj (jbp b i j 0).length wcj)::(.int .i64 (i:Int))::(.int .i64 (j:Int))::vw40 U 6 []))∧h++[⟨true,q1,.cells (tbL b ps ns ks pw nw cw pb nb cb).toArray 25 (0,0)⟩]++Mj=h') _ ⟨0,wpi,wci,Mi,rfl,by omega,howi,exU rfl,rfl⟩ ?_;rintro nn l h' ⟨j,wpj,wcj,Mj,rfl,hj,howj,⟨U,rfl⟩,rfl⟩ hnext2;refine Z4 ?_
  refine jak rfl zq (fun hc=>?_) (fun hc=>?_)
  ·refine Z10 ?_
   refine jaf (fun nn l h'=> ∃(k:Nat) (wpk:Option Addr) (wck:Nat) (Mk:Hp),nn=ns-k∧(k≤ns)∧(OwnS 28 3 (.slice wpk (jbp b i j k).length wck) (jbp b i j k).length (jay (jbp b i j k)) Mk)∧(∃U:Nat→Value,l=((tbV b ps ns ks pw nw cw pb nb cb)::(.pointer (some ⟨q1,0,none⟩))::(U 2)::(.slice wpk (jbp b i j k).length wck)::(.int .i64 (i:Int))::(.int .i64 (j:Int))::(.int .i64 (k:Int))::vw39 U 7 []))∧h++[⟨true,q1,.cells (tbL b ps ns ks pw nw cw pb nb cb).toArray 25 (0,0)⟩]++Mk=h') _ ⟨0,wpj,wcj,Mj,rfl,by omega,howj,exU rfl,rfl⟩ ?_;rintro nn l h' ⟨k,wpk,wck,Mk,rfl,hk,howk,⟨U,rfl⟩,rfl⟩ hnext3;have hal:=jr4 b (i:=i) (j:=j) (k:=k) zO zO zO zO
   refine Z7 ?_
   refine jak rfl zq (fun hc=>?_) (fun hc=>?_)
   ·refine Z8 ?_;refine k_eqlV (decide (i=1)) rfl zq (decide_eq_decide.2 zO) ?_;refine Z2 ?_;refine D39 ?_
    refine jaB rfl zq (fun q7=>jap (jad ?_));refine D7 ?_;refine Z5 ?_;refine jag (Post:=fun v=>v= .tuple [str (if jeu b ⟨decide (i=1),(j:Int),(k:Int)⟩ then jcG b ⟨decide (i=1),(j:Int),(k:Int)⟩ else []),.bool (jeu b ⟨decide (i=1),(j:Int),(k:Int)⟩)].toArray) rfl zq zK (fun H' hH=>f45_c m H' (rd.keeps (sq hH))) ?_
    rintro v rfl;refine Z8 ?_
    cases hht:jeu b ⟨decide (i=1),(j:Int),(k:Int)⟩
    have hkc:jeN b ⟨decide (i=1),(j:Int),(k:Int)⟩=false:=by rw [jeN,hht];rfl
    rotate_left
    rw [if_pos rfl];all_goals
     refine Z3 ?_
    ·refine Zs ?_
     by_cases hda:jcG b ⟨decide (i=1),(j:Int),(k:Int)⟩=[45]
     refine jgO rfl rfl hda ?_;have hkc:jeN b ⟨decide (i=1),(j:Int),(k:Int)⟩=false:=by rw [jeN,hht,decide_eq_false (fun e=>e hda)];rfl
     refine Z4 ?_
     rotate_left
     refine jiz rfl rfl hda ?_;have hkc:jeN b ⟨decide (i=1),(j:Int),(k:Int)⟩=true:=by rw [jeN,hht,decide_eq_true (show jcG b ⟨decide (i=1),(j:Int),(k:Int)⟩≠jjn from hda)];rfl
     refine Z6 ?_
     refine jcb kdq rfl zq zA zA rfl (fun q43=>jap (jad ?_));refine ja2 rfl zq rfl howk kdq zO zO (fun w9 n9 o9=>jad ?_);obtain ⟨p9,c9,rfl,hc9,r9⟩:=jas (B:=B) o9
     refine Z2 ?_
     all_goals
      refine Z6 ?_
     ·have hks:=jor hkc
      have hkl:(jbp b i j (k+1)).length=(jbp b i j k).length+1:=by rw [hks];simp
      rw [←hkl];exact m.weak jaa (hnext3 _ _ _ zO ⟨k+1,p9,c9,n9,rfl,by omega,by rw [hkl,hks,jaX];exact o9,exU rfl,rfl⟩)
     ·have hks:=jng hkc
      rw [←hks];exact E53
    ·refine Z12 ?_
     have hks:=jng hkc
     rw [←hks];exact E53
   ·refine Z9 ?_
    have hk2:k=b.sts.length:=by omega
    rw [show jbp b i j k=jbp b i (j+1) 0 by rw [hk2];exact jgt b i j];exact m.weak jaa (hnext2 _ _ _ zO ⟨j+1,wpk,wck,Mk,rfl,by omega,by rw [←jgt,←hk2];exact howk,exU rfl,rfl⟩)
  ·refine Z9 ?_
   have hj2:j=2:=by omega
   rw [show jbp b i j 0=jbp b (i+1) 0 0 by rw [hj2];exact ji7 b i];exact m.weak jaa (hnext1 _ _ _ zO ⟨i+1,wpj,wcj,Mj,rfl,by omega,by rw [←ji7,←hj2];exact howj,exU rfl,rfl⟩)
 ·refine Z9 ?_;refine jac (h++Mi) rfl Tryz.func41 rfl jaa ?_;refine Zs ?_
  obtain rfl:i=2:=by omega
  rw [jhP] at howi⊢
  exact ⟨Mi,rfl,howi⟩
end
section
variable [LaidO B]
instance:KeyCT Tryz.prog 28:=⟨by kernel_rfl⟩
def idxC (l:List Ce) (c:Ce):Int:=if l.findIdx (fun x=>decide (x=c))<l.length then (l.findIdx (fun x=>decide (x=c)):Int) else-1
theorem idx_hit {l:List Ce} {c:Ce} (hi:i<l.length) (h:l.getD i default=c) (hn: ∀j,j<i→l.getD j default≠c):idxC l c=(i:Int):=by
 have e:l.findIdx (fun x=>decide (x=c))=i:=by
  rw [List.findIdx_eq hi];refine ⟨?_,fun j hj=>?_⟩
  ·rw [gC,gD hi] at h
   simpa using h
  ·have:=hn j hj
   rw [gC,gD zO] at this
   simpa using this
 rw [idxC,e,if_pos hi]
theorem idx_none {l:List Ce} {c:Ce} (hn: ∀j,j<l.length→l.getD j default≠c):idxC l c= -1:=by
 rw [idxC,if_neg];intro h
 have h1:=List.findIdx_getElem (w:=h)
 have h2:=hn _ h
 rw [gC,gD h] at h2
 exact h2 (of_decide_eq_true h1)
theorem cells_le {b:Tb} (rd:RdTb B h b ps ns ks pw nw cw pb nb cb):(jab b).length≤21:=by
 rw [←jhP];exact jr4 b zO zO (by rw [rd.sl];exact rd.n3) zO
theorem f56_c (m:Md Tryz.prog B) (h:Hp) {b:Tb} (rd:RdTb B h b ps ns ks pw nw cw pb nb cb) (c:Ce):FnC m 56 #[tbV b ps ns ks pw nw cw pb nb cb,cV c.butt c.line c.st] h fun v h'=>h'=h∧v= .int .i64 (idxC (jab b) c):=by
 refine jae Tryz.func56 rfl rfl (l:=(tbV b ps ns ks pw nw cw pb nb cb)::(cV c.butt c.line c.st)::uu20) rfl ?_
 intro cf cs K hK
 refine Z2 ?_
 refine jaF rfl zq (fun q1=>jap (jad ?_));refine jaF rfl zq (fun q3=>jap (jad ?_));refine Z5 ?_;refine jaJ rfl zq zK (Post:=fun w new=>OwnS 28 3 w (jab b).length (jay (jab b)) new) (fun H' hH=>f41_c m H' (rd.keeps (sq hH))) ?_
 rintro w n5 o5;refine jaG (jad ?_);obtain ⟨p5,c5,rfl,hc5,r5⟩:=jas (B:=B) o5
 have hcl:=cells_le rd
 refine Z8 ?_
 refine jaf (fun nn l h'=> ∃(i:Nat),nn=(jab b).length-i∧(i≤(jab b).length)∧(∀j,j<i→(jab b).getD j default≠c)∧(∃U:Nat→Value,l=((tbV b ps ns ks pw nw cw pb nb cb)::(cV c.butt c.line c.st)::(U 2)::(.pointer (some ⟨q3,0,none⟩))::(U 4)::(.slice p5 (jab b).length c5)::(.int .i64 (i:Int))::vw15 U 7 []))∧h++[⟨true,q1,.cells (tbL b ps ns ks pw nw cw pb nb cb).toArray 25 (0,0)⟩,⟨true,q3,.cells [.bool c.butt,.int .i64 c.line,.int .i64 c.st].toArray 28 (0,0)⟩]++n5=h') _ ⟨0,rfl,by omega,fun j hj=>absurd hj zO,exU rfl,rfl⟩ ?_;rintro nn l h' ⟨i,rfl,hi,hno,⟨U,rfl⟩,rfl⟩ hnext;refine Z6 ?_
 refine jak rfl zq (fun hc=>?_) (fun hc=>?_)
 ·refine Z6 ?_
  obtain ⟨b5,o5_,rfl⟩:=r5.ptr zO
  refine jan [Zp 0,Zp 1,Zp 2,Zr 3,Zr 4,Zp 5] zK zK (gE _) ?_;refine Z2 ?_;refine D11 ?_;refine jca (vs:=[.bool ((jab b).getD i default).butt,.int .i64 ((jab b).getD i default).line,.int .i64 ((jab b).getD i default).st]) rfl zq rfl (r5.eat i zO zO) ?_;refine Zs ?_;refine k_eqlC rfl zq zK (fun hc=>?_) (fun hc=>?_)
  ·refine Z8 ?_;refine jac (h) rfl Tryz.func56 rfl jaa ?_;refine Zs ?_
   exact ⟨rfl,by rw [idx_hit (i:=i) zO (by obtain ⟨e1,e2,e3⟩:=hc;cases hx:(jab b).getD i default;cases c;simp_all) hno]⟩
  ·refine Z9 ?_
   exact m.weak jaa (hnext _ _ _ zO ⟨i+1,rfl,by omega,fun j hj=>by
    by_cases e:j<i
    ·exact hno j e
    ·obtain rfl:j=i:=by omega
     exact fun e2=>hc (by rw [e2];exact ⟨rfl,rfl,rfl⟩),exU rfl,rfl⟩)
 ·refine Z8 ?_;refine jac (h) rfl Tryz.func56 rfl jaa ?_;refine Zs ?_
  exact ⟨rfl,by rw [idx_none fun j hj=>hno j zO]⟩
end
section
variable [LaidO B]
theorem jiF (i:Nat) (hi:i<2):(halvesL.drop ((i:Int).toNat*3)).take 3=[str (hwS i),.bool (decide (i=1)),.func (.func (207+i)) #[] #[]]:=by
 rcases (by omega:i=0∨i=1) with rfl|rfl<;>rfl
theorem jkP (b:Tb) (hi:i<2):hL b i=jbo b (decide (i=1)):=by
 rcases (by omega:i=0∨i=1) with rfl|rfl<;>rfl
theorem jrp {b:Tb} (hi:i<2):jeu b ⟨decide (i=1),(k:Int),(j:Int)⟩=true↔k<(hL b i).length∧j<b.sts.length:=by
 rw [jgU,jkP b hi];simp only
 omega
theorem figT_at {b:Tb} (hi:i<2):jcG b ⟨decide (i=1),(k:Int),(j:Int)⟩=((hL b i).getD k default).figs.getD j []:=by
 rw [jcG,jcF,jkP b hi];simp only [gb]
theorem jlB {b:Tb} (hi:i<2) (hk:(hL b i).length≤k):jjH b (decide (i=1)) k n=[]:=by
 rw [jjH,VF];intro c hc
 obtain ⟨s,_,rfl⟩:=gP.1 hc
 rw [jeN];cases hh:jeu b ⟨decide (i=1),(k:Int),(s:Int)⟩ with
 |false=>simp
 |true=>have:=(jrp hi).1 hh;omega
theorem jpw (b:Tb) (hi:i<2) (hk:k≤2) (hl:(hL b i).length≤k):jbp b i k 0=jbp b (i+1) 0 0:=by
 rw [←ji7];have one: ∀k,(hL b i).length≤k→jbp b i k 0=jbp b i (k+1) 0:=fun k hk=>by
  rw [←jgt,jbp,jbp,jlB hi hk,jlB hi hk]
 rcases (by omega:k=0∨k=1∨k=2) with rfl|rfl|rfl
 ·rw [one 0 hl,one 1 zO]
 ·rw [one 1 hl]
 ·rfl
theorem jkG {b:Tb} {c:Ce} (h:c∈jjH b bt j k):c.butt=bt∧c.line=j∧0≤c.st∧c.st<k:=by
 rw [jjH,gV,gP] at h
 obtain ⟨⟨s,hs,rfl⟩,_⟩:=h
 rw [gT] at hs
 exact ⟨rfl,rfl,by simp only;omega,by simp only;omega⟩
theorem accC_new {b:Tb} (hi:i<2):(⟨decide (i=1),(k:Int),(j:Int)⟩:Ce)∉jbp b i k j:=by
 intro h
 rw [jbp,gQ,gQ] at h
 rcases h with (h|h)|h
 ·simp only [accI,jpC,vd,gT] at h
  obtain ⟨i',hi',j',_,h⟩:=h
  have:=(jkG h).1
  simp only at this
  rw [decide_eq_decide] at this
  omega
 ·simp only [jpC,vd,gT] at h
  obtain ⟨j',hj',h⟩:=h
  have:=(jkG h).2.1
  simp only at this
  omega
 ·have:=(jkG h).2.2.2
  simp only at this
  omega
theorem jos (b:Tb) (hi:i≤2) (hk:k≤2) (h3:b.sts.length≤3):(jbp b i k j).length≤(i*2+k)*3+j:=by
 have h1:=jg5 b (decide (i=1)) hk
 have h2:=jie b (decide (i=1)) k j
 have h4:(accI b i).length≤i*6:=by
  have a0:=jg5 b (decide (0=1)) (gL 2)
  have a1:=jg5 b (decide (1=1)) (gL 2)
  rcases (by omega:i=0∨i=1∨i=2) with rfl|rfl|rfl<;>simp [accI,GT] at* <;>omega
 have h5:k*b.sts.length≤k*3:=xO k h3
 rw [jbp,gJ,gJ];omega
def shC (tb:List Value) (cv mv:Value) (la:List Int) (cl:List Value):List Value:=tb++[cv,mv]++(jaq la++cl)
section
variable {a0 a1 a2 a3 cv mv:Value}
instance:At (shC [a0,a1,a2,a3] cv mv la cl) 4 cv:=⟨rfl⟩
instance:At (shC [a0,a1,a2,a3] cv mv la cl) 5 mv:=⟨rfl⟩
instance {u:Value}:SetSeg (shC [a0,a1,a2,a3] cv mv la cl) 4 [u] (shC [a0,a1,a2,a3] u mv la cl):=⟨by simp [shC],by simp [shC]⟩
theorem jcI {l l':List Value} {v:Value} (h:i<l.length) (e:l'=l.set i v):SetSeg l i [v] l':=⟨by
 rw [e,Gi,if_pos h];simp,by simp;omega⟩
theorem shC_lat (h:k<la.length) (z:Int):SetSeg (shC [a0,a1,a2,a3] cv mv la cl) (6+(k:Int).toNat*1) [.int .i64 z] (shC [a0,a1,a2,a3] cv mv (la.set k z) cl):=by
 rw [gb,GK];have hk:k<(jaq la).length:=by simpa using h
 refine jcI (by simp [shC];omega) ?_
 rw [shC,shC,vQ _ _ zS,show 6+k-([a0,a1,a2,a3]++[cv,mv]).length=k by simp,vq _ _ hk,jaq,jaq,Vf]
theorem shC_can (hl:la.length=12) (h:k<cl.length) (u:Value):SetSeg (shC [a0,a1,a2,a3] cv mv la cl) (18+(k:Int).toNat*1) [u] (shC [a0,a1,a2,a3] cv mv la (cl.set k u)):=by
 rw [gb,GK];refine jcI (by simp [shC,hl];omega) ?_
 rw [shC,shC,vQ _ _ zN,vQ _ _ (by simp [hl];omega),show 18+k-([a0,a1,a2,a3]++[cv,mv]).length-(jaq la).length=k by simp [hl];omega]
theorem jqd (h:k<la.length):(shC [a0,a1,a2,a3] cv mv la cl)[6+k]?=some (.int .i64 (la.getD k 0)):=by
 have e:shC [a0,a1,a2,a3] cv mv la cl=[a0,a1,a2,a3,cv,mv]++(jaq la++cl):=rfl
 rw [e,gm zS,show 6+k-[a0,a1,a2,a3,cv,mv].length=k by simp,ge (by simpa using h),ga,gD h,gC,gD h];rfl
theorem jqe (h:la.length=12):(shC [a0,a1,a2,a3] cv mv la cl)[18+k]?=cl[k]?:=by
 have e:shC [a0,a1,a2,a3] cv mv la cl=([a0,a1,a2,a3,cv,mv]++jaq la)++cl:=by simp [shC]
 rw [e,gm (by simp [h]),show 18+k-([a0,a1,a2,a3,cv,mv]++jaq la).length=k by simp [h]]
end
def LatOk (b:Tb) (cs:List Ce) (la:List Int):Prop:=la.length=12∧ ∀x,x<cs.length→la.getD x 0=(jcF b (cs.getD x default)).lat
def CanOk (B:Array Obj) (M:Hp) (b:Tb) (cs:List Ce) (cl:List Value):Prop:=cl.length=12∧ ∀x,x<cs.length→ ∃p c,cl[x]?=some (.slice p (jdw (jcG b (cs.getD x default))).length c)∧(jdw (jcG b (cs.getD x default))).length≤c∧RdS B M 1 (.slice p (jdw (jcG b (cs.getD x default))).length c) (jdw (jcG b (cs.getD x default))).length (jaq (jdw (jcG b (cs.getD x default))))
theorem jgg {α:Type} {d:α} {l:List α} {a:α} (x:Nat):(l++[a]).getD x d=if x<l.length then l.getD x d else if x=l.length then a else d:=by
 rw [gC,Gv];split
 ·rw [gC]
 ·rename_i h
  split
  ·rename_i e
   subst e
   simp
  ·rw [gl zN];rfl
theorem LatOk.snoc {b:Tb} {cs:List Ce} {la:List Int} (h:LatOk b cs la) {c:Ce} {z:Int} (hl:cs.length<12) (hz:z=(jcF b c).lat):LatOk b (cs++[c]) (la.set cs.length z):=by
 refine ⟨by simpa using h.1,fun x hx=>?_⟩
 rw [gJ,GX] at hx
 rw [jgg,gC,vo];by_cases e:x<cs.length
 ·rw [if_pos e,if_neg zO,←gC,h.2 x e]
 ·obtain rfl:x=cs.length:=by omega
  rw [if_neg e,if_pos rfl,if_pos rfl,if_pos (by rw [h.1];exact hl),hz];rfl
theorem CanOk.snoc {B:Array Obj} {M:Hp} {b:Tb} {cs:List Ce} {cl:List Value} (h:CanOk B M b cs cl) {c:Ce} (hl:cs.length<12) {nw:Hp} {u:Value} {f:Str} (hf:f=jcG b c) (o:OwnS 3 1 u (jdw f).length (jaq (jdw f)) nw):CanOk B (M++nw) b (cs++[c]) (cl.set cs.length u):=by
 subst hf
 refine ⟨by simpa using h.1,fun x hx=>?_⟩
 rw [gJ,GX] at hx
 rw [jgg,vo];by_cases e:x<cs.length
 ·rw [if_pos e,if_neg zO];obtain ⟨p,c',e1,e2,e3⟩:=h.2 x e
  exact ⟨p,c',e1,e2,e3.keeps (gI _ _)⟩
 ·obtain rfl:x=cs.length:=by omega
  rw [if_neg e,if_pos rfl,if_pos rfl,if_pos (by rw [h.1];exact hl)];obtain ⟨p,c',rfl,hc,rd⟩:=jas (B:=B) o
  exact ⟨p,c',rfl,hc,rd.keeps (gM _ _)⟩
theorem LatOk.nil (b:Tb):LatOk b [] (List.replicate 12 0):=⟨rfl,fun x hx=>by simp at hx⟩
theorem CanOk.nil (B:Array Obj) (b:Tb):CanOk B [] b [] (List.replicate 12 (.slice none 0 0)):=⟨rfl,fun x hx=>by simp at hx⟩
structure Sheet (B:Array Obj) (H:Hp) (b:Tb) (q:Nat) (tv:List Value):Prop where
 twelve:(jab b).length≤12
 tb:RdN B H q 0 tv
 cells: ∃p c,Rd B H ⟨q,4,none⟩ (.slice p (jab b).length c)∧(jab b).length≤c∧RdS B H 3 (.slice p (jab b).length c) (jab b).length (jay (jab b))
 map: ∃rw qm,Rd B H ⟨q,5,none⟩ (.map (some qm))∧(⟨rw,qm,jgw (jab b)⟩:Chunk)∈H
 lat: ∀i,i<(jab b).length→Rd B H ⟨q,6+i,none⟩ (.int .i64 (dA (cdT b) i).lat)
 can: ∀i,i<(jab b).length→ ∃p c,Rd B H ⟨q,18+i,none⟩ (.slice p (dA (cdT b) i).can.length c)∧(dA (cdT b) i).can.length≤c∧RdS B H 1 (.slice p (dA (cdT b) i).can.length c) (dA (cdT b) i).can.length (jaq (dA (cdT b) i).can)
theorem Sheet.keeps {H':Hp} {b:Tb} (s:Sheet B H b q tv) (k:H.Sublist H'):Sheet B H' b q tv:=by
 obtain ⟨h0,h1,⟨p,c,h2,h3,h4⟩,⟨rw,qm,h5,h6⟩,h7,h8⟩:=s
 refine ⟨h0,fun j hj=>(h1 j hj).keeps k,⟨p,c,h2.keeps k,h3,h4.keeps k⟩,⟨rw,qm,h5.keeps k,k.subset h6⟩,fun i hi=>(h7 i hi).keeps k,fun i hi=>?_⟩
 obtain ⟨p,c,a1,a2,a3⟩:=h8 i hi
 exact ⟨p,c,a1.keeps k,a2,a3.keeps k⟩
theorem sheet_of {W M:Hp} {b:Tb} {qm:Nat} {a0 a1 a2 a3:Value} {wc:Nat} (hn:(jab b).length≤12)
  (o:OwnS 28 3 (.slice wp (jab b).length wc) (jab b).length (jay (jab b)) W) (hla:LatOk b (jab b) la) (hcl:CanOk B M b (jab b) cl):
  Sheet B ([⟨true,qm,jgw (jab b)⟩,⟨true,q,.cells (shC [a0,a1,a2,a3] (.slice wp (jab b).length wc) (.map (some qm)) la cl).toArray 76 (0,0)⟩]++W++M) b q [a0,a1,a2,a3]:=by
 have hin:(⟨true,q,.cells (shC [a0,a1,a2,a3] (.slice wp (jab b).length wc) (.map (some qm)) la cl).toArray 76 (0,0)⟩:Chunk)∈[⟨true,qm,jgw (jab b)⟩,⟨true,q,.cells (shC [a0,a1,a2,a3] (.slice wp (jab b).length wc) (.map (some qm)) la cl).toArray 76 (0,0)⟩]++W++M:=by simp
 have rd: ∀o v,(shC [a0,a1,a2,a3] (.slice wp (jab b).length wc) (.map (some qm)) la cl)[o]?=some v→Rd B ([⟨true,qm,jgw (jab b)⟩,⟨true,q,.cells (shC [a0,a1,a2,a3] (.slice wp (jab b).length wc) (.map (some qm)) la cl).toArray 76 (0,0)⟩]++W++M) ⟨q,o,none⟩ v:=fun o v e=>Rd.held hin (by simpa using e)
 obtain ⟨p',c',e,hc,r⟩:=jas (B:=B) o
 cases e
 refine ⟨hn,fun j hj=>?_,⟨wp,wc,rd _ _ rfl,hc,r.keeps (Gj (gM _ _) (gI _ _))⟩,⟨true,qm,rd _ _ rfl,by simp⟩,fun i hi=>?_,fun i hi=>?_⟩
 ·rw [GD];refine rd _ _ ?_
  simp only [gY,vk] at hj
  rcases (by omega:j=0∨j=1∨j=2∨j=3) with rfl|rfl|rfl|rfl<;>rfl
 ·rw [jav b hi];refine rd _ _ ?_
  rw [jqd (by rw [hla.1];omega),hla.2 i hi];rfl
 ·rw [jav b hi];obtain ⟨p,c,e1,e2,e3⟩:=hcl.2 i hi
  exact ⟨p,c,rd _ _ (by rw [jqe hla.1];exact e1),e2,e3.keeps (gM _ _)⟩
theorem jey {h' F1 F2 F3 X Y Z:Hp} [a:Off h' Z F1] [b:Off F1 Y F2] [c:Off F2 X F3] [s:SubH H F3]:Weak B h' (H++X++(Y++Z)):=by
 rw [←gG];exact (Weak.perm a.perm).trans (((Weak.perm b.perm).trans (((Weak.perm c.perm).trans ((Weak.sub s.sub).apps X)).apps Y)).apps Z)
theorem f32_c (m:Md Tryz.prog B) (h:Hp) {b:Tb} (rd:RdTb B h b ps ns ks pw nw cw pb nb cb):FnC m 32 #[tbV b ps ns ks pw nw cw pb nb cb] h fun v h'=> ∃new q,h'=h++new∧v= .pointer (some ⟨q,0,none⟩)∧Sheet B new b q (tbL b ps ns ks pw nw cw pb nb cb):=by
 have hsl:=rd.sl
 have hn1:=rd.n1
 have hn3:=rd.n3
 have hw2:=rd.w2
 have hb2:=rd.b2
 refine jae Tryz.func32 rfl rfl (l:=(tbV b ps ns ks pw nw cw pb nb cb)::uu94) rfl ?_
 intro cf cs K hK
 refine Z2 ?_
 refine jaF rfl zq (fun q1=>jap (jad ?_));refine Z5 ?_;refine D39 ?_
 refine k_mkmapC rfl zq (fun qm=>jap (jad ?_));refine D39 ?_
 refine jaF rfl zq (fun q18=>jap (jad ?_));refine Z5 ?_;refine jca (vs:=halvesL) rfl zq rfl jfB ?_;refine Z3 ?_
 refine jaf (fun nn l h'=> ∃(i:Nat) (wp1:Option Addr) (wc1:Nat) (W1 M1:Hp) (la1:List Int) (cl1:List Value),nn=2-i∧(i≤2)∧(OwnS 28 3 (.slice wp1 (jbp b i 0 0).length wc1) (jbp b i 0 0).length (jay (jbp b i 0 0)) W1)∧(LatOk b (jbp b i 0 0) la1)∧(CanOk B M1 b (jbp b i 0 0) cl1)∧(∃U:Nat→Value,l=((tbV b ps ns ks pw nw cw pb nb cb)::(.pointer (some ⟨q1,0,none⟩))::(U 2)::(.pointer (some ⟨q18,0,none⟩))::vw15 U 4 ((.agg halvesL.toArray)::(.int .i64 (i:Int))::vw74 U 21 [])))∧h++[⟨true,q1,.cells (tbL b ps ns ks pw nw cw pb nb cb).toArray 25 (0,0)⟩,⟨true,qm,jgw (jbp b i 0 0)⟩,⟨true,q18,.cells (shC (tbL b ps ns ks pw nw cw pb nb cb) (.slice wp1 (jbp b i 0 0).length wc1) (.map (some qm)) la1 cl1).toArray 76 (0,0)⟩]++W1++M1=h') _ ⟨0,none,0,[],[],List.replicate 12 0,List.replicate 12 (.slice none 0 0),rfl,by omega,OwnS.nil,LatOk.nil b,CanOk.nil B b,exU rfl,(by rw [gd,gd];rfl)⟩ ?_;rintro nn l h' ⟨i,wp1,wc1,W1,M1,la1,cl1,rfl,hi,how1,hla1,hcl1,⟨U,rfl⟩,rfl⟩ hnext1;refine Z2 ?_
 refine jak rfl zq (fun hc=>?_) (fun hc=>?_)
 ·refine Z8 ?_;refine jn3 rfl zq zO zO (jiF i zO) ?_
  refine jaB rfl zq (fun q5=>jap (jad ?_));refine D7 ?_;refine Z2 ?_
  have hin:i<2:=by omega
  obtain ⟨pl,nl,cl0,hsl1,hln,hnl⟩:=jrr (B:=B) (b:=b) (ps:=ps) (ns:=ns) (ks:=ks) rd.w (show nw≤1000 by omega) rd.u (show nb≤1000 by omega) i hin
  have hsmi: ∀l∈hL b i,l.figs.length=ns∧ ∀f∈l.figs,f.length≤100000∧jbw f=true:=by
   unfold hL
   split
   ·exact fun l hl=>⟨(rd.wf l hl).1,fun f hf=>⟨(rd.sm.wat l hl).2 f hf,(rd.wf l hl).2 f hf⟩⟩
   ·exact fun l hl=>⟨(rd.bf l hl).1,fun f hf=>⟨(rd.sm.but l hl).2 f hf,(rd.bf l hl).2 f hf⟩⟩
  have hnl2:nl≤2:=by
   have h1:=jcv hln
   unfold hL at h1
   have h2:=rd.wl
   have h3:=rd.bl
   split at h1<;>omega
  refine Z3 ?_;refine D94 ?_
  rintro v rfl;refine Z2 ?_;refine jaI (v:= .slice pl nl cl0) rfl zq (rd_nth hsl1) ?_;refine Z4 ?_
  obtain ⟨lps,hle,rl,hfig⟩:=hln
  have hll:=rl.elen zA
  have hln2:(hL b i).length=nl:=by rw [←hle,gU,hll]
  refine m.weak (h':=h++[⟨true,q1,.cells (tbL b ps ns ks pw nw cw pb nb cb).toArray 25 (0,0)⟩,⟨true,qm,jgw (jbp b i 0 0)⟩,⟨true,q18,.cells (shC (tbL b ps ns ks pw nw cw pb nb cb) (.slice wp1 (jbp b i 0 0).length wc1) (.map (some qm)) la1 cl1).toArray 76 (0,0)⟩]++[⟨true,q5,.cells [str (hwS i),.bool (decide (i=1)),.func (.func (207+i)) #[] #[]].toArray 135 (0,0)⟩]++W1++M1) jd6 ?_
  refine jaf (fun nn l h'=> ∃(k:Nat) (wp2:Option Addr) (wc2:Nat) (W2 M2:Hp) (la2:List Int) (cl2:List Value),nn=nl-k∧(k≤nl)∧(OwnS 28 3 (.slice wp2 (jbp b i k 0).length wc2) (jbp b i k 0).length (jay (jbp b i k 0)) W2)∧(LatOk b (jbp b i k 0) la2)∧(CanOk B M2 b (jbp b i k 0) cl2)∧(∃U:Nat→Value,l=((tbV b ps ns ks pw nw cw pb nb cb)::(.pointer (some ⟨q1,0,none⟩))::(U 2)::(.pointer (some ⟨q18,0,none⟩))::(U 4)::(.pointer (some ⟨q5,0,none⟩))::vw13 U 6 ((.agg halvesL.toArray)::(.int .i64 (i:Int))::vw6 U 21 ((.slice pl nl cl0)::(.int .i64 (nl:Int))::(.int .i64 (k:Int))::vw65 U 30 []))))∧h++[⟨true,q1,.cells (tbL b ps ns ks pw nw cw pb nb cb).toArray 25 (0,0)⟩,⟨true,qm,jgw (jbp b i k 0)⟩,⟨true,q18,.cells (shC (tbL b ps ns ks pw nw cw pb nb cb) (.slice wp2 (jbp b i k 0).length wc2) (.map (some qm)) la2 cl2).toArray 76 (0,0)⟩]++[⟨true,q5,.cells [str (hwS i),.bool (decide (i=1)),.func (.func (207+i)) #[] #[]].toArray 135 (0,0)⟩]++W2++M2=h') _ ⟨0,wp1,wc1,W1,M1,la1,cl1,rfl,by omega,how1,hla1,hcl1,exU rfl,rfl⟩ ?_;rintro nn l h' ⟨k,wp2,wc2,W2,M2,la2,cl2,rfl,hk,how2,hla2,hcl2,⟨U,rfl⟩,rfl⟩ hnext2;refine Z2 ?_
  refine jak rfl zq (fun hc=>?_) (fun hc=>?_)
  ·refine Z7 ?_
   obtain ⟨rl_b,rl_o,rfl⟩:=rl.ptr zO
   refine Z2 ?_;refine D11 ?_;refine D61 ?_
   obtain ⟨x,hx⟩: ∃x,x=lps.getD k default:=⟨_,rfl⟩
   rw [←hx];refine jaB rfl zq (fun q7=>jap (jad ?_));refine Zs ?_;refine D7 ?_;refine Zs ?_;refine jqh ?_;refine Zs ?_;refine jqj ?_;refine Zs ?_
   have hxm:x∈lps:=hx▸jal zO
   obtain ⟨hxc,rdf0⟩:=hfig x hxm
   have hxl:(hL b i).getD k default=x.ln:=by rw [←hle,ja9 _ _ zO,←hx]
   obtain ⟨hfl,hfs⟩:=hsmi x.ln (hxl▸jal zO)
   refine Z7 ?_;refine m.weak (h':=h++[⟨true,q1,.cells (tbL b ps ns ks pw nw cw pb nb cb).toArray 25 (0,0)⟩,⟨true,qm,jgw (jbp b i k 0)⟩,⟨true,q18,.cells (shC (tbL b ps ns ks pw nw cw pb nb cb) (.slice wp2 (jbp b i k 0).length wc2) (.map (some qm)) la2 cl2).toArray 76 (0,0)⟩]++[⟨true,q5,.cells [str (hwS i),.bool (decide (i=1)),.func (.func (207+i)) #[] #[]].toArray 135 (0,0)⟩]++[⟨true,q7,.cells [.int .i64 x.ln.lat,.slice x.p x.ln.figs.length x.c].toArray 114 (0,0)⟩]++W2++M2) jd6 ?_
   refine jaf (fun nn l h'=> ∃(j:Nat) (wp3:Option Addr) (wc3:Nat) (W3 M3:Hp) (la3:List Int) (cl3:List Value),nn=x.ln.figs.length-j∧(j≤x.ln.figs.length)∧(OwnS 28 3 (.slice wp3 (jbp b i k j).length wc3) (jbp b i k j).length (jay (jbp b i k j)) W3)∧(LatOk b (jbp b i k j) la3)∧(CanOk B M3 b (jbp b i k j) cl3)∧(∃U:Nat→Value,l=((tbV b ps ns ks pw nw cw pb nb cb)::(.pointer (some ⟨q1,0,none⟩))::(U 2)::(.pointer (some ⟨q18,0,none⟩))::(U 4)::(.pointer (some ⟨q5,0,none⟩))::(.int .i64 (k:Int))::(.pointer (some ⟨q7,0,none⟩))::vw11 U 8 ((.agg halvesL.toArray)::(.int .i64 (i:Int))::vw6 U 21 ((.slice (some ⟨rl_b,rl_o,none⟩) nl cl0)::(.int .i64 (nl:Int))::(.int .i64 (k:Int))::vw5 U 30 ((.slice x.p x.ln.figs.length x.c)::(.int .i64 (x.ln.figs.length:Int))::(.int .i64 (j:Int))::vw57 U 38 [])))))∧h++[⟨true,q1,.cells (tbL b ps ns ks pw nw cw pb nb cb).toArray 25 (0,0)⟩,⟨true,qm,jgw (jbp b i k j)⟩,⟨true,q18,.cells (shC (tbL b ps ns ks pw nw cw pb nb cb) (.slice wp3 (jbp b i k j).length wc3) (.map (some qm)) la3 cl3).toArray 76 (0,0)⟩]++[⟨true,q5,.cells [str (hwS i),.bool (decide (i=1)),.func (.func (207+i)) #[] #[]].toArray 135 (0,0)⟩]++[⟨true,q7,.cells [.int .i64 x.ln.lat,.slice x.p x.ln.figs.length x.c].toArray 114 (0,0)⟩]++W3++M3=h') _ ⟨0,wp2,wc2,W2,M2,la2,cl2,rfl,by omega,how2,hla2,hcl2,exU rfl,rfl⟩ ?_;rintro nn l h' ⟨j,wp3,wc3,W3,M3,la3,cl3,rfl,hj,how3,hla3,hcl3,⟨U,rfl⟩,rfl⟩ hnext3;refine Z2 ?_
   refine jak rfl zq (fun hc=>?_) (fun hc=>?_)
   ·refine Z7 ?_
    have rdf:=rdf0 zO
    obtain ⟨fb,fo,hfp⟩:=rdf.ptr zO
    have rdg:=rdf
    rw [hfp] at rdg
    obtain ⟨hsk2,hsk3⟩:=hfs _ (jal (l:=x.ln.figs) (show j<x.ln.figs.length by omega))
    replace hsk2:(x.ln.figs.getD j []).length≤100000:=hsk2
    replace hsk3:jbw (x.ln.figs.getD j [])=true:=hsk3
    have hht:jeu b (⟨decide (i=1),(k:Int),(j:Int)⟩:Ce)=true:=(jrp hin).2 ⟨by omega,by omega⟩
    have hft:jcG b (⟨decide (i=1),(k:Int),(j:Int)⟩:Ce)=x.ln.figs.getD j []:=by rw [figT_at hin,hxl]
    have hn12:(jbp b i k j).length<12:=by
     have:=jos b (i:=i) (k:=k) (j:=j) zO zO zO
     omega
    refine Z2 ?_;refine D57 ?_;refine jaI rfl zq (rdg.sat j zO zO) ?_;refine Z7 ?_
    by_cases hda:x.ln.figs.getD j []=[45]
    ·refine jiA rfl zq hda ?_;have hkc:jeN b (⟨decide (i=1),(k:Int),(j:Int)⟩:Ce)=false:=by rw [jeN,hht,hft,decide_eq_false (fun e=>e hda)];rfl
     refine Z7 ?_
     have hks:=jng hkc
     rw [←hks];refine m.weak (h':=h++[⟨true,q1,.cells (tbL b ps ns ks pw nw cw pb nb cb).toArray 25 (0,0)⟩,⟨true,qm,jgw (jbp b i k (j+1))⟩,⟨true,q18,.cells (shC (tbL b ps ns ks pw nw cw pb nb cb) (.slice wp3 (jbp b i k (j+1)).length wc3) (.map (some qm)) la3 cl3).toArray 76 (0,0)⟩]++[⟨true,q5,.cells [str (hwS i),.bool (decide (i=1)),.func (.func (207+i)) #[] #[]].toArray 135 (0,0)⟩]++[⟨true,q7,.cells [.int .i64 x.ln.lat,.slice x.p x.ln.figs.length x.c].toArray 114 (0,0)⟩]++W3++M3) jd6 ?_
     exact hnext3 _ _ _ zO ⟨j+1,wp3,wc3,W3,M3,la3,cl3,rfl,by omega,by rw [hks];exact how3,by rw [hks];exact hla3,by rw [hks];exact hcl3,exU rfl,rfl⟩
    ·refine jiB rfl zq hda ?_;have hkc:jeN b (⟨decide (i=1),(k:Int),(j:Int)⟩:Ce)=true:=by rw [jeN,hht,hft,decide_eq_true (show x.ln.figs.getD j []≠jjn from hda)];rfl
     have hfo:jbc (x.ln.figs.getD j [])=true:=by
      rw [jbw,GR] at hsk3
      exact hsk3.resolve_right fun e=>hda (of_decide_eq_true e)
     have hms:jdw (x.ln.figs.getD j [])=jkJ (jau (x.ln.figs.getD j [])):=by rw [jdw,if_pos hfo]
     have hnew:=accC_new (b:=b) (i:=i) (k:=k) (j:=j) hin
     have hlat:x.ln.lat=(jcF b (⟨decide (i=1),(k:Int),(j:Int)⟩:Ce)).lat:=by rw [jcF,←jkP b hin];simp only [gb];rw [hxl]
     refine Z4 ?_;refine jan [Zp 0,Zp 1,Zp 2,Zp 5,Zp 7,Zp 8,Zr 3,Zp 4,Zr 6,Zp 9,Za 10,Zp 11,Zf 12] zK zK (gE _) ?_;refine Z9 ?_;refine D39 ?_
     refine jaB rfl zq (fun q11=>jap (jad ?_));refine Zs ?_;refine D7 ?_;refine Z4 ?_;refine jag (Post:=fun v=>v=_) rfl zq zK (fun H' hH=>f67_c m H' _ hsk2) ?_
     rintro v rfl;refine Z4 ?_
     refine jaB rfl zq (fun q12=>jap (jad ?_));refine D58 ?_;refine Z2 ?_;refine jbr (S:=h++[⟨true,q1,.cells (tbL b ps ns ks pw nw cw pb nb cb).toArray 25 (0,0)⟩]++[⟨true,q5,.cells [str (hwS i),.bool (decide (i=1)),.func (.func (207+i)) #[] #[]].toArray 135 (0,0)⟩]++[⟨true,q7,.cells [.int .i64 x.ln.lat,.slice x.p x.ln.figs.length x.c].toArray 114 (0,0)⟩]++[⟨true,q11,.cells [.bool (decide (i=1)),.int .i64 (k:Int),.int .i64 (j:Int)].toArray 28 (0,0)⟩,⟨true,q12,.cells (jaq (jau (x.ln.figs.getD j []))).toArray 117 (0,0)⟩]) [0,1,2,3,4,5,6,7,8,9,10,11,12,13,14,15,16,17,18,19,20,21,22,23,24,25,26,27,28,29,30,31,32,33,34,35] zK zK SubH.sub ?_
     refine DrawT.split 4 13 zA (DrawT.split 4 15 zA (DrawT.split 13 15 zA ?_ ?_) ?_) (DrawT.split 4 15 zA ?_ (DrawT.split 4 16 zA (DrawT.split 13 15 zA ?_ ?_) (DrawT.split 4 21 zA (DrawT.split 13 15 zA ?_ ?_) (DrawT.split 13 15 zA ?_ ?_))))
     refine DrawT.leaf [Zp 0,Zp 1,Zp 2,Zp 3,Zp 6,Zp 7,Zp 8,Zp 9,Zp 10,Zp 11,Zp 12,Zp 17,Zp 18,Zp 28,Zp 29,Zp 32,Zp 33,Zr 5,Zr 14,Zr 19,Zr 20,Zk 4,Zk 13,Zk 15,Zk 16,Zk 21,Zp 22,Zp 23,Zk 24,Zk 25,Zp 26,Zk 27,Zp 30,Zk 31,Zp 34,Zk 35] zK ?_;refine Z20 ?_;refine D43 ?_;refine Z2 ?_
     refine jcb kdq rfl zq zA zA rfl (fun q74=>jap (jad ?_));refine ja2 rfl zq rfl how3 zF zO zO (fun w9 n9 o9=>jad ?_);obtain ⟨p9,c9,rfl,hc9,r9⟩:=jas (B:=B) o9
     refine D3 ?_
     rintro w80 n80 o80;refine jaG (jad ?_);rw [←hms] at o80
     obtain ⟨p80,c80,rfl,_⟩:=jas (B:=B) o80
     have hfig80:=hft.symm
     rotate_left
     refine DrawT.leaf [Zp 0,Zp 1,Zp 2,Zp 3,Zp 6,Zp 7,Zp 8,Zp 9,Zp 10,Zp 11,Zp 12,Zp 17,Zp 18,Zp 28,Zp 29,Zp 32,Zp 33,Zr 5,Zr 14,Zr 19,Zr 20,Zk 4,Zk 15,Zk 13,Zk 16,Zk 21,Zp 22,Zp 23,Zk 24,Zk 25,Zp 26,Zk 27,Zp 30,Zk 31,Zp 34,Zk 35] zK ?_;refine Z20 ?_;refine D43 ?_;refine Zs ?_
     refine jcb kdq rfl zq zA zA rfl (fun q74=>jap (jad ?_));refine Zs ?_
     refine ja2 rfl zq rfl how3 zF zO zO (fun w9 n9 o9=>jad ?_);obtain ⟨p9,c9,rfl,hc9,r9⟩:=jas (B:=B) o9
     refine D3 ?_
     rintro w80 n80 o80;refine jaG (jad ?_);rw [←hms] at o80
     obtain ⟨p80,c80,rfl,_⟩:=jas (B:=B) o80
     have hfig80:=hft.symm
     rotate_left
     refine DrawT.leaf [Zp 0,Zp 1,Zp 2,Zp 3,Zp 6,Zp 7,Zp 8,Zp 9,Zp 10,Zp 11,Zp 12,Zp 17,Zp 18,Zp 28,Zp 29,Zp 32,Zp 33,Zr 5,Zr 14,Zr 19,Zr 20,Zk 15,Zk 4,Zk 13,Zk 16,Zk 21,Zp 22,Zp 23,Zk 24,Zk 25,Zp 26,Zk 27,Zp 30,Zk 31,Zp 34,Zk 35] zK ?_;refine Z20 ?_;refine D43 ?_
     refine jcb kdq rfl zq zA zA rfl (fun q74=>jap (jad ?_));refine Z2 ?_
     refine ja2 rfl zq rfl how3 zF zO zO (fun w9 n9 o9=>jad ?_);obtain ⟨p9,c9,rfl,hc9,r9⟩:=jas (B:=B) o9
     refine D3 ?_
     rintro w80 n80 o80;refine jaG (jad ?_);rw [←hms] at o80
     obtain ⟨p80,c80,rfl,_⟩:=jas (B:=B) o80
     have hfig80:=hft.symm
     rotate_left
     refine DrawT.leaf [Zp 0,Zp 1,Zp 2,Zp 3,Zp 6,Zp 7,Zp 8,Zp 9,Zp 10,Zp 11,Zp 12,Zp 17,Zp 18,Zp 28,Zp 29,Zp 32,Zp 33,Zr 5,Zr 14,Zr 19,Zr 20,Zk 13,Zk 4,Zk 15,Zk 16,Zk 21,Zp 22,Zp 23,Zk 24,Zk 25,Zp 26,Zk 27,Zp 30,Zk 31,Zp 34,Zk 35] zK ?_;refine Z20 ?_;refine D43 ?_;refine Z2 ?_
     refine jcb kdq rfl zq zA zA rfl (fun q74=>jap (jad ?_));refine ja2 rfl zq rfl how3 zF zO zO (fun w9 n9 o9=>jad ?_);obtain ⟨p9,c9,rfl,hc9,r9⟩:=jas (B:=B) o9
     refine D3 ?_
     rintro w80 n80 o80;refine jaG (jad ?_);rw [←hms] at o80
     obtain ⟨p80,c80,rfl,_⟩:=jas (B:=B) o80
     have hfig80:=hft.symm
     rotate_left
     refine DrawT.leaf [Zp 0,Zp 1,Zp 2,Zp 3,Zp 6,Zp 7,Zp 8,Zp 9,Zp 10,Zp 11,Zp 12,Zp 17,Zp 18,Zp 28,Zp 29,Zp 32,Zp 33,Zr 5,Zr 14,Zr 19,Zr 20,Zk 13,Zk 15,Zk 4,Zk 16,Zk 21,Zp 22,Zp 23,Zk 24,Zk 25,Zp 26,Zk 27,Zp 30,Zk 31,Zp 34,Zk 35] zK ?_;refine Z20 ?_;refine D43 ?_;refine Zs ?_
     refine jcb kdq rfl zq zA zA rfl (fun q74=>jap (jad ?_));refine Zs ?_
     refine ja2 rfl zq rfl how3 zF zO zO (fun w9 n9 o9=>jad ?_);obtain ⟨p9,c9,rfl,hc9,r9⟩:=jas (B:=B) o9
     refine D3 ?_
     rintro w80 n80 o80;refine jaG (jad ?_);rw [←hms] at o80
     obtain ⟨p80,c80,rfl,_⟩:=jas (B:=B) o80
     have hfig80:=hft.symm
     rotate_left
     refine DrawT.leaf [Zp 0,Zp 1,Zp 2,Zp 3,Zp 6,Zp 7,Zp 8,Zp 9,Zp 10,Zp 11,Zp 12,Zp 17,Zp 18,Zp 28,Zp 29,Zp 32,Zp 33,Zr 5,Zr 14,Zr 19,Zr 20,Zk 15,Zk 13,Zk 4,Zk 16,Zk 21,Zp 22,Zp 23,Zk 24,Zk 25,Zp 26,Zk 27,Zp 30,Zk 31,Zp 34,Zk 35] zK ?_;refine Z20 ?_;refine D43 ?_
     refine jcb kdq rfl zq zA zA rfl (fun q74=>jap (jad ?_));refine Z2 ?_
     refine ja2 rfl zq rfl how3 zF zO zO (fun w9 n9 o9=>jad ?_);obtain ⟨p9,c9,rfl,hc9,r9⟩:=jas (B:=B) o9
     refine D3 ?_
     rintro w80 n80 o80;refine jaG (jad ?_);rw [←hms] at o80
     obtain ⟨p80,c80,rfl,_⟩:=jas (B:=B) o80
     have hfig80:=hft.symm
     rotate_left
     refine DrawT.leaf [Zp 0,Zp 1,Zp 2,Zp 3,Zp 6,Zp 7,Zp 8,Zp 9,Zp 10,Zp 11,Zp 12,Zp 17,Zp 18,Zp 28,Zp 29,Zp 32,Zp 33,Zr 5,Zr 14,Zr 19,Zr 20,Zk 13,Zk 15,Zk 16,Zk 4,Zk 21,Zp 22,Zp 23,Zk 24,Zk 25,Zp 26,Zk 27,Zp 30,Zk 31,Zp 34,Zk 35] zK ?_;refine Z20 ?_;refine D43 ?_;refine Zs ?_
     refine jcb kdq rfl zq zA zA rfl (fun q74=>jap (jad ?_));refine ja2 rfl zq rfl how3 zF zO zO (fun w9 n9 o9=>jad ?_);obtain ⟨p9,c9,rfl,hc9,r9⟩:=jas (B:=B) o9
     refine Zs ?_;refine D3 ?_
     rintro w80 n80 o80;refine jaG (jad ?_);rw [←hms] at o80
     obtain ⟨p80,c80,rfl,_⟩:=jas (B:=B) o80
     have hfig80:=hft.symm
     rotate_left
     refine DrawT.leaf [Zp 0,Zp 1,Zp 2,Zp 3,Zp 6,Zp 7,Zp 8,Zp 9,Zp 10,Zp 11,Zp 12,Zp 17,Zp 18,Zp 28,Zp 29,Zp 32,Zp 33,Zr 5,Zr 14,Zr 19,Zr 20,Zk 15,Zk 13,Zk 16,Zk 4,Zk 21,Zp 22,Zp 23,Zk 24,Zk 25,Zp 26,Zk 27,Zp 30,Zk 31,Zp 34,Zk 35] zK ?_;refine Z20 ?_;refine D43 ?_
     refine jcb kdq rfl zq zA zA rfl (fun q74=>jap (jad ?_));refine Zs ?_
     refine ja2 rfl zq rfl how3 zF zO zO (fun w9 n9 o9=>jad ?_);obtain ⟨p9,c9,rfl,hc9,r9⟩:=jas (B:=B) o9
     refine Zs ?_;refine D3 ?_
     rintro w80 n80 o80;refine jaG (jad ?_);rw [←hms] at o80
     obtain ⟨p80,c80,rfl,_⟩:=jas (B:=B) o80
     have hfig80:=hft.symm
     rotate_left
     refine DrawT.leaf [Zp 0,Zp 1,Zp 2,Zp 3,Zp 6,Zp 7,Zp 8,Zp 9,Zp 10,Zp 11,Zp 12,Zp 17,Zp 18,Zp 28,Zp 29,Zp 32,Zp 33,Zr 5,Zr 14,Zr 19,Zr 20,Zk 13,Zk 15,Zk 16,Zk 21,Zk 4,Zp 22,Zp 23,Zk 24,Zk 25,Zp 26,Zk 27,Zp 30,Zk 31,Zp 34,Zk 35] zK ?_;refine Z20 ?_;refine D43 ?_;refine Zs ?_
     refine jcb kdq rfl zq zA zA rfl (fun q74=>jap (jad ?_));refine ja2 rfl zq rfl how3 zF zO zO (fun w9 n9 o9=>jad ?_);obtain ⟨p9,c9,rfl,hc9,r9⟩:=jas (B:=B) o9
     refine D3 ?_
     rintro w80 n80 o80;refine jaG (jad ?_);rw [←hms] at o80
     obtain ⟨p80,c80,rfl,_⟩:=jas (B:=B) o80
     have hfig80:=hft.symm
     refine Zs ?_
     rotate_left
     refine DrawT.leaf [Zp 0,Zp 1,Zp 2,Zp 3,Zp 6,Zp 7,Zp 8,Zp 9,Zp 10,Zp 11,Zp 12,Zp 17,Zp 18,Zp 28,Zp 29,Zp 32,Zp 33,Zr 5,Zr 14,Zr 19,Zr 20,Zk 15,Zk 13,Zk 16,Zk 21,Zk 4,Zp 22,Zp 23,Zk 24,Zk 25,Zp 26,Zk 27,Zp 30,Zk 31,Zp 34,Zk 35] zK ?_;refine Z20 ?_;refine D43 ?_
     refine jcb kdq rfl zq zA zA rfl (fun q74=>jap (jad ?_));refine Zs ?_
     refine ja2 rfl zq rfl how3 zF zO zO (fun w9 n9 o9=>jad ?_);obtain ⟨p9,c9,rfl,hc9,r9⟩:=jas (B:=B) o9
     refine D3 ?_
     rintro w80 n80 o80;refine jaG (jad ?_);rw [←hms] at o80
     obtain ⟨p80,c80,rfl,_⟩:=jas (B:=B) o80
     have hfig80:=hft.symm
     refine Zs ?_
     all_goals
      refine Z2 ?_;refine D9 ?_
      refine jmV (c:=(⟨decide (i=1),(k:Int),(j:Int)⟩:Ce)) (cs:=(jbp b i k j)) (k:=28) (e:=3) zK rfl zq hnew (jad ?_);refine Zs ?_;refine jkN (c:=(⟨decide (i=1),(k:Int),(j:Int)⟩:Ce)) (cs:=(jbp b i k j)) rfl zq rfl ?_;refine Zs ?_
      haveI hss1:=shC_lat (a0:= .int .i64 b.wrong) (a1:= .slice ps ns ks) (a2:= .slice pw nw cw) (a3:= .slice pb nb cb) (cv:= .slice p9 ((jbp b i k j).length+1) c9) (mv:= .map (some qm)) (la:=la3) (cl:=cl3) (k:=(jbp b i k j).length) (by rw [hla3.1];exact hn12) x.ln.lat
      refine D9 ?_;refine Zs ?_
      haveI hss2:=shC_can (a0:= .int .i64 b.wrong) (a1:= .slice ps ns ks) (a2:= .slice pw nw cw) (a3:= .slice pb nb cb) (cv:= .slice p9 ((jbp b i k j).length+1) c9) (mv:= .map (some qm)) (la:=la3.set (jbp b i k j).length x.ln.lat) (cl:=cl3) (k:=(jbp b i k j).length) (by simpa using hla3.1) (by rw [hcl3.1];exact hn12) (.slice p80 (jdw (x.ln.figs.getD j [])).length c80)
      refine D9 ?_;refine Z6 ?_
      have hks:=jor hkc
      have hkl:(jbp b i k (j+1)).length=(jbp b i k j).length+1:=by rw [hks];simp
      rw [←hkl,←hks];refine m.weak (h':=h++[⟨true,q1,.cells (tbL b ps ns ks pw nw cw pb nb cb).toArray 25 (0,0)⟩,⟨true,qm,jgw (jbp b i k (j+1))⟩,⟨true,q18,.cells (shC (tbL b ps ns ks pw nw cw pb nb cb) (.slice p9 (jbp b i k (j+1)).length c9) (.map (some qm)) (la3.set (jbp b i k j).length x.ln.lat) (cl3.set (jbp b i k j).length (.slice p80 (jdw (x.ln.figs.getD j [])).length c80))).toArray 76 (0,0)⟩]++[⟨true,q5,.cells [str (hwS i),.bool (decide (i=1)),.func (.func (207+i)) #[] #[]].toArray 135 (0,0)⟩]++[⟨true,q7,.cells [.int .i64 x.ln.lat,.slice x.p x.ln.figs.length x.c].toArray 114 (0,0)⟩]++n9++(M3++n80)) jey ?_
      exact hnext3 _ _ _ zO ⟨j+1,p9,c9,n9,M3++n80,_,_,rfl,by omega,by rw [hkl,hks,jaX];exact o9,by rw [hks];exact hla3.snoc hn12 hlat,by rw [hks];exact hcl3.snoc hn12 hfig80 o80,exU rfl,rfl⟩
   ·refine Z4 ?_;refine jmH ?_;refine Z5 ?_
    have hac:jbp b i k j=jbp b i (k+1) 0:=by rw [show j=b.sts.length by omega];exact jgt b i k
    rw [hac];refine m.weak (h':=h++[⟨true,q1,.cells (tbL b ps ns ks pw nw cw pb nb cb).toArray 25 (0,0)⟩,⟨true,qm,jgw (jbp b i (k+1) 0)⟩,⟨true,q18,.cells (shC (tbL b ps ns ks pw nw cw pb nb cb) (.slice wp3 (jbp b i (k+1) 0).length wc3) (.map (some qm)) la3 cl3).toArray 76 (0,0)⟩]++[⟨true,q5,.cells [str (hwS i),.bool (decide (i=1)),.func (.func (207+i)) #[] #[]].toArray 135 (0,0)⟩]++W3++M3) jd6 ?_
    exact hnext2 _ _ _ zO ⟨k+1,wp3,wc3,W3,M3,la3,cl3,rfl,by omega,by rw [←hac];exact how3,by rw [←hac];exact hla3,by rw [←hac];exact hcl3,exU rfl,rfl⟩
  ·refine Z9 ?_
   have hac:=jpw b hin (show k≤2 by omega) zO
   rw [hac];refine m.weak (h':=h++[⟨true,q1,.cells (tbL b ps ns ks pw nw cw pb nb cb).toArray 25 (0,0)⟩,⟨true,qm,jgw (jbp b (i+1) 0 0)⟩,⟨true,q18,.cells (shC (tbL b ps ns ks pw nw cw pb nb cb) (.slice wp2 (jbp b (i+1) 0 0).length wc2) (.map (some qm)) la2 cl2).toArray 76 (0,0)⟩]++W2++M2) jd6 ?_
   exact hnext1 _ _ _ zO ⟨i+1,wp2,wc2,W2,M2,la2,cl2,rfl,by omega,by rw [←hac];exact how2,by rw [←hac];exact hla2,by rw [←hac];exact hcl2,exU rfl,rfl⟩
 ·refine Z5 ?_
  obtain rfl:i=2:=by omega
  rw [jhP] at how1 hla1 hcl1⊢
  have hc12:(jab b).length≤12:=by
   rw [←jhP];have:=jos b (i:=2) (k:=0) (j:=0) zO zO zO
   omega
  refine Z5 ?_;refine jac (h++[⟨true,qm,jgw (jab b)⟩,⟨true,q18,.cells (shC (tbL b ps ns ks pw nw cw pb nb cb) (.slice wp1 (jab b).length wc1) (.map (some qm)) la1 cl1).toArray 76 (0,0)⟩]++W1++M1) rfl Tryz.func32 rfl jaa ?_;refine Zs ?_
  exact ⟨[⟨true,qm,jgw (jab b)⟩,⟨true,q18,.cells (shC (tbL b ps ns ks pw nw cw pb nb cb) (.slice wp1 (jab b).length wc1) (.map (some qm)) la1 cl1).toArray 76 (0,0)⟩]++W1++M1,q18,by rw [←gG,←gG],rfl,sheet_of hc12 how1 hla1 hcl1⟩
end
section
variable [LaidO B]
def jfb (a c:Cd) (n m:Int):Bool:=!riC a c n m
theorem jaV {a c:Cd} {n m:Int} (h:a.st≠c.st):jfb a c n m=false:=by rw [jfb,riC,if_pos h];rfl
theorem jaU {a c:Cd} {n m:Int} (h:a.st=c.st) (hb:a.butt=c.butt):jfb a c n m=decide ((a.lat<c.lat∧m<n)∨(c.lat<a.lat∧n<m)):=by
 rw [jfb,riC,if_neg (fun e=>e h),if_pos hb];have:=jmJ (la:=a.lat) (lc:=c.lat) (ma:=n) (mc:=m)
 cases hr:riL a.lat c.lat n m with
 |true=>have:=this.1 hr;exact (decide_eq_false zO).symm
 |false=>exact E54
theorem jaH {a c:Cd} {n m:Int} (h:a.st=c.st) (ha:a.butt=false) (hc:c.butt=true):jfb a c n m=decide ((m<a.lat∧n<c.lat)∨(a.lat<m∧c.lat<n)):=by
 rw [jfb,riC,if_neg (fun e=>e h),if_neg (by rw [ha,hc];simp),if_neg (by rw [ha];simp)];have:=riX_iff (la:=a.lat) (lc:=c.lat) (ma:=n) (mc:=m)
 cases hr:riX a.lat c.lat n m with
 |true=>have:=this.1 hr;exact (decide_eq_false zO).symm
 |false=>exact E54
theorem fall_turn {a c:Cd} {n m:Int}:jfb a c n m=jfb c a m n:=by rw [jfb,jfb,je1]
section
variable {H H':Hp} {b:Tb}
theorem Sheet.latI (s:Sheet B H b q tv) (hi:i<(jab b).length):Rd B H ⟨q,6+(i:Int).toNat*1,none⟩ (.int .i64 (jhp b ((jab b).getD i default)).lat):=by
 rw [gb,GK,←jav b hi];exact s.lat i hi
end
theorem rdTb_of {b:Tb} (rds:RdS B h 1 (.slice ps ns ks) ns (jay b.sts)) (hcs:ns≤ks) (rdw:RdLn B h (.slice pw nw cw) nw b.waters) (rdb:RdLn B h (.slice pb nb cb) nb b.butts) (hsm:TbSm b) (k:TbOk b):RdTb B h b ps ns ks pw nw cw pb nb cb:=by
 have hml:b.sts.length=ns:=rds.elen zA
 have h1:=k.n1
 have h3:=k.n3
 have hw:=k.waters.two
 have hb:=k.butts.two
 rw [jcv rdw] at hw
 rw [jcv rdb] at hb
 exact ⟨rds,hcs,rdw,rdb,hsm,by omega,by omega,hw,hb,fun l hl=>⟨hml▸(k.waters.ok l hl).len,(k.waters.ok l hl).fig⟩,fun l hl=>⟨hml▸(k.butts.ok l hl).len,(k.butts.ok l hl).fig⟩⟩
theorem f37_b (m:Md Tryz.prog B) (h:Hp) (s i:Nat) (hs:s<4096) (hi:i<12):FnC m 37 #[.int .u64 (s:Int),.int .i64 (i:Int)] h fun v h'=>h'=h∧IsB (s.testBit i=true) v:=
 CallF.mono (f37_c m h s i hs hi) fun v h' ⟨e1,e2⟩=>⟨e1,by rw [e2];cases s.testBit i;exact .inr ⟨by simp,rfl⟩;exact .inl ⟨rfl,rfl⟩⟩
theorem f176n_c (m:Md Tryz.prog B) (h:Hp) {b:Tb} (sh:Sheet B h b q tv) (hi:i<(jab b).length) (hk:k<(jab b).length) (mi mk:Int) (hn:(jhp b ((jab b).getD i default)).butt=(jhp b ((jab b).getD k default)).butt∨(jhp b ((jab b).getD i default)).butt=false):FnC m 86 #[.pointer (some ⟨q,0,none⟩),.int .i64 (i:Int),.int .i64 (k:Int),.int .i64 mi,.int .i64 mk] h fun v h'=>h'=h∧v= .bool (jfb (dA (cdT b) i) (dA (cdT b) k) mi mk):=by
 have h12:=sh.twelve
 obtain ⟨pc,cc,hcv,hcc,hcr⟩:=sh.cells
 obtain ⟨pcb,pco,hpc⟩:=hcr.ptr zO
 refine D74 ?_
 intro cf cs K hK
 refine Z5 ?_;refine D38 ?_;refine Z8 ?_;refine D70 ?_;refine D99 ?_;refine D53 ?_;refine D70 ?_;refine D99 ?_;refine D54 ?_
 refine jaB rfl zq (fun q11=>jap (jad ?_));refine jaB rfl zq (fun q12=>jap (jad ?_));refine D7 ?_;refine D7 ?_;refine Z9 ?_
 refine jaP rfl zq (fun hc=>?_) (fun hc=>?_)
 ·refine Z8 ?_;refine ji9 ?_
  refine ⟨rfl,?_⟩
  rw [jav b hi,jav b hk];first
   |(rw [jaV zD];done)
   |(rw [jaU zD hbt];exact E55)
   |(rw [jaH zD hbf hbg];exact E55)
 ·refine Z9 ?_
  refine jge rfl zq zK (fun hbt=>?_) (fun hbt=>?_)
  ·refine Z4 ?_;refine D13 ?_;refine Z10 ?_;refine D81 ?_;refine jaI rfl zq ((sh.latI (i:=k) zO).keeps SubH.sub) ?_
   refine jak rfl zq (fun hc=>?_) (fun hc=>?_)
   ·refine Z3 ?_
    refine jaz rfl rfl (fun hc=>?_) (fun hc=>?_)
    ·refine Z24 ?_;refine ji9 ?_
     refine ⟨rfl,?_⟩
     rw [jav b hi,jav b hk];first
      |(rw [jaV zD];done)
      |(rw [jaU zD hbt];exact E55)
      |(rw [jaH zD hbf hbg];exact E55)
    ·refine Z12 ?_;refine D41 ?_;refine D29 ?_
     refine jaz rfl rfl (fun hc=>?_) (fun hc=>?_)
     ·refine Z3 ?_
      refine jak rfl rfl (fun hc=>?_) (fun hc=>?_);all_goals
       refine Z5 ?_;refine ji9 ?_
       refine ⟨rfl,?_⟩
       rw [jav b hi,jav b hk];first
        |(rw [jaV zD];done)
        |(rw [jaU zD hbt];exact E55)
        |(rw [jaH zD hbf hbg];exact E55)
     ·refine Z9 ?_;refine ji9 ?_
      refine ⟨rfl,?_⟩
      rw [jav b hi,jav b hk];first
       |(rw [jaV zD];done)
       |(rw [jaU zD hbt];exact E55)
       |(rw [jaH zD hbf hbg];exact E55)
   ·refine Z16 ?_;refine D41 ?_;refine D29 ?_
    refine jaz rfl rfl (fun hc=>?_) (fun hc=>?_)
    ·refine Z3 ?_
     refine jak rfl rfl (fun hc=>?_) (fun hc=>?_);all_goals
      refine Z5 ?_;refine ji9 ?_
      refine ⟨rfl,?_⟩
      rw [jav b hi,jav b hk];first
       |(rw [jaV zD];done)
       |(rw [jaU zD hbt];exact E55)
       |(rw [jaH zD hbf hbg];exact E55)
    ·refine Z9 ?_;refine ji9 ?_
     refine ⟨rfl,?_⟩
     rw [jav b hi,jav b hk];first
      |(rw [jaV zD];done)
      |(rw [jaU zD hbt];exact E55)
      |(rw [jaH zD hbf hbg];exact E55)
  ·refine Z9 ?_
   refine jb7 (fun hc=>?_) (fun hc=>?_)
   ·first|replace hc:=of_decide_eq_true hc|replace hc:=of_decide_eq_false hc|skip
    refine Zs ?_
    exact absurd hn (by rintro (e|e);exact hbt e;rw [e] at hc;cases hc)
   ·first|replace hc:=of_decide_eq_true hc|replace hc:=of_decide_eq_false hc|skip
    refine Z3 ?_
    have hbf:(jhp b ((jab b).getD i default)).butt=false:=hc
    have hbg:(jhp b ((jab b).getD k default)).butt=true:=by cases e:(jhp b ((jab b).getD k default)).butt;exact absurd (hbf.trans e.symm) hbt;rfl
    refine rr39 ?_;refine Z6 ?_;refine D81 ?_;refine jak rfl zq (fun hc=>?_) (fun hc=>?_);rotate_left
    refine Z10 ?_
    all_goals
     refine Z7 ?_
    ·refine D41 ?_
     refine jaz rfl rfl (fun hc=>?_) (fun hc=>?_)
     ·refine Z7 ?_;refine D29 ?_
      refine jaz rfl rfl (fun hc=>?_) (fun hc=>?_);all_goals
       refine Z5 ?_;refine ji9 ?_
       refine ⟨rfl,?_⟩
       rw [jav b hi,jav b hk];first
        |(rw [jaV zD];done)
        |(rw [jaU zD hbt];exact E55)
        |(rw [jaH zD hbf hbg];exact E55)
     ·refine Z14 ?_;refine ji9 ?_
      refine ⟨rfl,?_⟩
      rw [jav b hi,jav b hk];first
       |(rw [jaV zD];done)
       |(rw [jaU zD hbt];exact E55)
       |(rw [jaH zD hbf hbg];exact E55)
    ·refine D29 ?_
     refine jak rfl rfl (fun hc=>?_) (fun hc=>?_)
     ·refine Z24 ?_;refine ji9 ?_
      refine ⟨rfl,?_⟩
      rw [jav b hi,jav b hk];first
       |(rw [jaV zD];done)
       |(rw [jaU zD hbt];exact E55)
       |(rw [jaH zD hbf hbg];exact E55)
     ·refine Z8 ?_;refine D41 ?_
      refine jaz rfl rfl (fun hc=>?_) (fun hc=>?_)
      ·refine Z7 ?_;refine D29 ?_
       refine jaz rfl rfl (fun hc=>?_) (fun hc=>?_);all_goals
        refine Z5 ?_;refine ji9 ?_
        refine ⟨rfl,?_⟩
        rw [jav b hi,jav b hk];first
         |(rw [jaV zD];done)
         |(rw [jaU zD hbt];exact E55)
         |(rw [jaH zD hbf hbg];exact E55)
      ·refine Z14 ?_;refine ji9 ?_
       refine ⟨rfl,?_⟩
       rw [jav b hi,jav b hk];first
        |(rw [jaV zD];done)
        |(rw [jaU zD hbt];exact E55)
        |(rw [jaH zD hbf hbg];exact E55)
theorem f86_c (m:Md Tryz.prog B) (h:Hp) {b:Tb} (sh:Sheet B h b q tv) (hi:i<(jab b).length) (hk:k<(jab b).length) (mi mk:Int):FnC m 86 #[.pointer (some ⟨q,0,none⟩),.int .i64 (i:Int),.int .i64 (k:Int),.int .i64 mi,.int .i64 mk] h fun v h'=>h'=h∧v= .bool (jfb (dA (cdT b) i) (dA (cdT b) k) mi mk):=by
 have h12:=sh.twelve
 obtain ⟨pc,cc,hcv,hcc,hcr⟩:=sh.cells
 obtain ⟨pcb,pco,hpc⟩:=hcr.ptr zO
 refine D74 ?_
 intro cf cs K hK
 refine Z5 ?_;refine D38 ?_;refine Z8 ?_;refine D70 ?_;refine D99 ?_;refine D53 ?_;refine D70 ?_;refine D99 ?_;refine D54 ?_
 refine jaB rfl zq (fun q11=>jap (jad ?_));refine jaB rfl zq (fun q12=>jap (jad ?_));refine D7 ?_;refine D7 ?_;refine Z9 ?_
 refine jaP rfl zq (fun hc=>?_) (fun hc=>?_)
 ·refine Z8 ?_;refine ji9 ?_
  first
   |exact E57
   |(refine ⟨rfl,?_⟩
     rw [jav b hi,jav b hk];first
      |(rw [jaV zD];done)
      |(rw [jaU zD hbt];exact E55)
      |(rw [jaH zD hbf hbg];exact E55))
 ·refine Z9 ?_
  refine jge rfl zq zK (fun hbt=>?_) (fun hbt=>?_)
  ·refine Z4 ?_;refine D13 ?_;refine Z10 ?_;refine D81 ?_;refine jaI rfl zq ((sh.latI (i:=k) zO).keeps SubH.sub) ?_
   refine jak rfl zq (fun hc=>?_) (fun hc=>?_)
   ·refine Z3 ?_
    refine jaz rfl rfl (fun hc=>?_) (fun hc=>?_)
    ·refine Z24 ?_;refine ji9 ?_
     first
      |exact E57
      |(refine ⟨rfl,?_⟩
        rw [jav b hi,jav b hk];first
         |(rw [jaV zD];done)
         |(rw [jaU zD hbt];exact E55)
         |(rw [jaH zD hbf hbg];exact E55))
    ·refine Z12 ?_;refine D41 ?_;refine D29 ?_
     refine jaz rfl rfl (fun hc=>?_) (fun hc=>?_)
     ·refine Z3 ?_
      refine jak rfl rfl (fun hc=>?_) (fun hc=>?_);all_goals
       refine Z5 ?_;refine ji9 ?_
       first
        |exact E57
        |(refine ⟨rfl,?_⟩
          rw [jav b hi,jav b hk];first
           |(rw [jaV zD];done)
           |(rw [jaU zD hbt];exact E55)
           |(rw [jaH zD hbf hbg];exact E55))
     ·refine Z9 ?_;refine ji9 ?_
      first
       |exact E57
       |(refine ⟨rfl,?_⟩
         rw [jav b hi,jav b hk];first
          |(rw [jaV zD];done)
          |(rw [jaU zD hbt];exact E55)
          |(rw [jaH zD hbf hbg];exact E55))
   ·refine Z16 ?_;refine D41 ?_;refine D29 ?_
    refine jaz rfl rfl (fun hc=>?_) (fun hc=>?_)
    ·refine Z3 ?_
     refine jak rfl rfl (fun hc=>?_) (fun hc=>?_);all_goals
      refine Z5 ?_;refine ji9 ?_
      first
       |exact E57
       |(refine ⟨rfl,?_⟩
         rw [jav b hi,jav b hk];first
          |(rw [jaV zD];done)
          |(rw [jaU zD hbt];exact E55)
          |(rw [jaH zD hbf hbg];exact E55))
    ·refine Z9 ?_;refine ji9 ?_
     first
      |exact E57
      |(refine ⟨rfl,?_⟩
        rw [jav b hi,jav b hk];first
         |(rw [jaV zD];done)
         |(rw [jaU zD hbt];exact E55)
         |(rw [jaH zD hbf hbg];exact E55))
  ·refine Z9 ?_
   refine jb7 (fun hc=>?_) (fun hc=>?_)
   ·first|replace hc:=of_decide_eq_true hc|replace hc:=of_decide_eq_false hc|skip
    refine Zs ?_
    have hab:(jhp b ((jab b).getD i default)).butt=true:=hc
    have hkb:(jhp b ((jab b).getD k default)).butt=false:=by cases e:(jhp b ((jab b).getD k default)).butt;rfl;exact absurd (hab.trans e.symm) hbt
    refine Z6 ?_;refine jag (Post:=fun v=>v= .bool (jfb (dA (cdT b) k) (dA (cdT b) i) mk mi)) rfl zq zK (fun H' hH=>f176n_c m H' (sh.keeps (sq hH)) hk hi mk mi (.inr hkb)) ?_
    rintro v rfl;refine Z4 ?_;refine ji9 ?_
    first
     |exact E57
     |(refine ⟨rfl,?_⟩
       rw [jav b hi,jav b hk];first
        |(rw [jaV zD];done)
        |(rw [jaU zD hbt];exact E55)
        |(rw [jaH zD hbf hbg];exact E55))
   ·first|replace hc:=of_decide_eq_true hc|replace hc:=of_decide_eq_false hc|skip
    refine Z3 ?_
    have hbf:(jhp b ((jab b).getD i default)).butt=false:=hc
    have hbg:(jhp b ((jab b).getD k default)).butt=true:=by cases e:(jhp b ((jab b).getD k default)).butt;exact absurd (hbf.trans e.symm) hbt;rfl
    refine rr39 ?_;refine Z6 ?_;refine D81 ?_;refine jak rfl zq (fun hc=>?_) (fun hc=>?_);rotate_left
    refine Z10 ?_
    all_goals
     refine Z7 ?_
    ·refine D41 ?_
     refine jaz rfl rfl (fun hc=>?_) (fun hc=>?_)
     ·refine Z7 ?_;refine D29 ?_
      refine jaz rfl rfl (fun hc=>?_) (fun hc=>?_);all_goals
       refine Z5 ?_;refine ji9 ?_
       first
        |exact E57
        |(refine ⟨rfl,?_⟩
          rw [jav b hi,jav b hk];first
           |(rw [jaV zD];done)
           |(rw [jaU zD hbt];exact E55)
           |(rw [jaH zD hbf hbg];exact E55))
     ·refine Z14 ?_;refine ji9 ?_
      first
       |exact E57
       |(refine ⟨rfl,?_⟩
         rw [jav b hi,jav b hk];first
          |(rw [jaV zD];done)
          |(rw [jaU zD hbt];exact E55)
          |(rw [jaH zD hbf hbg];exact E55))
    ·refine D29 ?_
     refine jak rfl rfl (fun hc=>?_) (fun hc=>?_)
     ·refine Z24 ?_;refine ji9 ?_
      first
       |exact E57
       |(refine ⟨rfl,?_⟩
         rw [jav b hi,jav b hk];first
          |(rw [jaV zD];done)
          |(rw [jaU zD hbt];exact E55)
          |(rw [jaH zD hbf hbg];exact E55))
     ·refine Z8 ?_;refine D41 ?_
      refine jaz rfl rfl (fun hc=>?_) (fun hc=>?_)
      ·refine Z7 ?_;refine D29 ?_
       refine jaz rfl rfl (fun hc=>?_) (fun hc=>?_);all_goals
        refine Z5 ?_;refine ji9 ?_
        first
         |exact E57
         |(refine ⟨rfl,?_⟩
           rw [jav b hi,jav b hk];first
            |(rw [jaV zD];done)
            |(rw [jaU zD hbt];exact E55)
            |(rw [jaH zD hbf hbg];exact E55))
      ·refine Z14 ?_;refine ji9 ?_
       first
        |exact E57
        |(refine ⟨rfl,?_⟩
          rw [jav b hi,jav b hk];first
           |(rw [jaV zD];done)
           |(rw [jaU zD hbt];exact E55)
           |(rw [jaH zD hbf hbg];exact E55))
end
end Go.Proofs
namespace Go.Proofs
open Go.Lo
theorem jgj (n:Nat):(jbk n).length=n:=by simp [jbk]
theorem jgq: ∀xs:List Int,jbi xs xs=false
 |[]=>rfl
 |a::r=>by unfold jbi;rw [if_pos rfl];exact jgq r
theorem jhq: ∀xs ys zs:List Int,jbi xs ys=true→jbi ys zs=true→jbi xs zs=true
 |[],[],_,h,_=>by simp [jbi] at h
 |[],_::_,[],_,h=>by simp [jbi] at h
 |[],_::_,_::_,_,_=>rfl
 |_::_,[],_,h,_=>by simp [jbi] at h
 |_::_,_::_,[],_,h=>by simp [jbi] at h
 |a::r,c::s,d::t,h1,h2=>by
  unfold jbi at h1 h2⊢
  by_cases e1:a=c
  ·by_cases e2:c=d
   ·rw [if_pos e1] at h1
    rw [if_pos e2] at h2
    rw [if_pos (e1.trans e2)];exact jhq r s t h1 h2
   ·rw [if_neg e2] at h2
    rw [if_neg (e1▸e2),e1];exact h2
  ·rw [if_neg e1] at h1
   have h1:=of_decide_eq_true h1
   by_cases e2:c=d
   ·rw [if_neg (e2▸e1),←e2];exact decide_eq_true h1
   ·rw [if_neg e2] at h2
    have h2:=of_decide_eq_true h2
    rw [if_neg zO];exact decide_eq_true zO
theorem jhm (xs:List Int): ¬jdf xs xs:=by
 rintro (h|⟨_,h⟩)
 ·omega
 ·rw [jgq] at h
  cases h
theorem jfE {zs:List Int} (h1:jdf xs ys) (h2:jdf ys zs):jdf xs zs:=by
 rcases h1 with h1|⟨h1,h1'⟩<;>rcases h2 with h2|⟨h2,h2'⟩
 ·exact .inl zO
 ·exact .inl zO
 ·exact .inl zO
 ·exact .inr ⟨by omega,jhq _ _ _ h1' h2'⟩
theorem jmo: ∀xs ys:List Int,xs=ys∨jbi xs ys=true∨jbi ys xs=true
 |[],[]=> .inl rfl
 |[],_::_=> .inr (.inl rfl)
 |_::_,[]=> .inr (.inr rfl)
 |a::r,c::s=>by
  unfold jbi
  by_cases e:a=c
  ·rw [if_pos e,if_pos e.symm];rcases jmo r s with h|h|h
   ·exact .inl (by rw [e,h])
   ·exact .inr (.inl h)
   ·exact .inr (.inr h)
  ·rw [if_neg e,if_neg (fun x=>e x.symm)];rcases Int.lt_or_gt_of_ne e with h|h
   ·exact .inr (.inl (decide_eq_true h))
   ·exact .inr (.inr (decide_eq_true h))
theorem joh (xs ys:List Int):xs=ys∨jdf xs ys∨jdf ys xs:=by
 unfold jdf
 rcases jmo xs ys with h|h|h
 ·exact .inl h
 ·rcases vV xs.length ys.length with e|e|e
  ·exact .inr (.inl (.inl e))
  ·exact .inr (.inl (.inr ⟨e,h⟩))
  ·exact .inr (.inr (.inl e))
 ·rcases vV xs.length ys.length with e|e|e
  ·exact .inr (.inl (.inl e))
  ·exact .inr (.inr (.inr ⟨e.symm,h⟩))
  ·exact .inr (.inr (.inl e))
theorem jgK {p:Int→Bool}:z∈(jbk k).filter p↔ ∃i:Nat,i<k∧z=(i:Int)∧p i=true:=by
 rw [gV];unfold jbk
 rw [gP];constructor
 ·rintro ⟨⟨i,hi,rfl⟩,h⟩;exact ⟨i,gT.1 hi,rfl,h⟩
 ·rintro ⟨i,hi,rfl,h⟩;exact ⟨⟨i,gT.2 hi,rfl⟩,h⟩
theorem jpu (h:Asc xs) (p:Int→Bool):Asc (xs.filter p):=List.Pairwise.sublist vx h
theorem jpt (k:Nat):Asc (jbk k):=by
 unfold jbk
 refine Gy.2 ?_
 exact List.Pairwise.imp (fun h=>by omega) vf
theorem jmq (mm k:Nat):Asc (jbR mm k):=jpu (jpt _) _
theorem jq4 (h:bitN mm k=1):jbR mm (k+1)=jbR mm k++[(k:Int)]:=by
 rw [jbR,jfD,GG,←jbR,vD,gb,if_pos (decide_eq_true h)];rfl
theorem keptI_no (h:bitN mm k≠1):jbR mm (k+1)=jbR mm k:=by
 rw [jbR,jfD,GG,←jbR,vD,gb,if_neg (by rw [decide_eq_true_iff];exact h)];simp
theorem jkL (mm k:Nat):(jbR mm k).length≤k:=by
 have:=GU (fun i:Int=>decide (bitN mm i.toNat=1)) (jbk k)
 rw [jgj] at this
 exact this
def ji2 (p:Nat→Bool):Nat→Nat
 |0=>0
 |n+1=>if p n then 2^n+ji2 p n else ji2 p n
theorem ji1 (p:Nat→Bool): ∀n,ji2 p n<2^n
 |0=>Nat.one_pos
 |n+1=>by
  have:=ji1 p n
  rw [ji2,Nat.pow_succ];split<;>omega
theorem jg1 (p:Nat→Bool): ∀n i,i<n→(ji2 p n).testBit i=p i
 |0,i,h=>by omega
 |n+1,i,h=>by
  rw [ji2];by_cases e:i=n
  ·subst e
   have h1:=VG (ji1 p i)
   split
   ·rw [Nat.testBit_two_pow_add_eq,h1];rename_i h
    rw [h];rfl
   ·rename_i h
    rw [h1];exact (gz.2 h).symm
  ·have ih:=jg1 p n i zO
   split
   ·rw [Nat.testBit_two_pow_add_gt zO];exact ih
   ·exact ih
theorem jc0 (mm i:Nat):bitN mm i=1↔mm.testBit i=true:=by
 rw [Nat.testBit_eq_decide_div_mod_eq];unfold bitN
 simp
theorem jdv:z∈jbR mm k↔ ∃i:Nat,i<k∧z=(i:Int)∧bitN mm i=1:=by
 unfold jbR
 rw [jgK];simp
theorem jq3 (ha:Asc xs) (h: ∀x∈xs,0≤x∧x<n): ∃mm,mm<2^n∧xs=jbR mm n:=by
 refine ⟨ji2 (fun i=>decide ((i:Int)∈xs)) n,ji1 _ _,Asc.eq ha (jmq _ _) fun z=>?_⟩
 rw [jdv];constructor
 ·intro hz
  have h1:=h z hz
  refine ⟨z.toNat,by omega,by omega,(jc0 _ _).2 ?_⟩
  rw [jg1 _ _ _ zO,show ((z.toNat:Nat):Int)=z by omega];exact decide_eq_true hz
 ·rintro ⟨i,hi,rfl,hb⟩;have:=(jc0 _ _).1 hb
  rw [jg1 _ _ _ hi] at this
  exact of_decide_eq_true this
theorem ji5 (h:Asc ys):ys.Nodup:=List.Pairwise.imp (fun h=>by omega) h
theorem ji6 (h:Asc xs) (hx: ∀x∈xs,0≤x∧x<n):xs.length≤n:=by
 have:=Ga (l₂:=jbk n) (ji5 h) fun z hz=>by
  obtain ⟨h1,h2⟩:=hx z hz
  unfold jbk
  exact gP.2 ⟨z.toNat,gT.2 zO,by omega⟩
 rwa [jgj] at this
end Go.Proofs
namespace Go.Proofs
open Go.Lo
open Go.Conc (G)
section
variable [LaidO B]
def btL (s:Nat) (ms:List Int):List Value:= .int .u64 (s:Int)::jaq ms
abbrev btV (s:Nat) (ms:List Int):Value:= .agg (btL s ms).toArray
theorem jj5 (s:Nat) (h:ms.length=12):(btL s ms).length=13:=by simp [btL,h]
theorem btL_one (s:Nat) (ms:List Int): ∀u∈btL s ms,u.oneCell'=true:=by
 intro u hu
 rcases gO.1 hu with rfl|hu
 ·rfl
 ·obtain ⟨n,_,rfl⟩:=gP.1 hu
  rfl
instance {s:Nat}:Ones (btL s ms):=⟨btL_one s ms⟩
instance {s:Nat}:At (btL s ms) 0 (.int .u64 (s:Int)):=⟨rfl⟩
theorem bt_at {e:Nat} {rw:Bool} {f:Nat×Nat} {s:Nat} [x:Has h q rw (.cells (btL s ms).toArray e f)] (i:Nat) (hi:i<ms.length):Rd B h ⟨q,1+(i:Int).toNat*1,none⟩ (.int .i64 (ms.getD i 0)):=by
 refine Rd.held x.mem ?_
 rw [show 1+(i:Int).toNat*1=i+1 by omega,gZ,btL,vN,ga,gD hi,gC,gD hi];rfl
theorem jn7 {p:Bool} {v:Value} (h:v= .bool p):IsB (p=true) v:=by
 rw [h];cases p
 exact .inr ⟨by simp,rfl⟩
 exact .inl ⟨rfl,rfl⟩
def fitsN (D:List Cd) (s:Nat) (ms:List Int) (i k:Nat):Prop:= ∀j,j<k→s.testBit j=false→riC (dA D j) (dA D i) (ms.getD j 0) (ms.getD i 0)=true
theorem f101_c (m:Md Tryz.prog B) (h:Hp) (s:Nat) (hs:s<4096):FnC m 101 #[.int .u64 (s:Int)] h fun v h'=> ∃new,h'=h++new∧OwnS 3 1 v (jbR s 12).length (jaq (jbR s 12)) new:=by
 refine jae Tryz.func101 rfl rfl (l:=(.int .u64 (s:Int))::uu16) rfl ?_
 intro cf cs K hK
 refine Z14 ?_
 refine jaf (fun nn l h'=> ∃(k:Nat) (wp:Option Addr) (wc:Nat) (M:Hp),nn=12-k∧(k≤12)∧(OwnS 3 1 (.slice wp (jbR s k).length wc) (jbR s k).length (jaq (jbR s k)) M)∧(∃U:Nat→Value,l=((.int .u64 (s:Int))::(U 1)::(U 2)::(.slice wp (jbR s k).length wc)::(U 4)::(.int .i64 (k:Int))::vw11 U 6 []))∧h++M=h') _ ⟨0,none,0,[],rfl,by omega,OwnS.nil,exU rfl,zS⟩ ?_;rintro nn l h' ⟨k,wp,wc,M,rfl,hk,how,⟨U,rfl⟩,rfl⟩ hnext;have hkl:=jkL s k
 refine Z2 ?_
 refine jak rfl zq (fun hc=>?_) (fun hc=>?_);refine Z6 ?_
 rotate_left
 refine Z4 ?_
 all_goals
  refine Z5 ?_
 ·refine Zs ?_;refine jac (h++M) rfl Tryz.func101 rfl jaa ?_;refine Zs ?_
  obtain rfl:k=12:=by omega
  exact ⟨M,rfl,how⟩
 ·refine Z4 ?_;refine jag (Post:=fun v=>IsB _ v) rfl zq zK (fun H' hH=>f37_b m H' s k hs zO) ?_
  rintro v (⟨hc,rfl⟩|⟨hc,rfl⟩);refine Z6 ?_
  refine jcb kdq rfl zq zA zA rfl (fun q13=>jap (jad ?_));refine ja2 rfl zq rfl how kdq zO zO (fun w9 n9 o9=>jad ?_);obtain ⟨p9,c9,rfl,hc9,r9⟩:=jas (B:=B) o9
  refine Z2 ?_
  rotate_left
  refine Z4 ?_
  all_goals
   refine Z5 ?_
  ·have hks:=keptI_no (mm:=s) (k:=k) (fun e=>hc ((jc0 s k).1 e))
   rw [←hks];exact E26
  ·have hks:=jq4 (mm:=s) (k:=k) ((jc0 s k).2 hc)
   have hkl1:(jbR s (k+1)).length=(jbR s k).length+1:=by rw [hks];simp
   rw [←hkl1];exact m.weak jaa (hnext _ _ _ zO ⟨k+1,p9,c9,n9,rfl,by omega,by rw [hkl1,hks,jaZ];exact o9,exU rfl,rfl⟩)
theorem f39_c (m:Md Tryz.prog B) (h:Hp) {b:Tb} (sh:Sheet B h b q tv) (hi:i<(jab b).length) (s:Nat) (hs:s<4096) (hm:ms.length=12):FnC m 39 #[.pointer (some ⟨q,0,none⟩),btV s ms,.int .i64 (i:Int)] h fun v h'=>h'=h∧IsB (fitsN (cdT b) s ms i i) v:=by
 have h12:=sh.twelve
 refine jae Tryz.func39 rfl rfl (l:=(.pointer (some ⟨q,0,none⟩))::(btV s ms)::(.int .i64 (i:Int))::uu29) rfl ?_
 intro cf cs K hK
 refine Z2 ?_
 refine jaF rfl zq (fun q4=>jap (jad ?_));refine Z9 ?_
 refine jaf (fun nn l h'=> ∃(k:Nat),nn=i-k∧(k≤i)∧(fitsN (cdT b) s ms i k)∧(∃U:Nat→Value,l=((.pointer (some ⟨q,0,none⟩))::(btV s ms)::(.int .i64 (i:Int))::(U 3)::(.pointer (some ⟨q4,0,none⟩))::(U 5)::(U 6)::(U 7)::(.int .i64 (i:Int))::(.int .i64 (k:Int))::vw22 U 10 []))∧h++[⟨true,q4,.cells (btL s ms).toArray 68 (0,0)⟩]=h') _ ⟨0,rfl,by omega,fun j hj=>absurd hj zO,exU rfl,rfl⟩ ?_;rintro nn l h' ⟨k,rfl,hk,hno,⟨U,rfl⟩,rfl⟩ hnext;refine Z2 ?_
 refine jak rfl zq (fun hc=>?_) (fun hc=>?_)
 ·refine Z12 ?_;refine jan [Zp 0,Zp 2,Zr 1,Zk 3,Zp 4,Zp 5,Zp 6,Zp 7,Zp 8,Zp 9,Zp 10,Zp 11,Zp 13,Zp 14,Zp 15,Zr 12,Zr 16,Zk 17,Zp 18] zK zK (gE _) ?_;refine Z3 ?_;refine jag (Post:=fun v=>IsB _ v) rfl zq zK (fun H' hH=>f37_b m H' s k hs zO) ?_
  rintro v (⟨hc,rfl⟩|⟨hc,rfl⟩)
  ·refine Zs ?_
   have hbt:s.testBit k=true:=hc
   refine Z23 ?_
   exact m.weak jaa (hnext _ _ _ zO ⟨k+1,rfl,by omega,fun j hj hb=>by
    by_cases e:j<k
    ·exact hno j e hb
    ·obtain rfl:j=k:=by omega
     first|(rw [hc] at hb;cases hb;done)|(rw [hbt] at hb;cases hb;done)|(have hf:=hc;rw [jfb] at hf;simpa using hf),exU rfl,rfl⟩)
  ·refine Zs ?_
   have hbf:s.testBit k=false:=by simpa using hc
   refine Z11 ?_;refine jaI rfl rfl (bt_at k zO) ?_;refine jaI rfl rfl (bt_at i zO) ?_;refine jag (Post:=fun v=>IsB _ v) rfl rfl zK (fun H' hH=>CallF.mono (f86_c m H' (sh.keeps (sq hH)) (i:=k) (k:=i) zO hi (ms.getD k 0) (ms.getD i 0)) fun v h' ⟨e1,e2⟩=>⟨e1,jn7 e2⟩) ?_
   rintro v (⟨hc,rfl⟩|⟨hc,rfl⟩)
   ·refine Z9 ?_;refine jac (h) rfl Tryz.func39 rfl jaa ?_;refine Zs ?_
    refine ⟨rfl,IsB.no fun e=>?_⟩
    have:=e k zO hbf
    rw [jfb,this] at hc
    cases hc
   ·refine Z10 ?_
    exact m.weak jaa (hnext _ _ _ zO ⟨k+1,rfl,by omega,fun j hj hb=>by
     by_cases e:j<k
     ·exact hno j e hb
     ·obtain rfl:j=k:=by omega
      first|(rw [hc] at hb;cases hb;done)|(rw [hbt] at hb;cases hb;done)|(have hf:=hc;rw [jfb] at hf;simpa using hf),exU rfl,rfl⟩)
 ·refine Z9 ?_;refine jac (h) rfl Tryz.func39 rfl jaa ?_;refine Zs ?_
  obtain rfl:k=i:=by omega
  exact ⟨rfl,IsB.yes hno⟩
end
end Go.Proofs
