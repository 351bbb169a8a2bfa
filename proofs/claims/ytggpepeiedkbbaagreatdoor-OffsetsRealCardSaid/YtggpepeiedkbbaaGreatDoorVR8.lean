/- A part of the proof of a law. Condition of each theorem: as its statement says. -/
import Derived.Test.YtggpepeiedkbbaaGreatDoorVR7
set_option linter.all false
variable {B:Array Go.Obj} {s t p:Go.Lo.Str} {i n k ns ks nw cw nb cb j q mm:Nat} {a:UInt8} {v la xs ys ms:List Int} {ps pw pb pl wp:Option Go.Addr} {cl tv:List Go.Value} {lns ls L:List Go.Lo.Ln} {h H:Go.Lo.Hp} {bt:Bool} {li st z:Int}
set_option maxHeartbeats 4000000
set_option maxRecDepth 100000
set_option synthInstance.maxHeartbeats 1000000
set_option synthInstance.maxSize 100000
namespace Go.Proofs
open Go.Lo
open Go.Conc (G)
section
def jbQ (s:Str) (c:UInt8):Nat→List Str×Nat
 |0=>([],0)
 |i+1=>if i=s.length∨s.getD i 0=c then ((jbQ s c i).1++[(s.take i).drop (jbQ s c i).2],i+1) else jbQ s c i
def jiO (s:Str) (c:UInt8):List Str:=(jbQ s c (s.length+1)).1
theorem jkf {c:UInt8} (h:i=s.length∨s.getD i 0=c):jbQ s c (i+1)=((jbQ s c i).1++[(s.take i).drop (jbQ s c i).2],i+1):=by rw [jbQ,if_pos h]
theorem cut_no {c:UInt8} (h:i≠s.length) (h2:s.getD i 0≠c):jbQ s c (i+1)=jbQ s c i:=by rw [jbQ,if_neg (by rintro (e|e);exact h e;exact h2 e)]
theorem jnK (s:Str) (c:UInt8): ∀i,(jbQ s c i).2≤i∧(jbQ s c i).1.length≤i
 |0=>by simp [jbQ]
 |i+1=>by
  have:=jnK s c i
  unfold jbQ
  split
  ·simp
   omega
  ·omega
theorem byte_eq {c:UInt8} (h:(a.toNat:Int)=c.toNat):a=c:=vP.1 zO
theorem byte_ne {c:UInt8} (h: ¬(a.toNat:Int)=c.toNat):a≠c:=fun e=>h (by rw [e])
theorem jjp (ss:List Str) (s:Str):jax (ss++[s])=jax ss++[str s]:=by rw [jc2,jc2,GI];rfl
theorem f63_c (m:Md Tryz.prog B) (h:Hp) (s:Str) (hl:s.length≤100000) (c:UInt8):FnC m 63 #[str s,.int .u8 (c.toNat:Int)] h fun w h'=> ∃new,h'=h++new∧OwnS 9 1 w (jiO s c).length (jax (jiO s c)) new:=by
 refine jad Tryz.func63 rfl rfl (l:=(str s)::(.int .u8 (c.toNat:Int))::uu33) rfl ?_
 intro cf cs K hK
 refine Z18 ?_
 refine jag (fun nn l h'=> ∃(i:Nat) (wp:Option Addr) (wc:Nat) (M:Hp) (f:Nat),nn=s.length+1-i∧(i≤s.length+1)∧(f=(jbQ s c i).2)∧(OwnS 9 1 (.slice wp (jbQ s c i).1.length wc) (jbQ s c i).1.length (jax (jbQ s c i).1) M)∧(∃U:Nat→Value,l=((str s)::(.int .u8 (c.toNat:Int))::(U 2)::(U 3)::(U 4)::(.slice wp (jbQ s c i).1.length wc)::(.int .i64 (f:Int))::(.int .i64 (i:Int))::vw27 U 8 []))∧h++M=h') _ ⟨0,none,0,[],0,rfl,by omega,rfl,OwnS.nil,exU rfl,zS⟩ ?_;rintro nn l h' ⟨i,wp,wc,M,f,rfl,hi,hf,how,⟨U,rfl⟩,rfl⟩ hnext;obtain ⟨hfl,hpl⟩:=jnK s c i
 refine Z6 ?_
 refine jbL rfl zq (fun hc=>?_) (fun hc=>?_)
 ·refine Z6 ?_;refine jog ?_;refine Z3 ?_
  refine jaC rfl zq (fun hc=>?_) (fun hc=>?_)
  ·refine Z15 ?_;refine jg3 (j:=f) (k:=i) rfl zq jjD zO zO ?_
   refine jdx kdq rfl zq zA zA rfl (fun q30=>jar (jae ?_));refine ja2 rfl zq rfl how kdq zO zO (fun w9 n9 o9=>jae ?_);obtain ⟨p9,c9,rfl,hc9,r9⟩:=jas (B:=B) o9
   refine Z13 ?_
   have hks:=jkf (s:=s) (c:=c) (i:=i) (.inl zO)
   have hkl:(jbQ s c (i+1)).1.length=(jbQ s c i).1.length+1:=by rw [hks];simp
   have hk2:(jbQ s c (i+1)).2=i+1:=by rw [hks]
   rw [←hkl];exact E32
  ·refine Z3 ?_;refine D111 ?_;refine Zs ?_
   refine jaC rfl rfl (fun hc=>?_) (fun hc=>?_);refine Z9 ?_;refine jg3 (j:=f) (k:=i) rfl zq jjD zO zO ?_
   refine jdx kdq rfl zq zA zA rfl (fun q30=>jar (jae ?_));refine ja2 rfl zq rfl how kdq zO zO (fun w9 n9 o9=>jae ?_);obtain ⟨p9,c9,rfl,hc9,r9⟩:=jas (B:=B) o9
   refine Z7 ?_
   rotate_left
   refine Z4 ?_
   all_goals
    refine Z6 ?_
   ·have hks:jbQ s c (i+1)=jbQ s c i:=cut_no zO (byte_ne zD)
    rw [←hks];exact m.weak jaa (hnext _ _ _ zO ⟨i+1,wp,wc,M,f,rfl,by omega,by rw [hks];exact hf,by rw [hks];exact how,exU rfl,rfl⟩)
   ·have hks:=jkf (s:=s) (c:=c) (i:=i) (.inr (byte_eq zD))
    have hkl:(jbQ s c (i+1)).1.length=(jbQ s c i).1.length+1:=by rw [hks];simp
    have hk2:(jbQ s c (i+1)).2=i+1:=by rw [hks]
    rw [←hkl];exact E32
 ·refine Z9 ?_;refine jab (h++M) rfl Tryz.func63 rfl jaa ?_;refine Zs ?_
  obtain rfl:i=s.length+1:=by omega
  exact ⟨M,rfl,how⟩
end
section
variable [LaidO B]
def jfj (c:UInt8):Prop:=48≤c.toNat∧c.toNat≤57
instance (c:UInt8):Decidable (jfj c):=by unfold jfj;infer_instance
def negS (s:Str):Prop:=0<s.length∧s.getD 0 0=45
instance (s:Str):Decidable (negS s):=by unfold negS;infer_instance
def jaI (s:Str):Str:=if negS s then s.drop 1 else s
def jlL (s:Str):Int:=if negS s then-1 else 1
def jiC (t:Str) (i:Nat):Nat:=(t.take i).foldl (fun n c=>10*n+(c.toNat-48)) 0
def jfA (s:Str):Prop:=(1≤(jaI s).length∧(jaI s).length≤9)∧ ¬((jaI s).getD 0 0=48∧s≠[48])∧ ∀i,i<(jaI s).length→jfj ((jaI s).getD i 0)
instance (s:Str):Decidable (jfA s):=by unfold jfA;infer_instance
def numS (s:Str):Int:=if jfA s then jlL s*(jiC (jaI s) (jaI s).length:Int) else 0
theorem jmY (s:Str):(jaI s).length≤s.length:=by
 unfold jaI
 split
 ·simp
 ·exact gK _
theorem jej (h:i<t.length):jiC t (i+1)=10*jiC t i+((t.getD i 0).toNat-48):=by
 rw [jiC,jbI t i h,vQ];rfl
theorem valK_lt (i:Nat) (hi:i≤t.length) (hd: ∀j,j<i→jfj (t.getD j 0)):jiC t i<10^i:=by
 induction i with
 |zero=>simp [jiC]
 |succ i ih=>
  have h1:=ih zO fun j hj=>hd j zO
  have h2:=hd i zO
  unfold jfj at h2
  rw [jej zO,Nat.pow_succ];omega
theorem jmI (hi:i≤t.length) (h9:t.length≤9) (hd: ∀j,j<i→jfj (t.getD j 0)):jiC t i<1000000000:=
 GP (valK_lt i hi hd) (GM (GT zA (show i≤9 by omega)) zA)
theorem sgn_or (s:Str):jlL s= -1∨jlL s=1:=by
 unfold jlL
 split
 ·exact .inl rfl
 ·exact .inr rfl
theorem jaW (hn:n<256):(a.toNat:Int)=n↔a=UInt8.ofNat n:=by
 constructor
 ·intro h
  refine vP.1 ?_
  rw [UInt8.toNat_ofNat'];omega
 ·rintro rfl;rw [UInt8.toNat_ofNat'];omega
abbrev numV (s:Str):Value:= .tuple [.int .i64 (numS s),.bool (decide (jfA s))].toArray
theorem jaV (h: ¬jfA s): .tuple [.int .i64 0,.bool false].toArray=numV s:=by rw [numV,numS,if_neg h,decide_eq_false h]
theorem jcm (h:jfA s): .tuple [.int .i64 (jlL s*(jiC (jaI s) (jaI s).length:Int)),.bool true].toArray=numV s:=by rw [numV,numS,if_pos h,decide_eq_true h]
theorem f166_c (m:Md Tryz.prog B) (h:Hp) (s:Str) (hl:s.length≤100000):FnC m 166 #[str s] h fun v h'=>h'=h∧v=numV s:=by
 obtain ⟨s',hs'⟩: ∃s',s'=s:=⟨_,rfl⟩
 obtain ⟨sg,hsg⟩: ∃x:Int,x=1:=⟨_,rfl⟩
 have hls:s'.length=s.length:=by rw [hs']
 refine jad Tryz.func166 rfl rfl (l:=(str s)::uu57) rfl ?_
 intro cf cs K hK
 refine Z8 ?_;refine k_asE (show str s=str s' by rw [hs']) rfl zq ?_;refine k_asE (show Value.int .i64 1= .int .i64 sg by rw [hsg]) rfl zq ?_;refine Z6 ?_
 refine jaD rfl zq (fun hc=>?_) (fun hc=>?_)
 ·refine Z2 ?_;refine jgI (c:=s'.getD 0 0) rfl rfl jjD zO (jj8 zO) ?_
  refine jaC rfl rfl (fun hc=>?_) (fun hc=>?_);refine Z5 ?_;refine k_ssfrom (j:=1) rfl zq jjD zO ?_
  have hng:negS s:=by rw [←hs'];exact ⟨by omega,(jaW (n:=45) zA).1 zD⟩
  refine k_asE (show str (s'.drop 1)=str (jaI s) by rw [jaI,if_pos hng,hs']) rfl zq ?_;refine k_asE (show Value.int .i64 (-1)= .int .i64 (jlL s) by rw [jlL,if_pos hng]) rfl zq ?_;refine Zs ?_;rotate_left
  refine Z4 ?_
  all_goals
   refine Z2 ?_
   have hrl:=jmY s
   first
    |(have hng: ¬negS s:=by
       rw [←hs'];rintro ⟨e1,e2⟩;first|omega|exact absurd ((jaW (n:=45) zA).2 e2) zD
      rw [show s'=jaI s by rw [jaI,if_neg hng,hs'],show sg=jlL s by rw [jlL,if_neg hng,hsg]])
    |skip
   refine rr17 ?_;refine Z2 ?_;refine jal rfl zq (fun hc=>?_) (fun hc=>?_)
   ·refine Z22 ?_;refine jnV ?_
    refine ⟨rfl,?_⟩
    first
     |exact jaV fun e=>by have:=e.1;omega
     |exact E33
     |exact E34
     |(obtain rfl:i=(jaI s).length:=by omega
       refine jcm ⟨by omega,fun e=>?_,hdg⟩
       first
        |exact e.2 hz
        |exact E35)
   ·refine Z2 ?_;refine jno rfl rfl jjD ?_
    refine jaD rfl rfl (fun hc=>?_) (fun hc=>?_)
    ·refine Z18 ?_;refine jnV ?_
     refine ⟨rfl,?_⟩
     first
      |exact jaV fun e=>by have:=e.1;omega
      |exact E33
      |exact E34
      |(obtain rfl:i=(jaI s).length:=by omega
        refine jcm ⟨by omega,fun e=>?_,hdg⟩
        first
         |exact e.2 hz
         |exact E35)
    ·refine Z3 ?_;refine jgI (c:=(jaI s).getD 0 0) rfl rfl jjD zO (jj8 zO) ?_
     refine jaC rfl rfl (fun hc=>?_) (fun hc=>?_)
     ·refine Z2 ?_
      by_cases hz:s=[48]
      ·refine jgh rfl rfl hz ?_;refine Z15 ?_;refine jag (fun nn l h'=> ∃(i:Nat),nn=(jaI s).length-i∧(i≤(jaI s).length)∧(∀j,j<i→jfj ((jaI s).getD j 0))∧(∃U:Nat→Value,l=((str s)::(U 1)::(U 2)::(U 3)::(str (jaI s))::(.int .i64 (jlL s))::(.int .i64 (jiC (jaI s) i:Int))::(.int .i64 (i:Int))::vw50 U 8 []))∧h=h') _ ⟨0,rfl,by omega,fun j hj=>absurd hj zO,exU rfl,rfl⟩ ?_;rintro nn l h' ⟨i,rfl,hi,hdg,⟨U,rfl⟩,rfl⟩ hnext;have hvb:=jmI hi zO hdg
       have hcb:=((jaI s).getD i 0).toNat_lt
       refine Z6 ?_
       refine jal rfl zq (fun hc=>?_) (fun hc=>?_);refine Z6 ?_
       rotate_left
       refine Z3 ?_
       all_goals
        refine Z4 ?_
       ·refine D68 ?_;refine Z4 ?_;refine jnV ?_
        refine ⟨rfl,?_⟩
        first
         |exact jaV fun e=>by have:=e.1;omega
         |exact E33
         |exact E34
         |(obtain rfl:i=(jaI s).length:=by omega
           refine jcm ⟨by omega,fun e=>?_,hdg⟩
           first
            |exact e.2 hz
            |exact E35)
       ·refine D31 ?_;refine D44 ?_
        rintro v (⟨hc,rfl⟩|⟨hc,rfl⟩)
        ·refine Z7 ?_;refine D24 ?_;refine Z2 ?_;refine D31 ?_;refine D47 ?_;refine Z10 ?_
         have hdi:jfj ((jaI s).getD i 0):=by assumption
         rw [show 10*(jiC (jaI s) i:Int)+(((jaI s).getD i 0).toNat:Int)-48=(jiC (jaI s) (i+1):Int) by rw [jej zO];unfold jfj at hdi;omega];exact m.weak jaa (hnext _ _ _ zO ⟨i+1,rfl,by omega,fun j hj=>by
          by_cases e:j<i
          ·exact hdg j e
          ·obtain rfl:j=i:=by omega
           assumption,exU rfl,rfl⟩)
        ·refine Z10 ?_;refine jnV ?_
         refine ⟨rfl,?_⟩
         first
          |exact jaV fun e=>by have:=e.1;omega
          |exact E33
          |exact E34
          |(obtain rfl:i=(jaI s).length:=by omega
            refine jcm ⟨by omega,fun e=>?_,hdg⟩
            first
             |exact e.2 hz
             |exact E35)
      ·refine jhX rfl rfl hz ?_;refine Z10 ?_;refine jnV ?_;refine ⟨rfl,?_⟩
       first
        |exact jaV fun e=>by have:=e.1;omega
        |exact E33
        |exact E34
        |(obtain rfl:i=(jaI s).length:=by omega
          refine jcm ⟨by omega,fun e=>?_,hdg⟩
          first
           |exact e.2 hz
           |exact E35)
     ·refine Z18 ?_
      refine jag (fun nn l h'=> ∃(i:Nat),nn=(jaI s).length-i∧(i≤(jaI s).length)∧(∀j,j<i→jfj ((jaI s).getD j 0))∧(∃U:Nat→Value,l=((str s)::(U 1)::(U 2)::(U 3)::(str (jaI s))::(.int .i64 (jlL s))::(.int .i64 (jiC (jaI s) i:Int))::(.int .i64 (i:Int))::vw50 U 8 []))∧h=h') _ ⟨0,rfl,by omega,fun j hj=>absurd hj zO,exU rfl,rfl⟩ ?_;rintro nn l h' ⟨i,rfl,hi,hdg,⟨U,rfl⟩,rfl⟩ hnext;have hvb:=jmI hi zO hdg
      have hcb:=((jaI s).getD i 0).toNat_lt
      refine Z6 ?_
      refine jal rfl zq (fun hc=>?_) (fun hc=>?_);refine Z6 ?_
      rotate_left
      refine Z3 ?_
      all_goals
       refine Z4 ?_
      ·refine D68 ?_;refine Z4 ?_;refine jnV ?_
       refine ⟨rfl,?_⟩
       first
        |exact jaV fun e=>by have:=e.1;omega
        |exact E33
        |exact E34
        |(obtain rfl:i=(jaI s).length:=by omega
          refine jcm ⟨by omega,fun e=>?_,hdg⟩
          first
           |exact e.2 hz
           |exact E35)
      ·refine D31 ?_;refine D44 ?_
       rintro v (⟨hc,rfl⟩|⟨hc,rfl⟩)
       ·refine Z7 ?_;refine D24 ?_;refine Z2 ?_;refine D31 ?_;refine D47 ?_;refine Z10 ?_
        have hdi:jfj ((jaI s).getD i 0):=by assumption
        rw [show 10*(jiC (jaI s) i:Int)+(((jaI s).getD i 0).toNat:Int)-48=(jiC (jaI s) (i+1):Int) by rw [jej zO];unfold jfj at hdi;omega];exact m.weak jaa (hnext _ _ _ zO ⟨i+1,rfl,by omega,fun j hj=>by
         by_cases e:j<i
         ·exact hdg j e
         ·obtain rfl:j=i:=by omega
          assumption,exU rfl,rfl⟩)
       ·refine Z10 ?_;refine jnV ?_
        refine ⟨rfl,?_⟩
        first
         |exact jaV fun e=>by have:=e.1;omega
         |exact E33
         |exact E34
         |(obtain rfl:i=(jaI s).length:=by omega
           refine jcm ⟨by omega,fun e=>?_,hdg⟩
           first
            |exact e.2 hz
            |exact E35)
 ·refine Z10 ?_
  have hrl:=jmY s
  first
   |(have hng: ¬negS s:=by
      rw [←hs'];rintro ⟨e1,e2⟩;first|omega|exact absurd ((jaW (n:=45) zA).2 e2) zD
     rw [show s'=jaI s by rw [jaI,if_neg hng,hs'],show sg=jlL s by rw [jlL,if_neg hng,hsg]])
   |skip
  refine rr17 ?_;refine Z2 ?_;refine jal rfl zq (fun hc=>?_) (fun hc=>?_)
  ·refine Z22 ?_;refine jnV ?_
   refine ⟨rfl,?_⟩
   first
    |exact jaV fun e=>by have:=e.1;omega
    |exact E33
    |exact E34
    |(obtain rfl:i=(jaI s).length:=by omega
      refine jcm ⟨by omega,fun e=>?_,hdg⟩
      first
       |exact e.2 hz
       |exact E35)
  ·refine Z2 ?_;refine jno rfl rfl jjD ?_
   refine jaD rfl rfl (fun hc=>?_) (fun hc=>?_)
   ·refine Z18 ?_;refine jnV ?_
    refine ⟨rfl,?_⟩
    first
     |exact jaV fun e=>by have:=e.1;omega
     |exact E33
     |exact E34
     |(obtain rfl:i=(jaI s).length:=by omega
       refine jcm ⟨by omega,fun e=>?_,hdg⟩
       first
        |exact e.2 hz
        |exact E35)
   ·refine Z3 ?_;refine jgI (c:=(jaI s).getD 0 0) rfl rfl jjD zO (jj8 zO) ?_
    refine jaC rfl rfl (fun hc=>?_) (fun hc=>?_)
    ·refine Z2 ?_
     by_cases hz:s=[48]
     ·refine jgh rfl rfl hz ?_;refine Z15 ?_;refine jag (fun nn l h'=> ∃(i:Nat),nn=(jaI s).length-i∧(i≤(jaI s).length)∧(∀j,j<i→jfj ((jaI s).getD j 0))∧(∃U:Nat→Value,l=((str s)::(U 1)::(U 2)::(U 3)::(str (jaI s))::(.int .i64 (jlL s))::(.int .i64 (jiC (jaI s) i:Int))::(.int .i64 (i:Int))::vw50 U 8 []))∧h=h') _ ⟨0,rfl,by omega,fun j hj=>absurd hj zO,exU rfl,rfl⟩ ?_;rintro nn l h' ⟨i,rfl,hi,hdg,⟨U,rfl⟩,rfl⟩ hnext;have hvb:=jmI hi zO hdg
      have hcb:=((jaI s).getD i 0).toNat_lt
      refine Z6 ?_
      refine jal rfl zq (fun hc=>?_) (fun hc=>?_);refine Z6 ?_
      rotate_left
      refine Z3 ?_
      all_goals
       refine Z4 ?_
      ·refine D68 ?_;refine Z4 ?_;refine jnV ?_
       refine ⟨rfl,?_⟩
       first
        |exact jaV fun e=>by have:=e.1;omega
        |exact E33
        |exact E34
        |(obtain rfl:i=(jaI s).length:=by omega
          refine jcm ⟨by omega,fun e=>?_,hdg⟩
          first
           |exact e.2 hz
           |exact E35)
      ·refine D31 ?_;refine D44 ?_
       rintro v (⟨hc,rfl⟩|⟨hc,rfl⟩)
       ·refine Z7 ?_;refine D24 ?_;refine Z2 ?_;refine D31 ?_;refine D47 ?_;refine Z10 ?_
        have hdi:jfj ((jaI s).getD i 0):=by assumption
        rw [show 10*(jiC (jaI s) i:Int)+(((jaI s).getD i 0).toNat:Int)-48=(jiC (jaI s) (i+1):Int) by rw [jej zO];unfold jfj at hdi;omega];exact m.weak jaa (hnext _ _ _ zO ⟨i+1,rfl,by omega,fun j hj=>by
         by_cases e:j<i
         ·exact hdg j e
         ·obtain rfl:j=i:=by omega
          assumption,exU rfl,rfl⟩)
       ·refine Z10 ?_;refine jnV ?_
        refine ⟨rfl,?_⟩
        first
         |exact jaV fun e=>by have:=e.1;omega
         |exact E33
         |exact E34
         |(obtain rfl:i=(jaI s).length:=by omega
           refine jcm ⟨by omega,fun e=>?_,hdg⟩
           first
            |exact e.2 hz
            |exact E35)
     ·refine jhX rfl rfl hz ?_;refine Z10 ?_;refine jnV ?_;refine ⟨rfl,?_⟩
      first
       |exact jaV fun e=>by have:=e.1;omega
       |exact E33
       |exact E34
       |(obtain rfl:i=(jaI s).length:=by omega
         refine jcm ⟨by omega,fun e=>?_,hdg⟩
         first
          |exact e.2 hz
          |exact E35)
    ·refine Z18 ?_
     refine jag (fun nn l h'=> ∃(i:Nat),nn=(jaI s).length-i∧(i≤(jaI s).length)∧(∀j,j<i→jfj ((jaI s).getD j 0))∧(∃U:Nat→Value,l=((str s)::(U 1)::(U 2)::(U 3)::(str (jaI s))::(.int .i64 (jlL s))::(.int .i64 (jiC (jaI s) i:Int))::(.int .i64 (i:Int))::vw50 U 8 []))∧h=h') _ ⟨0,rfl,by omega,fun j hj=>absurd hj zO,exU rfl,rfl⟩ ?_;rintro nn l h' ⟨i,rfl,hi,hdg,⟨U,rfl⟩,rfl⟩ hnext;have hvb:=jmI hi zO hdg
     have hcb:=((jaI s).getD i 0).toNat_lt
     refine Z6 ?_
     refine jal rfl zq (fun hc=>?_) (fun hc=>?_);refine Z6 ?_
     rotate_left
     refine Z3 ?_
     all_goals
      refine Z4 ?_
     ·refine D68 ?_;refine Z4 ?_;refine jnV ?_
      refine ⟨rfl,?_⟩
      first
       |exact jaV fun e=>by have:=e.1;omega
       |exact E33
       |exact E34
       |(obtain rfl:i=(jaI s).length:=by omega
         refine jcm ⟨by omega,fun e=>?_,hdg⟩
         first
          |exact e.2 hz
          |exact E35)
     ·refine D31 ?_;refine D44 ?_
      rintro v (⟨hc,rfl⟩|⟨hc,rfl⟩)
      ·refine Z7 ?_;refine D24 ?_;refine Z2 ?_;refine D31 ?_;refine D47 ?_;refine Z10 ?_
       have hdi:jfj ((jaI s).getD i 0):=by assumption
       rw [show 10*(jiC (jaI s) i:Int)+(((jaI s).getD i 0).toNat:Int)-48=(jiC (jaI s) (i+1):Int) by rw [jej zO];unfold jfj at hdi;omega];exact m.weak jaa (hnext _ _ _ zO ⟨i+1,rfl,by omega,fun j hj=>by
        by_cases e:j<i
        ·exact hdg j e
        ·obtain rfl:j=i:=by omega
         assumption,exU rfl,rfl⟩)
      ·refine Z10 ?_;refine jnV ?_
       refine ⟨rfl,?_⟩
       first
        |exact jaV fun e=>by have:=e.1;omega
        |exact E33
        |exact E34
        |(obtain rfl:i=(jaI s).length:=by omega
          refine jcm ⟨by omega,fun e=>?_,hdg⟩
          first
           |exact e.2 hz
           |exact E35)
end
section
variable [LaidO B]
def jcf (s:Str):Int:=if s=[63] then-1 else numS s
def jeS (s:Str) (k:Nat):Prop:=s=[63]∨(jfA s∧(0≤numS s∧numS s≤mosts.getD k 0))
instance (s:Str) (k:Nat):Decidable (jeS s k):=by unfold jeS;infer_instance
def okR (s:Str):Prop:=(jiO s 45).length=3∧ ∀k,k<3→jeS ((jiO s 45).getD k []) k
def jlT (s:Str) (k:Nat):List Int:=((jiO s 45).take k).map jcf
theorem ix3 (hk:k<3):([Value.int .i64 9,.int .i64 11,.int .i64 7]:List Value)[0+((k:Nat):Int).toNat*1]?=some (.int .i64 (mosts.getD k 0)):=by
 rcases (by omega:k=0∨k=1∨k=2) with rfl|rfl|rfl<;>rfl
theorem jmr (s:Str) (c:UInt8): ∀i,∀p∈(jbQ s c i).1,p.length≤s.length
 |0,p,h=>by simp [jbQ] at h
 |i+1,p,h=>by
  unfold jbQ at h
  split at h
  ·rcases gO.1 h with h|h
   ·exact jmr s c i p h
   ·obtain rfl:p=_:=by simpa using h
    simp
    omega
  ·exact jmr s c i p h
theorem f167_c (m:Md Tryz.prog B) (h:Hp) (k:Nat) (hk:k<3):FnC m 167 #[.int .i64 (k:Int)] h fun v h'=>h'=h∧v= .int .i64 (mosts.getD k 0):=by
 refine jad Tryz.func167 rfl rfl (l:=(.int .i64 (k:Int))::uu6) rfl ?_
 intro cf cs K hK
 refine Z6 ?_
 refine jdx kdq rfl zq zA zA rfl (fun q3=>jar (jae ?_));refine Zs ?_;refine D11 ?_;refine jaR rfl zq (Rd.held (Has.mem (b:=q3)) (by simpa using ix3 hk)) ?_;refine Z3 ?_;refine jab (h) rfl Tryz.func167 rfl jaa ?_;refine Zs ?_
 exact ⟨rfl,rfl⟩
theorem f116_c (m:Md Tryz.prog B) (h:Hp) (s:Str) (hl:s.length≤100000) (k:Nat) (hk:k<3):FnC m 116 #[str s,.int .i64 (k:Int)] h fun v h'=>h'=h∧ ∃b,IsB (jeS s k) b∧v= .tuple [.int .i64 (jcf s),b].toArray:=by
 refine jad Tryz.func116 rfl rfl (l:=(str s)::(.int .i64 (k:Int))::uu21) rfl ?_
 intro cf cs K hK
 refine Z9 ?_
 by_cases hq:s=[63]
 ·refine jhY rfl zq hq ?_;refine Z8 ?_;refine jab (h) rfl Tryz.func116 rfl jaa ?_;refine Zs ?_;first
   |exact E36
   |exact E37
   |exact E38
   |exact E39
 ·refine jhZ rfl zq hq ?_;refine Z6 ?_;refine jah (Post:=fun v=>v=_) rfl zq zK (fun H' hH=>f166_c m H' s hl) ?_;rintro v rfl;refine Z8 ?_
  cases hno:decide (jfA s)
  all_goals
   refine Z4 ?_
  ·refine Z9 ?_;refine jab (h) rfl Tryz.func116 rfl jaa ?_;refine Zs ?_
   first
    |exact E36
    |exact E37
    |exact E38
    |exact E39
  ·refine Z2 ?_;refine jah (Post:=fun v=>v=_) rfl rfl zK (fun H' hH=>f167_c m H' k hk) ?_
   rintro v rfl;refine Zs ?_;refine jah (Post:=fun v=>IsB _ v) rfl rfl zK (fun H' hH=>f57_c m H' _ _ _) ?_
   rintro v (⟨hc,rfl⟩|⟨hc,rfl⟩);all_goals
    refine Z6 ?_;refine jab (h) rfl Tryz.func116 rfl jaa ?_;refine Zs ?_
    first
     |exact E36
     |exact E37
     |exact E38
     |exact E39
end
section
variable [LaidO B]
theorem jo6 (h:k<(jiO s 45).length):jlT s (k+1)=jlT s k++[jcf ((jiO s 45).getD k [])]:=by
 rw [jlT,jbI _ k h,GI];rfl
theorem valR_len (h:k≤(jiO s 45).length):(jlT s k).length=k:=by simp [jlT];omega
instance (s:Str):Decidable (okR s):=by unfold okR;infer_instance
def jiL (s:Str):List Int:=if okR s then jlT s 3 else []
theorem f55_c (m:Md Tryz.prog B) (h:Hp) (s:Str) (hl:s.length≤100000):FnC m 55 #[str s] h fun v h'=> ∃new,h'=h++new∧ ∃w b,OwnS 3 1 w (jiL s).length (jav (jiL s)) new∧IsB (okR s) b∧v= .tuple [w,b].toArray:=by
 refine jad Tryz.func55 rfl rfl (l:=(str s)::uu33) rfl ?_
 intro cf cs K hK
 refine Z8 ?_;refine ja8 rfl zq zK (Post:=fun w new=>OwnS 9 1 w (jiO s 45).length (jax (jiO s 45)) new) (fun H' hH=>f63_c m H' s hl 45) ?_
 rintro w n4 o4;refine jaQ (jae ?_);obtain ⟨p4,c4,rfl,hc4,r4⟩:=jas (B:=B) o4
 have hcl:=(jnK s 45 (s.length+1)).2
 have hle:=fun k=>show (((jiO s 45).getD k []).length≤100000) from by
  rcases GX k (jiO s 45).length with e|e
  ·exact GM (jmr s 45 _ _ (jak (l:=jiO s 45) e)) hl
  ·rw [gB,ge e];simp
 refine Z7 ?_
 refine ja5 rfl zq (fun hc=>?_) (fun hc=>?_)
 ·refine Z8 ?_;refine jab (h) rfl Tryz.func55 rfl jaa ?_;refine Zs ?_
  have hno: ¬okR s:=fun e=>by have:=e.1;omega
  exact ⟨[],by simp,_,_,by rw [jiL,if_neg hno];exact OwnS.nil,IsB.no hno,rfl⟩
 ·refine Z13 ?_
  refine jag (fun nn l h'=> ∃(k:Nat) (wp:Option Addr) (wc:Nat) (M:Hp),nn=3-k∧(k≤3)∧(OwnS 3 1 (.slice wp (jlT s k).length wc) (jlT s k).length (jav (jlT s k)) M)∧(∀j,j<k→jeS ((jiO s 45).getD j []) j)∧(∃U:Nat→Value,l=((str s)::(U 1)::(U 2)::(U 3)::(.slice p4 (jiO s 45).length c4)::(.slice wp (jlT s k).length wc)::(.int .i64 (k:Int))::vw27 U 7 []))∧h++n4++M=h') _ ⟨0,none,0,[],rfl,by omega,OwnS.nil,fun j hj=>absurd hj zO,exU rfl,zS⟩ ?_;rintro nn l h' ⟨k,wp,wc,M,rfl,hk,how,hpk,⟨U,rfl⟩,rfl⟩ hnext;have hvl:=valR_len (s:=s) (k:=k) zO
  refine Z4 ?_
  refine jal rfl zq (fun hc=>?_) (fun hc=>?_)
  ·refine Z6 ?_
   have hkn:k<(jiO s 45).length:=by omega
   obtain ⟨b4,o4_,hp4⟩:=r4.ptr zO
   subst hp4
   refine jog ?_;refine Z2 ?_;refine D11 ?_;refine jaR rfl zq (r4.sat k zO zO) ?_;refine Zs ?_;refine jah (Post:=fun v=> ∃b,IsB (jeS ((jiO s 45).getD k []) k) b∧v= .tuple [.int .i64 (jcf ((jiO s 45).getD k [])),b].toArray) rfl zq zK (fun H' hH=>f116_c m H' _ (hle k) k zO) ?_;rintro v ⟨b8,hb8,rfl⟩;refine Z9 ?_
   rcases hb8 with ⟨hc8,rfl⟩|⟨hc8,rfl⟩
   ·refine Z9 ?_
    refine jdx kdq rfl zq zA zA rfl (fun q31=>jar (jae ?_));refine ja2 rfl zq rfl how kdq zO zO (fun w9 n9 o9=>jae ?_);obtain ⟨p9,c9,rfl,hc9,r9⟩:=jas (B:=B) o9
    refine Z8 ?_
    have hks:=jo6 (s:=s) (k:=k) zO
    have hkl:(jlT s (k+1)).length=(jlT s k).length+1:=by rw [hks];simp
    rw [←hkl];exact m.weak jaa (hnext _ _ _ zO ⟨k+1,p9,c9,n9,rfl,by omega,by rw [hkl,hks,jbh];exact o9,fun j hj=>by
     by_cases e:j<k
     ·exact hpk j e
     ·obtain rfl:j=k:=by omega
      exact hc8,exU rfl,rfl⟩)
   ·refine Z11 ?_;refine jab (h) rfl Tryz.func55 rfl jaa ?_;refine Zs ?_
    have hno: ¬okR s:=fun e=>hc8 (e.2 k zO)
    exact ⟨[],by simp,_,_,by rw [jiL,if_neg hno];exact OwnS.nil,IsB.no hno,rfl⟩
  ·refine Z10 ?_;refine jab (h++M) rfl Tryz.func55 rfl jaa ?_;refine Zs ?_
   obtain rfl:k=3:=by omega
   have hok:okR s:=⟨by omega,hpk⟩
   have e:jiL s=jlT s 3:=by rw [jiL,if_pos hok]
   exact ⟨M,rfl,_,_,by rw [e];exact how,IsB.yes hok,rfl⟩
end
end Go.Proofs
namespace Go.Proofs
open Go.Lo
def spl (c:UInt8):Str→List Str
 |[]=>[[]]
 |x::r=>if x=c then []::spl c r else match spl c r with
  |[]=>[[x]]
  |p::q=>(x::p)::q
theorem jkz (c:UInt8) (s:Str):spl c s≠[]:=by
 cases s with
 |nil=>simp [spl]
 |cons x r=>
  unfold spl
  split
  ·simp
  ·split<;>simp
theorem jjL (c y:UInt8): ∀(xs:Str) (A:List Str) (l:Str),spl c xs=A++[l]→spl c (xs++[y])=if y=c then A++[l]++[[]] else A++[l++[y]]
 |[],A,l,h=>by
  have h2:A=[]∧l=[]:=by
   cases A with
   |nil=>simpa [spl,eq_comm] using h
   |cons a A=>simp [spl] at h
  obtain ⟨rfl,rfl⟩:=h2
  by_cases e:y=c<;>simp [spl,e]
 |x::r,A,l,h=>by
  by_cases hx:x=c
  ·rw [spl,if_pos hx] at h
   cases A with
   |nil=>
    have:spl c r=[]:=by simpa using (List.cons.inj h).2
    exact absurd this (jkz c r)
   |cons a A=>
    obtain ⟨rfl,h2⟩:=List.cons.inj h
    have:=jjL c y r A l h2
    rw [gm,spl,if_pos hx,this];split<;>simp
  ·obtain ⟨p,q,hpq⟩: ∃p q,spl c r=p::q:=by
    cases e:spl c r with
    |nil=>exact absurd e (jkz c r)
    |cons p q=>exact ⟨p,q,rfl⟩
   rw [spl,if_neg hx,hpq] at h
   simp only at h
   have hr: ∃A' l',spl c r=A'++[l']∧((A'=[]∧A=[]∧l=x::l')∨(∃A2,A'=p::A2∧A=(x::p)::A2∧l=l')):=by
    cases A with
    |nil=>
     have h3:x::p=l∧q=[]:=by simpa using h
     exact ⟨[],p,by rw [hpq,h3.2];rfl,.inl ⟨rfl,rfl,h3.1.symm⟩⟩
    |cons a A=>
     obtain ⟨h3,h4⟩:=List.cons.inj h
     exact ⟨p::A,l,by rw [hpq,h4];rfl,.inr ⟨A,rfl,by rw [h3],rfl⟩⟩
   obtain ⟨A',l',he,hc⟩:=hr
   have ih:=jjL c y r A' l' he
   rw [gm,spl,if_neg hx,ih];rcases hc with ⟨rfl,rfl,rfl⟩|⟨A2,rfl,rfl,rfl⟩<;>by_cases e:y=c<;>simp [e]
theorem jq9 (s:Str) (c:UInt8): ∀i,i≤s.length→spl c (s.take i)=(jbQ s c i).1++[(s.take i).drop (jbQ s c i).2]
 |0,_=>by simp [spl,jbQ]
 |i+1,h=>by
  have ih:=jq9 s c i zO
  have hle:=(jnK s c i).1
  rw [jbI s i zO,jjL c (s.getD i default) _ _ _ ih];by_cases e:s.getD i 0=c
  ·rw [if_pos (show s.getD i default=c from e),jkf (.inr e)];simp only
   congr 1
   rw [gR];simp
   omega
  ·rw [if_neg (show¬s.getD i default=c from e),cut_no zO e,List.drop_append_of_le_length zN]
theorem jly (s:Str) (c:UInt8):jiO s c=spl c s:=by
 have:=jq9 s c s.length (gK _)
 rw [vC] at this
 rw [jiO,jkf (.inl rfl),this,vC]
def jdo (x:Nat) (p:Str):Nat:=p.foldl (fun n c=>10*n+(c.toNat-48)) x
theorem jkb: ∀(p:Str) (x:Nat),1≤x→x+p.length≤jdo x p
 |[],x,_=>by simp [jdo]
 |c::r,x,h=>by
  have:=jkb r (10*x+(c.toNat-48)) zO
  show _≤jdo (10*x+(c.toNat-48)) r
  simp only [gU]
  omega
abbrev failV:List Int×Bool:=([0,0,0],false)
theorem set_set {x y:Int}:(v.set k x).set k y=v.set k y:=List.set_set ..
theorem jpC: ∀(p r:Str) (v:List Int) (k n x:Nat),v.length=3→k≤2→0<n→1≤x→v.getD k 0=(x:Int)→(x:Int)≤mosts.getD k 0→(∀c∈p,c≠45)→
  rdF mosts (p++r) v k n=if (∀c∈p,jfj c)∧(jdo x p:Int)≤mosts.getD k 0 then rdF mosts r (v.set k (jdo x p:Int)) k (n+p.length) else failV
 |[],r,v,k,n,x,hv,hk,hn,hx,hvx,hm,_=>by
  have e:v.set k (x:Int)=v:=by
   rw [←hvx];rw [gB,gC zO];simp
  rw [if_pos ⟨fun c hc=>by simp at hc,by simpa [jdo] using hm⟩];simp [jdo,e]
 |c::p,r,v,k,n,x,hv,hk,hn,hx,hvx,hm,hd=>by
  have hc45:c.toNat≠45:=fun e=>hd c zS (vP.1 (by rw [e];rfl))
  rw [gm];by_cases hdg:jfj c
  ·have hdg':=hdg
   unfold jfj at hdg'
   have hset:(v.set k (10*v.getD k 0+((c.toNat:Int)-48))).getD k 0=10*v.getD k 0+((c.toNat:Int)-48):=jbq zO
   have hy:10*v.getD k 0+((c.toNat:Int)-48)=((10*x+(c.toNat-48):Nat):Int):=by rw [hvx];omega
   by_cases hb:(v.set k (10*v.getD k 0+((c.toNat:Int)-48))).getD k 0>mosts.getD k 0
   ·rw [jjU ⟨hdg',.inr zO⟩ hb,if_neg];rintro ⟨-,h2⟩;have:=jkb p (10*x+(c.toNat-48)) zO
    rw [hset,hy] at hb
    have h3:(jdo (10*x+(c.toNat-48)) p:Int)≤mosts.getD k 0:=h2
    omega
   ·have hb':(v.set k (10*v.getD k 0+((c.toNat:Int)-48))).getD k 0≤mosts.getD k 0:=by omega
    rw [jjT ⟨hdg',.inr zO⟩ hb',jpC p r _ k (n+1) (10*x+(c.toNat-48)) (by simpa using hv) hk zO zO (by rw [hset,hy]) (by rw [hset,hy] at hb';exact hb') (fun c hc=>hd c (by simp [hc]))];have e1:((∀c∈p,jfj c)∧(jdo (10*x+(c.toNat-48)) p:Int)≤mosts.getD k 0)↔((∀c'∈c::p,jfj c')∧(jdo x (c::p):Int)≤mosts.getD k 0):=by
     constructor
     ·rintro ⟨a,b⟩;exact ⟨fun c' hc'=>by rcases gN.1 hc' with rfl|h;exact hdg;exact a c' h,b⟩
     ·rintro ⟨a,b⟩;exact ⟨fun c' hc'=>a c' (by simp [hc']),b⟩
    by_cases h:(∀c∈p,jfj c)∧(jdo (10*x+(c.toNat-48)) p:Int)≤mosts.getD k 0
    ·rw [if_pos h,if_pos (e1.1 h),set_set];show rdF mosts r (v.set k (jdo (10*x+(c.toNat-48)) p:Int)) k (n+1+p.length)=rdF mosts r (v.set k (jdo (10*x+(c.toNat-48)) p:Int)) k (n+(p.length+1))
     rw [show n+1+p.length=n+(p.length+1) by omega]
    ·rw [if_neg h,if_neg (fun e=>h (e1.2 e))]
  ·rw [jcG zO zO (by rintro ⟨a,-⟩;exact hdg a),if_neg (fun e=>hdg (e.1 c zS))]
theorem jlk: ∀(p:Str) (x:Nat),1≤x→x+9*p.length≤jdo x p
 |[],x,_=>by simp [jdo]
 |c::r,x,h=>by
  have:=jlk r (10*x+(c.toNat-48)) zO
  show _≤jdo (10*x+(c.toNat-48)) r
  simp only [gU]
  omega
theorem neg_no (h: ∀c∈p,c≠45): ¬negS p:=fun ⟨e1,e2⟩=>h _ (jak (l:=p) e1) e2
theorem jpI (h: ∀c∈p,c≠45):jaI p=p:=by rw [jaI,if_neg (neg_no h)]
theorem jmc (h: ∀c∈p,c≠45):jfA p↔(1≤p.length∧p.length≤9)∧ ¬(p.getD 0 0=48∧p≠[48])∧ ∀c∈p,jfj c:=by
 rw [jfA,jpI h];refine and_congr_right fun _=>and_congr_right fun _=>⟨fun e c hc=>?_,fun e i hi=>e _ (jak (l:=p) hi)⟩
 obtain ⟨i,hi,rfl⟩:=GE.1 hc
 have:=e i hi
 rwa [gB,gC hi] at this
theorem jjX (h: ∀c∈p,c≠45) (ok:jfA p):numS p=(jdo 0 p:Int):=by
 rw [numS,if_pos ok,jpI h,jlL,if_neg (neg_no h),jiC,vC,Int.one_mul];rfl
theorem most_bd (h:k≤2):7≤mosts.getD k 0∧mosts.getD k 0≤11:=jfD zO
theorem jm5 (p r:Str) (v:List Int) (k:Nat) (hp:p≠[]) (hd: ∀c∈p,c≠45) (hv:v.length=3) (hk:k≤2) (h0:v.getD k 0=0):
  rdF mosts (p++r) v k 0=if jeS p k then rdF mosts r (v.set k (jcf p)) k p.length else failV:=by
 obtain ⟨c,q,rfl⟩:=List.exists_cons_of_ne_nil hp
 have hmb:=most_bd hk
 have hc45:c.toNat≠45:=fun e=>hd c zS (vP.1 (by rw [e];rfl))
 have hq: ∀c∈q,c≠45:=fun c hc=>hd c (by simp [hc])
 have hni:=jmc hd
 by_cases h63:c.toNat=63
 ·have hcc:c=63:=vP.1 (by rw [h63];rfl)
  subst hcc
  have hno: ¬jfA (63::q):=fun e=>by have:=(hni.1 e).2.2 63 zS;unfold jfj at this;revert this;decide
  have hs:(v.set k (-1)).getD k 0= -1:=jbq zO
  rw [gm,jpM ⟨rfl,rfl⟩ (by rw [hs];omega)];cases q with
  |nil=>
   rw [if_pos (.inl rfl)];show rdF mosts r (v.set k (-1)) k 1=rdF mosts r (v.set k (jcf [63])) k 1
   rw [jcf,if_pos rfl]
  |cons c2 q2=>
   have h2:c2.toNat≠45:=fun e=>hq c2 zS (vP.1 (by rw [e];rfl))
   rw [gm,jcG zO zO (by rw [hs];omega),if_neg];rintro (e|e)
   ·simp at e
   ·exact hno e.1
 ·have hn63:c::q≠[63]:=fun e=>by
   obtain ⟨rfl,-⟩:=List.cons.inj e
   exact h63 rfl
  by_cases hdg:jfj c
  ·have hdg':=hdg
   unfold jfj at hdg'
   have hs:(v.set k (10*v.getD k 0+((c.toNat:Int)-48))).getD k 0=10*v.getD k 0+((c.toNat:Int)-48):=jbq zO
   have hx:10*v.getD k 0+((c.toNat:Int)-48)=((c.toNat-48:Nat):Int):=by rw [h0];omega
   have hf:jdo 0 (c::q)=jdo (c.toNat-48) q:=by
    show jdo (10*0+(c.toNat-48)) q=_
    rw [Nat.mul_zero,gz]
   by_cases hb:(v.set k (10*v.getD k 0+((c.toNat:Int)-48))).getD k 0>mosts.getD k 0
   ·rw [gm,jjU ⟨hdg',.inl rfl⟩ hb,if_neg];rintro (e|⟨e1,e2⟩)
    ·exact hn63 e
    ·rw [jjX hd e1,hf] at e2
     rw [hs,hx] at hb
     have:=jkb q (c.toNat-48) zO
     omega
   ·have hb':(v.set k (10*v.getD k 0+((c.toNat:Int)-48))).getD k 0≤mosts.getD k 0:=by omega
    rw [gm,jjT ⟨hdg',.inl rfl⟩ hb'];by_cases hz:c.toNat=48
    ·have hcc:c=48:=vP.1 (by rw [hz];rfl)
     subst hcc
     cases q with
     |nil=>
      have hok:jfA [48]:=hni.2 ⟨by decide,fun e=>e.2 rfl,fun c hc=>by rw [gq.1 hc];decide⟩
      have hns:=jjX hd hok
      have hz0:(jdo 0 ([48]:Str):Int)=0:=rfl
      rw [if_pos (.inr ⟨hok,by omega,by omega⟩),jcf,if_neg hn63,hns,hz0,hx];rfl
     |cons c2 q2=>
      have h2:c2.toNat≠45:=fun e=>hq c2 zS (vP.1 (by rw [e];rfl))
      rw [gm,jcG zO zO (by rw [hs,hx];rintro ⟨-,e⟩;rcases e with e|e;omega;simp at e),if_neg];rintro (e|e)
      ·exact hn63 e
      ·exact (hni.1 e.1).2.1 ⟨rfl,by simp⟩
    ·rw [jpC q r _ k (0+1) (c.toNat-48) (by simpa using hv) hk zO zO (by rw [hs,hx]) (by rw [hs,hx] at hb';exact hb') hq];by_cases hall:(∀c∈q,jfj c)∧(jdo (c.toNat-48) q:Int)≤mosts.getD k 0
     ·have h9:=jlk q (c.toNat-48) zO
      have hok:jfA (c::q):=hni.2 ⟨by simp only [gU];omega,fun e=>hz (by have:=e.1;rw [show c=48 from this];rfl),fun c' hc'=>by rcases gN.1 hc' with rfl|e;exact hdg;exact hall.1 c' e⟩
      have hns:=jjX hd hok
      rw [hf] at hns
      rw [if_pos hall,if_pos (.inr ⟨hok,by omega,by omega⟩),set_set,jcf,if_neg hn63,hns];simp only [gU]
      rw [gz,vq]
     ·rw [if_neg hall,if_neg];rintro (e|⟨e1,e2⟩)
      ·exact hn63 e
      ·rw [jjX hd e1,hf] at e2
       exact hall ⟨fun c' hc'=>(hni.1 e1).2.2 c' (by simp [hc']),e2.2⟩
  ·rw [gm,jcG zO zO (by rintro ⟨a,-⟩;exact hdg a),if_neg];rintro (e|e)
   ·exact hn63 e
   ·exact hdg ((hni.1 e.1).2.2 c zS)
theorem jhq: ∀s:Str,∃p r,s=p++r∧(∀c∈p,c≠45)∧((r=[]∧spl 45 s=[p])∨ ∃r',r=45::r'∧spl 45 s=p::spl 45 r')
 |[]=>⟨[],[],rfl,by simp,.inl ⟨rfl,rfl⟩⟩
 |x::t=>by
  by_cases hx:x=45
  ·subst hx
   exact ⟨[],45::t,rfl,by simp,.inr ⟨t,rfl,by rw [spl,if_pos rfl]⟩⟩
  ·obtain ⟨p,r,rfl,hp,h⟩:=jhq t
   refine ⟨x::p,r,rfl,fun c hc=>by rcases gN.1 hc with rfl|e;exact hx;exact hp c e,?_⟩
   rcases h with ⟨e1,e2⟩|⟨r',e1,e2⟩
   ·exact .inl ⟨e1,by rw [spl,if_neg hx,e2]⟩
   ·exact .inr ⟨r',e1,by rw [spl,if_neg hx,e2]⟩
theorem jjW (k:Nat): ¬jeS [] k:=by
 rintro (e|e)
 ·simp at e
 ·have:=((jmc (p:=[]) zS).1 e.1).1.1
  simp at this
def okP (k:Nat) (ps:List Str):Prop:=ps.length=3-k∧ ∀j,j<3-k→jeS (ps.getD j []) (k+j)
theorem okP_cons {ps:List Str} (hk:k<2):okP k (p::ps)↔jeS p k∧okP (k+1) ps:=by
 unfold okP
 constructor
 ·rintro ⟨a,b⟩;refine ⟨b 0 zO,by simp only [gU] at a;omega,fun j hj=>?_⟩
  have:=b (j+1) zO
  rw [show k+(j+1)=k+1+j by omega] at this
  simpa using this
 ·rintro ⟨a,b,c⟩;refine ⟨by simp only [gU];omega,fun j hj=>?_⟩
  cases j with
  |zero=>exact a
  |succ j=>
   have:=c j zO
   rw [show k+(j+1)=k+1+j by omega];simpa using this
theorem jmb (hk:k≤2):okP k [p]↔k=2∧jeS p k:=by
 unfold okP
 constructor
 ·rintro ⟨a,b⟩;simp only [gU,vO] at a
  exact ⟨by omega,b 0 zO⟩
 ·rintro ⟨rfl,b⟩;refine ⟨rfl,fun j hj=>?_⟩
  obtain rfl:j=0:=by omega
  exact b
theorem jpN {r:Str} (h: ¬(0<n∧k<2)):rdF mosts (45::r) v k n=failV:=jcG (fun e=>h e.2) (fun e=>absurd e.1 zA) (fun e=>absurd e.1 zA)
theorem fig_go: ∀(d k:Nat) (s:Str) (v:List Int),k+d=2→v.length=3→(∀j,k≤j→v.getD j 0=0)→
  ((rdF mosts s v k 0).2=true↔okP k (spl 45 s))∧(okP k (spl 45 s)→(rdF mosts s v k 0).1=v.take k++(spl 45 s).map jcf):=by
 intro d
 induction d with
 |zero=>
  intro k s v hk hv h0
  obtain rfl:k=2:=by omega
  obtain ⟨p,r,rfl,hp,h⟩:=jhq s
  by_cases hpn:p=[]
  ·subst hpn
   rcases h with ⟨rfl,e⟩|⟨r',rfl,e⟩
   ·rw [e];have: ¬okP 2 [([]:Str)]:=fun x=>jjW 2 ((jmb zO).1 x).2
    exact ⟨⟨fun x=>by simp [rdF] at x,fun x=>absurd x this⟩,fun x=>absurd x this⟩
   ·rw [e];have: ¬okP 2 (([]:Str)::spl 45 r'):=fun x=>jjW 2 (x.2 0 zO)
    rw [GC,jpN zO];exact E40
  ·rw [jm5 p r v 2 hpn hp hv zO (h0 2 zO)];by_cases hpp:jeS p 2
   ·rw [if_pos hpp];rcases h with ⟨rfl,e⟩|⟨r',rfl,e⟩
    ·rw [e];have hl:0<p.length:=by cases p with|nil=>exact absurd rfl hpn|cons a b=>simp
     refine ⟨⟨fun _=>(jmb zO).2 ⟨rfl,hpp⟩,fun _=>by simp [rdF,hl]⟩,fun _=>?_⟩
     obtain ⟨a,b,c,rfl⟩:=three hv
     rfl
    ·rw [e,jpN zO];have: ¬okP 2 (p::spl 45 r'):=fun x=>by
      have h1:=x.1
      have h2:0<(spl 45 r').length:=vT.2 (jkz 45 r')
      simp only [gU] at h1
      omega
     exact E40
   ·rw [if_neg hpp];have: ¬okP 2 (spl 45 (p++r)):=by
     rcases h with ⟨-,e⟩|⟨r',-,e⟩<;>rw [e]<;>exact fun x=>hpp (x.2 0 zO)
    exact E40
 |succ d ih=>
  intro k s v hk hv h0
  obtain ⟨p,r,rfl,hp,h⟩:=jhq s
  have hbad: ¬jeS p k→ ¬okP k (spl 45 (p++r)):=fun hpp=>by
   rcases h with ⟨-,e⟩|⟨r',-,e⟩<;>rw [e]<;>exact fun x=>hpp (x.2 0 zO)
  by_cases hpn:p=[]
  ·subst hpn
   have:=hbad (jjW k)
   rcases h with ⟨rfl,e⟩|⟨r',rfl,e⟩
   ·exact ⟨⟨fun x=>by simp [rdF] at x,fun x=>absurd x this⟩,fun x=>absurd x this⟩
   ·rw [show rdF mosts ([]++45::r') v k 0=failV from jpN zO];exact E40
  ·rw [jm5 p r v k hpn hp hv zO (h0 k zO)];by_cases hpp:jeS p k
   ·rw [if_pos hpp];rcases h with ⟨rfl,e⟩|⟨r',rfl,e⟩
    ·rw [e,jmb zO];refine ⟨⟨fun x=>?_,fun x=>absurd x.1 zO⟩,fun x=>absurd x.1 zO⟩
     simp [rdF] at x
     omega
    ·have hl:0<p.length:=by cases p with|nil=>exact absurd rfl hpn|cons a b=>simp
     rw [e,jm3 ⟨by decide,hl,by omega⟩,okP_cons zO];obtain ⟨i1,i2⟩:=ih (k+1) r' (v.set k (jcf p)) zO (by simpa using hv) (fun j hj=>by rw [set_other zO];exact h0 j zO)
     refine ⟨i1.trans ⟨fun x=>⟨hpp,x⟩,fun x=>x.2⟩,fun x=>?_⟩
     rw [i2 x.2,gx];have:(v.set k (jcf p)).take (k+1)=v.take k++[jcf p]:=by
      rw [jbI _ k zN,VS zO];congr 2
      exact jbq zO
     rw [this,gG];rfl
   ·rw [if_neg hpp];have:=hbad hpp
    exact E40
theorem jhP (s:Str):okR s↔ja1 s=true:=by
 have:=(fig_go 2 0 s [0,0,0] rfl rfl fun j _=>jkl j).1
 rw [ja1,this,okR,okP,jly];refine and_congr_right fun _=>forall_congr' fun j=>?_
 rw [gz]
theorem jnk (s:Str):jiL s=if ja1 s then jap s else []:=by
 by_cases h:okR s
 ·rw [jiL,if_pos h,if_pos ((jhP s).1 h)];have:=(fig_go 2 0 s [0,0,0] rfl rfl fun j _=>jkl j).2 (by
   have h2:=h
   rw [okR,jly] at h2
   refine ⟨h2.1,fun j hj=>?_⟩
   rw [gz];exact h2.2 j hj)
  rw [jap,this,jlT,gf (by have:=h.1;omega),jly];rfl
 ·rw [jiL,if_neg h,if_neg (fun e=>h ((jhP s).2 e))]
end Go.Proofs
namespace Go.Proofs
open Go.Lo
open Go.Conc (G)
section
variable [LaidO B]
def lisP (s:Str):List Int:=if ja1 s then jap s else []
theorem f55p_c (m:Md Tryz.prog B) (h:Hp) (s:Str) (hl:s.length≤100000):FnC m 55 #[str s] h fun v h'=> ∃new,h'=h++new∧ ∃w,OwnS 3 1 w (lisP s).length (jav (lisP s)) new∧v= .tuple [w,.bool (ja1 s)].toArray:=
 CallF.mono (f55_c m h s hl) fun v h' ⟨new,e,w,b,o,hb,ev⟩=>⟨new,e,w,by rw [lisP,←jnk];exact o,by
  rcases hb with ⟨h1,rfl⟩|⟨h1,rfl⟩
  ·rw [(jhP s).1 h1];exact ev
  ·rw [show ja1 s=false from gt.2 fun e=>h1 ((jhP s).2 e)];exact ev⟩
theorem jg8:jef v n=true↔ ∀j,j<3→(v.getD j 0<0∨v.getD j 0=(jcX n).getD j 0):=by
 rw [jef,gT];exact ⟨fun e j hj=>by simpa using e j (gP.2 hj),fun e j hj=>by simpa using e j (gP.1 hj)⟩
theorem ixN (hi:i<3):([.int .i64 ((n:Int)/96),.int .i64 ((n:Int)/8%12),.int .i64 ((n:Int)%8)]:List Value)[0+((i:Nat):Int).toNat*1]?=some (.int .i64 ((jcX n).getD i 0)):=by
 rcases (by omega:i=0∨i=1∨i=2) with rfl|rfl|rfl<;>rfl
theorem jdK (s:Str):jbl s=true↔ja1 s=true∨s=[45]:=by rw [jbl,GK,decide_eq_true_iff];rfl
theorem f173_c (m:Md Tryz.prog B) (h:Hp) (s:Str) (hl:s.length≤100000):FnC m 173 #[str s] h fun v h'=>h'=h∧IsB (jbl s=true) v:=by
 refine jad Tryz.func173 rfl rfl (l:=(str s)::uu14) rfl ?_
 intro cf cs K hK
 refine Z7 ?_;refine D65 ?_
 rintro v n1 ⟨w1,o1,rfl⟩;refine jaQ (jae ?_);obtain ⟨p1,c1,rfl,hc1,r1⟩:=jas (B:=B) o1
 refine Z7 ?_
 cases hfo:ja1 s
 all_goals
  refine Z3 ?_
 ·refine Zs ?_
  by_cases hda:s=[45]
  refine jhY rfl rfl hda ?_;rotate_left
  refine jhZ rfl rfl hda ?_;all_goals
   refine Z4 ?_;refine jab (h) rfl Tryz.func173 rfl jaa ?_;refine Zs ?_
   first
    |exact ⟨rfl,IsB.yes ((jdK s).2 (.inl hfo))⟩
    |exact ⟨rfl,IsB.yes ((jdK s).2 (.inr hda))⟩
    |exact E41
 ·refine Z6 ?_;refine jab (h) rfl Tryz.func173 rfl jaa ?_;refine Zs ?_
  first
   |exact ⟨rfl,IsB.yes ((jdK s).2 (.inl hfo))⟩
   |exact ⟨rfl,IsB.yes ((jdK s).2 (.inr hda))⟩
   |exact E41
theorem f101_c (m:Md Tryz.prog B) (h:Hp) {p:Option Addr} {c:Nat} (rd:RdS B h 1 (.slice p 3 c) 3 (jav v)) (n:Nat) (hn:n<960):FnC m 101 #[.slice p 3 c,.int .i64 (n:Int)] h fun w h'=>h'=h∧IsB (jef v n=true) w:=by
 refine jad Tryz.func101 rfl rfl (l:=(.slice p 3 c)::(.int .i64 (n:Int))::uu33) rfl ?_
 intro cf cs K hK
 refine Z7 ?_;refine jmf n 96 rfl zq rfl rfl zO zO ?_;refine Zs ?_;refine jmf n 8 rfl zq rfl rfl zO zO ?_;refine jow (a:=n/8) (b:=12) rfl zq zO ?_;refine Zs ?_;refine jow (a:=n) (b:=8) rfl zq zO ?_
 refine jdx kdq rfl zq zA zA rfl (fun q14=>jar (jae ?_));refine Z8 ?_
 refine jag (fun nn l h'=> ∃(i:Nat),nn=3-i∧(i≤3)∧(∀j,j<i→(v.getD j 0<0∨v.getD j 0=(jcX n).getD j 0))∧(∃U:Nat→Value,l=((.slice p 3 c)::(.int .i64 (n:Int))::(U 2)::(U 3)::(U 4)::(.slice (some ⟨q14,0,none⟩) 3 3)::(.int .i64 (i:Int))::vw28 U 7 []))∧h++[⟨true,q14,.cells [.int .i64 ((n:Int)/96),.int .i64 ((n:Int)/8%12),.int .i64 ((n:Int)%8)].toArray 3 (0,0)⟩]=h') _ ⟨0,rfl,by omega,fun j hj=>absurd hj zO,exU rfl,rfl⟩ ?_;rintro nn l h' ⟨i,rfl,hi,hft,⟨U,rfl⟩,rfl⟩ hnext;refine Z4 ?_
 refine jal rfl zq (fun hc=>?_) (fun hc=>?_)
 ·refine Z6 ?_
  obtain ⟨b0,o0,rfl⟩:=rd.ptr zO
  refine jao [Zp 0,Zp 1,Zp 2,Zr 3,Zp 4,Zp 5,Zp 6,Zp 7,Zp 8,Zp 10,Zp 11,Zp 12,Zr 9,Zr 13,Zp 14,Zp 15] zK zK (gE _) ?_;refine Z2 ?_;refine D11 ?_;refine jaR rfl zq (rd.iat i zO zO) ?_;refine jbB rfl zq (fun hc=>?_) (fun hc=>?_)
  ·refine Z3 ?_;refine D109 ?_;refine Z2 ?_;refine D109 ?_;refine jaR rfl rfl (rd.iat i zO zO) ?_;refine jaR (v:= .int .i64 ((jcX n).getD i 0)) rfl rfl (Rd.held (Has.mem (b:=q14)) (by have:=ixN (n:=n) (i:=i) zO;simpa using this)) ?_
   refine ja5 rfl rfl (fun hc=>?_) (fun hc=>?_)
   ·refine Z8 ?_;refine jab (h) rfl Tryz.func101 rfl jaa ?_;refine Zs ?_
    first
     |exact ⟨rfl,IsB.yes (jg8.2 fun j hj=>hft j zO)⟩
     |exact ⟨rfl,IsB.no fun e=>by have:=jg8.1 e i zO;omega⟩
   ·refine Z10 ?_
    exact m.weak jaa (hnext _ _ _ zO ⟨i+1,rfl,by omega,fun j hj=>by
     by_cases e:j<i
     ·exact hft j e
     ·obtain rfl:j=i:=by omega
      omega,exU rfl,rfl⟩)
  ·refine Z20 ?_
   exact m.weak jaa (hnext _ _ _ zO ⟨i+1,rfl,by omega,fun j hj=>by
    by_cases e:j<i
    ·exact hft j e
    ·obtain rfl:j=i:=by omega
     omega,exU rfl,rfl⟩)
 ·refine Z8 ?_;refine jab (h) rfl Tryz.func101 rfl jaa ?_;refine Zs ?_
  first
   |exact ⟨rfl,IsB.yes (jg8.2 fun j hj=>hft j zO)⟩
   |exact ⟨rfl,IsB.no fun e=>by have:=jg8.1 e i zO;omega⟩
theorem f32_c (m:Md Tryz.prog B) (h:Hp) (s:Str) (hl:s.length≤100000):FnC m 32 #[str s] h fun w h'=> ∃new,h'=h++new∧OwnS 3 1 w (jcr s).length (jav (jcr s)) new:=by
 refine jad Tryz.func32 rfl rfl (l:=(str s)::uu26) rfl ?_
 intro cf cs K hK
 refine Z7 ?_;refine D65 ?_
 rintro v n1 ⟨w1,o1,rfl⟩;refine jaQ (jae ?_);obtain ⟨p1,c1,rfl,hc1,r1⟩:=jas (B:=B) o1
 refine Z7 ?_
 cases hfo:ja1 s
 rotate_left
 have hls:lisP s=jap s:=by rw [lisP,if_pos hfo]
 have hll:(lisP s).length=3:=by rw [hls];exact (jaT s).len
 rw [hls] at r1
 have h3:=(jaT s).len
 all_goals
  refine Z9 ?_
 ·rw [hll];refine jag (fun nn l h'=> ∃(k:Nat) (wp:Option Addr) (wc:Nat) (M:Hp),nn=960-k∧(k≤960)∧(OwnS 3 1 (.slice wp (jgE (jap s) k).length wc) (jgE (jap s) k).length (jav (jgE (jap s) k)) M)∧(∃U:Nat→Value,l=((str s)::(U 1)::(U 2)::(.slice p1 3 c1)::(.bool true)::(.slice wp (jgE (jap s) k).length wc)::(.int .i64 (k:Int))::vw20 U 7 []))∧h++n1++M=h') _ ⟨0,none,0,[],rfl,by omega,OwnS.nil,exU rfl,zS⟩ ?_;rintro nn l h' ⟨k,wp,wc,M,rfl,hk,how,⟨U,rfl⟩,rfl⟩ hnext;have hml:=jme (jap s) k
  refine Z2 ?_
  skip
  ·refine Z2 ?_
   refine jbL rfl zq (fun hc=>?_) (fun hc=>?_)
   ·refine Z12 ?_;refine jah (Post:=fun v=>IsB _ v) rfl zq zK (fun H' hH=>f101_c m H' (c:=c1) (p:=p1) ((h3▸r1).keeps (sq hH)) k zO) ?_
    rintro v (⟨hc,rfl⟩|⟨hc,rfl⟩);refine Z6 ?_
    refine jdx kdq rfl zq zA zA rfl (fun q24=>jar (jae ?_));refine ja2 rfl zq rfl how kdq zO zO (fun w9 n9 o9=>jae ?_);obtain ⟨p9,c9,rfl,hc9,r9⟩:=jas (B:=B) o9
    refine Z2 ?_
    rotate_left
    refine Z4 ?_
    all_goals
     refine Z6 ?_
    ·have hks:jgE (jap s) (k+1)=jgE (jap s) k:=by rw [jfE,if_neg hc,gb]
     rw [←hks];exact E19
    ·have hks:jgE (jap s) (k+1)=jgE (jap s) k++[(k:Int)]:=by rw [jfE,if_pos hc]
     have hkl:(jgE (jap s) (k+1)).length=(jgE (jap s) k).length+1:=by rw [hks];simp
     rw [←hkl];exact E20
   ·refine Z12 ?_;refine jab (h++M) rfl Tryz.func32 rfl jaa ?_;refine Zs ?_
    obtain rfl:k=960:=by omega
    exact ⟨M,rfl,by rw [jcr,hfo];exact how⟩
 ·refine jag (fun nn l h'=> ∃(k:Nat),nn=0-k∧(k≤0)∧(∃U:Nat→Value,l=((str s)::(U 1)::(U 2)::(U 3)::(.bool false)::(.slice none 0 0)::(.int .i64 (k:Int))::vw20 U 7 []))∧h++n1=h') _ ⟨0,rfl,by omega,exU rfl,rfl⟩ ?_;rintro nn l h' ⟨k,rfl,hk,⟨U,rfl⟩,rfl⟩ hnext;refine Z2 ?_
  skip
  ·refine Z2 ?_
   refine jbL rfl zq (fun hc=>?_) (fun hc=>?_);refine Z3 ?_
   rotate_left
   refine Z3 ?_
   all_goals
    refine Z9 ?_;refine jab (h) rfl Tryz.func32 rfl jaa ?_;refine Zs ?_
    exact ⟨[],by simp,by rw [jcr,hfo];exact OwnS.nil⟩
end
section
variable [LaidO B]
theorem f125_c (m:Md Tryz.prog B) (h:Hp) {b:Tb} (rds:RdS B h 1 (.slice ps ns ks) ns (jax b.sts)) (hcs:ns≤ks) (hns:ns≤1000) (hsl: ∀s∈b.sts,s.length≤100000) {nl cl:Nat} (hln:RdLn B h (.slice pl nl cl) nl lns) (hnl:nl≤1000) (hsm: ∀l∈lns,l.figs.length≤1000∧ ∀f∈l.figs,f.length≤100000):FnC m 125 #[tbV b ps ns ks pw nw cw pb nb cb,.slice pl nl cl] h fun v h'=>h'=h∧v= .int .i64 (jaA b.sts.length lns):=by
 have hml:=rds.elen zA
 obtain ⟨lps,rfl,rl,hfig⟩:=hln
 have hll:=rl.elen zA
 refine jad Tryz.func125 rfl rfl (l:=(tbV b ps ns ks pw nw cw pb nb cb)::(.slice pl nl cl)::uu67) rfl ?_
 intro cf cs K hK
 refine Z2 ?_
 refine jaK rfl zq (fun q2=>jar (jae ?_));refine Z7 ?_
 refine jaD rfl zq (fun hc=>?_) (fun hc=>?_)
 ·refine Z7 ?_;refine D60 ?_;refine Zs ?_
  refine ⟨rfl,congrArg (Value.int .i64) ?_⟩
  first
   |(rw [jaA,if_pos zI];done)
   |(rw [jaA,if_neg zI,hlm];first
     |(rw [gR zI];rfl)
     |(rw [hdr];first
       |exact (jbW zO).symm
       |exact E23
       |exact E24
       |exact E42))
 ·refine Z9 ?_
  refine jag (fun nn l h'=> ∃(i:Nat),nn=nl-i∧(i≤nl)∧(jbS b.sts.length none (lps.map (·.ln))=jbS b.sts.length (jl6 (lps.map (·.ln)) i) ((lps.map (·.ln)).drop i))∧(∃U:Nat→Value,l=((tbV b ps ns ks pw nw cw pb nb cb)::(.slice pl nl cl)::(.pointer (some ⟨q2,0,none⟩))::(U 3)::(U 4)::(.int .i64 (i:Int))::vw63 U 6 []))∧h++[⟨true,q2,.cells (tbL b ps ns ks pw nw cw pb nb cb).toArray 25 (0,0)⟩]=h') _ ⟨0,rfl,by omega,rfl,exU rfl,rfl⟩ ?_;rintro nn l h' ⟨i,rfl,hi,hlm,⟨U,rfl⟩,rfl⟩ hnext1;refine Z6 ?_
  refine jal rfl zq (fun hc=>?_) (fun hc=>?_)
  ·refine Z7 ?_
   obtain ⟨rl_b,rl_o,rfl⟩:=rl.ptr zO
   obtain ⟨x,hx⟩: ∃x,x=lps.getD i default:=⟨_,rfl⟩
   have hxm:x∈lps:=hx▸jak zO
   obtain ⟨hxc,rdf0⟩:=hfig x hxm
   have hdr:(lps.map (·.ln)).drop i=x.ln::(lps.map (·.ln)).drop (i+1):=by rw [jkd zI,jaZ _ _ zO,←hx]
   obtain ⟨hfl,hfs⟩:=hsm x.ln (gQ.2 ⟨x,hxm,rfl⟩)
   refine Z3 ?_;refine D11 ?_;refine Zs ?_;refine jaR (v:= .int .i64 (lps.getD i default).ln.lat) rfl zq (rl.fat i 0 zO zO rfl) ?_
   rw [←hx];refine D61 ?_
   rintro v (⟨hc,rfl⟩|⟨hc,rfl⟩)
   ·refine Z7 ?_;refine jao [Zp 0,Zp 1,Zp 2,Zp 3,Zp 4,Zp 5,Zp 6,Zp 8,Zp 9,Zp 10,Zp 11,Zp 12,Zr 7,Zr 13,Zp 14,Zp 15] zK zK (gE _) ?_;refine Zs ?_
    refine jaD rfl zq (fun hc=>?_) (fun hc=>?_)
    ·refine Z3 ?_;refine D109 ?_;refine Z3 ?_;refine D96 ?_;refine D109 ?_;refine Zs ?_;refine jaR (v:= .int .i64 (lps.getD i default).ln.lat) rfl rfl (rl.fat i 0 zO zO rfl) ?_
     rw [←hx];refine D110 ?_
     refine jbL rfl rfl (fun hc=>?_) (fun hc=>?_)
     ·refine Z8 ?_;refine D60 ?_;refine Zs ?_
      refine ⟨rfl,congrArg (Value.int .i64) ?_⟩
      first
       |(rw [jaA,if_pos zI];done)
       |(rw [jaA,if_neg zI,hlm];first
         |(rw [gR zI];rfl)
         |(rw [hdr];first
           |exact (jbW zO).symm
           |exact E23
           |exact E24
           |exact E42))
     ·refine Z6 ?_
      have hnu: ¬jgS (jl6 (lps.map (·.ln)) i) x.ln.lat:=by
       rintro ⟨y,e1,e2⟩;first
        |(have hi0:i=0:=by omega
          subst hi0
          cases e1)
        |(rw [jaJ zO,jaZ _ _ zO] at e1;have e3:=gD e1;omega)
      refine D63 ?_;refine Z2 ?_;refine D11 ?_;refine Z2 ?_;refine D16 ?_
      rw [←hx];refine Z3 ?_
      refine ja5 rfl zq (fun hc=>?_) (fun hc=>?_)
      ·refine Z7 ?_;refine D60 ?_;refine Zs ?_
       refine ⟨rfl,congrArg (Value.int .i64) ?_⟩
       first
        |(rw [jaA,if_pos zI];done)
        |(rw [jaA,if_neg zI,hlm];first
          |(rw [gR zI];rfl)
          |(rw [hdr];first
            |exact (jbW zO).symm
            |exact E23
            |exact E24
            |exact E42))
      ·refine Z8 ?_
       refine jag (fun nn l h'=> ∃(k:Nat),nn=x.ln.figs.length-k∧(k≤x.ln.figs.length)∧(∀j,j<k→jbl (x.ln.figs.getD j [])=true)∧(∃U:Nat→Value,l=((tbV b ps ns ks pw nw cw pb nb cb)::(.slice (some ⟨rl_b,rl_o,none⟩) nl cl)::(.pointer (some ⟨q2,0,none⟩))::(U 3)::(U 4)::(.int .i64 (i:Int))::(.int .i64 (k:Int))::vw62 U 7 []))∧h++[⟨true,q2,.cells (tbL b ps ns ks pw nw cw pb nb cb).toArray 25 (0,0)⟩]=h') _ ⟨0,rfl,by omega,fun j hj=>absurd hj zO,exU rfl,rfl⟩ ?_;rintro nn l h' ⟨k,rfl,hk,hfk,⟨U,rfl⟩,rfl⟩ hnext2;refine Z6 ?_;refine D11 ?_;refine Zs ?_;refine D16 ?_
       rw [←hx];refine Zs ?_
       refine jal rfl zq (fun hc=>?_) (fun hc=>?_)
       ·refine Z6 ?_
        have rdf:=rdf0 zO
        obtain ⟨fb,fo,hfp⟩:=rdf.ptr zO
        have rdg:=rdf
        rw [hfp] at rdg
        have hsk:(x.ln.figs.getD k []).length≤100000:=hfs _ (jak (l:=x.ln.figs) zO)
        refine Z3 ?_;refine D11 ?_;refine Zs ?_;refine D16 ?_
        rw [←hx];refine Zs ?_;refine D54 ?_;refine D100 ?_;refine jah (Post:=fun v=>IsB _ v) rfl zq zK (fun H' hH=>f173_c m H' _ hsk) ?_
        rintro v (⟨hc,rfl⟩|⟨hc,rfl⟩)
        ·refine Z6 ?_
         skip
         refine Z5 ?_
         exact m.weak jaa (hnext2 _ _ _ zO ⟨k+1,rfl,by omega,fun j hj=>by
          by_cases e:j<k
          ·exact hfk j e
          ·obtain rfl:j=k:=by omega
           assumption,exU rfl,rfl⟩)
        ·refine Z9 ?_;refine D60 ?_;refine Zs ?_
         refine ⟨rfl,congrArg (Value.int .i64) ?_⟩
         first
          |(rw [jaA,if_pos zI];done)
          |(rw [jaA,if_neg zI,hlm];first
            |(rw [gR zI];rfl)
            |(rw [hdr];first
              |exact (jbW zO).symm
              |exact E23
              |exact E24
              |exact E42))
       ·refine Z4 ?_
        have hall: ∀f∈x.ln.figs,jbl f=true:=fun f hf=>by
         obtain ⟨j,hj,e⟩:=GE.1 hf
         have:=hfk j zO
         rw [gB,gC hj] at this
         exact e▸this
        refine Z5 ?_
        exact E26
    ·refine Z19 ?_
     have hnu: ¬jgS (jl6 (lps.map (·.ln)) i) x.ln.lat:=by
      rintro ⟨y,e1,e2⟩;first
       |(have hi0:i=0:=by omega
         subst hi0
         cases e1)
       |(rw [jaJ zO,jaZ _ _ zO] at e1;have e3:=gD e1;omega)
     refine D63 ?_;refine Z2 ?_;refine D11 ?_;refine Z2 ?_;refine D16 ?_
     rw [←hx];refine Z3 ?_
     refine ja5 rfl zq (fun hc=>?_) (fun hc=>?_)
     ·refine Z7 ?_;refine D60 ?_;refine Zs ?_
      refine ⟨rfl,congrArg (Value.int .i64) ?_⟩
      first
       |(rw [jaA,if_pos zI];done)
       |(rw [jaA,if_neg zI,hlm];first
         |(rw [gR zI];rfl)
         |(rw [hdr];first
           |exact (jbW zO).symm
           |exact E23
           |exact E24
           |exact E42))
     ·refine Z8 ?_
      refine jag (fun nn l h'=> ∃(k:Nat),nn=x.ln.figs.length-k∧(k≤x.ln.figs.length)∧(∀j,j<k→jbl (x.ln.figs.getD j [])=true)∧(∃U:Nat→Value,l=((tbV b ps ns ks pw nw cw pb nb cb)::(.slice (some ⟨rl_b,rl_o,none⟩) nl cl)::(.pointer (some ⟨q2,0,none⟩))::(U 3)::(U 4)::(.int .i64 (i:Int))::(.int .i64 (k:Int))::vw62 U 7 []))∧h++[⟨true,q2,.cells (tbL b ps ns ks pw nw cw pb nb cb).toArray 25 (0,0)⟩]=h') _ ⟨0,rfl,by omega,fun j hj=>absurd hj zO,exU rfl,rfl⟩ ?_;rintro nn l h' ⟨k,rfl,hk,hfk,⟨U,rfl⟩,rfl⟩ hnext2;refine Z6 ?_;refine D11 ?_;refine Zs ?_;refine D16 ?_
      rw [←hx];refine Zs ?_
      refine jal rfl zq (fun hc=>?_) (fun hc=>?_)
      ·refine Z6 ?_
       have rdf:=rdf0 zO
       obtain ⟨fb,fo,hfp⟩:=rdf.ptr zO
       have rdg:=rdf
       rw [hfp] at rdg
       have hsk:(x.ln.figs.getD k []).length≤100000:=hfs _ (jak (l:=x.ln.figs) zO)
       refine Z3 ?_;refine D11 ?_;refine Zs ?_;refine D16 ?_
       rw [←hx];refine Zs ?_;refine D54 ?_;refine D100 ?_;refine jah (Post:=fun v=>IsB _ v) rfl zq zK (fun H' hH=>f173_c m H' _ hsk) ?_
       rintro v (⟨hc,rfl⟩|⟨hc,rfl⟩)
       ·refine Z6 ?_
        skip
        refine Z5 ?_
        exact m.weak jaa (hnext2 _ _ _ zO ⟨k+1,rfl,by omega,fun j hj=>by
         by_cases e:j<k
         ·exact hfk j e
         ·obtain rfl:j=k:=by omega
          assumption,exU rfl,rfl⟩)
       ·refine Z9 ?_;refine D60 ?_;refine Zs ?_
        refine ⟨rfl,congrArg (Value.int .i64) ?_⟩
        first
         |(rw [jaA,if_pos zI];done)
         |(rw [jaA,if_neg zI,hlm];first
           |(rw [gR zI];rfl)
           |(rw [hdr];first
             |exact (jbW zO).symm
             |exact E23
             |exact E24
             |exact E42))
      ·refine Z4 ?_
       have hall: ∀f∈x.ln.figs,jbl f=true:=fun f hf=>by
        obtain ⟨j,hj,e⟩:=GE.1 hf
        have:=hfk j zO
        rw [gB,gC hj] at this
        exact e▸this
       refine Z5 ?_
       exact E26
   ·refine Z9 ?_;refine D60 ?_;refine Zs ?_
    refine ⟨rfl,congrArg (Value.int .i64) ?_⟩
    first
     |(rw [jaA,if_pos zI];done)
     |(rw [jaA,if_neg zI,hlm];first
       |(rw [gR zI];rfl)
       |(rw [hdr];first
         |exact (jbW zO).symm
         |exact E23
         |exact E24
         |exact E42))
  ·refine Z8 ?_;refine D60 ?_;refine Zs ?_
   refine ⟨rfl,congrArg (Value.int .i64) ?_⟩
   first
    |(rw [jaA,if_pos zI];done)
    |(rw [jaA,if_neg zI,hlm];first
      |(rw [gR zI];rfl)
      |(rw [hdr];first
        |exact (jbW zO).symm
        |exact E23
        |exact E24
        |exact E42))
end
end Go.Proofs
namespace Go.Proofs
open Go.Lo
theorem jhs (x:UInt8) (r:Str):jf2 (x::r)=jf2 r+if x.toNat=63 then 1 else 0:=by
 rw [jf2,VO];simp [jf2]
theorem jkA: ∀s:Str,jf2 s=((spl 45 s).map jf2).sum
 |[]=>rfl
 |x::r=>by
  have ih:=jkA r
  by_cases hx:x=45
  ·subst hx
   rw [spl,if_pos rfl,jhs,ih];simp [jf2]
  ·obtain ⟨p,q,hpq⟩: ∃p q,spl 45 r=p::q:=by
    cases e:spl 45 r with
    |nil=>exact absurd e (jkz 45 r)
    |cons p q=>exact ⟨p,q,rfl⟩
   rw [spl,if_neg hx,hpq,jhs,ih,hpq];simp only [gx,vI,jhs]
   omega
theorem jgX: ∀(s:Str),∀p∈spl 45 s,∀c∈p,c≠45
 |[],p,h,c,hc=>by
  simp [spl] at h
  subst h
  simp at hc
 |x::r,p,h,c,hc=>by
  by_cases hx:x=45
  ·rw [spl,if_pos hx] at h
   rcases gN.1 h with rfl|h
   ·simp at hc
   ·exact jgX r p h c hc
  ·obtain ⟨p',q,hpq⟩: ∃p q,spl 45 r=p::q:=by
    cases e:spl 45 r with
    |nil=>exact absurd e (jkz 45 r)
    |cons p q=>exact ⟨p,q,rfl⟩
   rw [spl,if_neg hx,hpq] at h
   simp only at h
   rcases gN.1 h with rfl|h
   ·rcases gN.1 hc with rfl|hc
    ·exact hx
    ·exact jgX r p' (by rw [hpq];simp) c hc
   ·exact jgX r p (by rw [hpq];simp [h]) c hc
theorem part_smu (h:jeS p k) (hd: ∀c∈p,c≠45):jf2 p=if jcf p= -1 then 1 else 0:=by
 by_cases hq:p=[63]
 ·subst hq
  rw [jcf,if_pos rfl];rfl
 ·rcases h with e|⟨e1,e2,e3⟩
  ·exact absurd e hq
  ·rw [jcf,if_neg hq,if_neg zO,jf2,vR];intro c hc e
   have h1:=((jmc hd).1 e1).2.2 c hc
   have h2:=of_decide_eq_true e
   unfold jfj at h1
   omega
theorem jkE: ∀(l:List Str),(∀p∈l,(∃k,jeS p k)∧ ∀c∈p,c≠45)→(l.map jcf).countP (fun x=>decide (x= -1))=(l.map jf2).sum
 |[],_=>rfl
 |p::l,h=>by
  have ih:=jkE l fun q hq=>h q (by simp [hq])
  obtain ⟨⟨k,hp⟩,hd⟩:=h p zS
  rw [gx,VO,ih,gx,vI,part_smu hp hd,vq];simp
theorem jpn (h:jbl s=true):jf2 s=jfs s:=by
 rw [jbl,GK] at h
 rcases h with h|h
 ·have hok:=(jhP s).2 h
  have hv:jap s=(spl 45 s).map jcf:=by
   have:=jnk s
   rw [jiL,if_pos hok,if_pos h,jlT,gf (by have:=hok.1;omega),jly] at this
   exact this.symm
  have hok2:=hok
  rw [okR,jly] at hok2
  rw [jfs,hv,jkE,jkA];intro p hp
  refine ⟨?_,jgX s p hp⟩
  obtain ⟨j,hj,e⟩:=GE.1 hp
  have:=hok2.2 j zO
  rw [gB,gC hj] at this
  exact ⟨j,e▸this⟩
 ·obtain rfl:s=jiN:=of_decide_eq_true h
  decide
theorem jk6 {n:Nat}: ∀(ls:List Ln) (p:Option Int),jbS n p ls=0→ ∀l∈ls,l.figs.length=n∧ ∀f∈l.figs,jbl f=true
 |[],_,_,l,hl=>by simp at hl
 |x::r,p,h,l,hl=>by
  unfold jbS at h
  split at h
  ·omega
  ·split at h
   ·omega
   ·split at h
    ·omega
    ·split at h
     ·omega
     ·rename_i h3 h4
      rcases gN.1 hl with rfl|hl
      ·exact ⟨Decidable.not_not.1 h3,Decidable.not_not.1 h4⟩
      ·exact jk6 r _ h l hl
theorem jfF (h:jaA n ls=0):ls.length≤2∧ ∀l∈ls,l.figs.length=n∧ ∀f∈l.figs,jbl f=true:=by
 unfold jaA at h
 split at h
 ·omega
 ·exact ⟨by omega,jk6 ls _ h⟩
def jjP (l:Ln):Nat:=(l.figs.map jf2).sum
theorem jjO {l:Ln} (h: ∀f∈l.figs,jbl f=true):jjP l=jgQ l:=by
 rw [jjP,jgQ,GW fun f hf=>jpn (h f hf)]
theorem jmP (h:jaA n ls=0):(ls.map jjP).sum=jiE ls:=by
 rw [jiE,GW fun l hl=>jjO ((jfF h).2 l hl).2]
end Go.Proofs
namespace Go.Proofs
open Go.Lo
open Go.Conc (G)
section
variable [LaidO B]
theorem jaL {b:Tb} {v:Int} (h:jd4 b=v) (h0:v≠0):tbS b=v:=by rw [tbS,h,if_pos h0]
theorem je3 {b:Tb} (h:jd4 b=0) (h0:jaA b.sts.length b.waters≠0):tbS b=jaA b.sts.length b.waters:=by rw [tbS,if_neg (fun e=>e h),jiq,if_pos h0]
theorem je4 {b:Tb} (h:jd4 b=0) (h0:jaA b.sts.length b.waters=0) (h1:jaA b.sts.length b.butts≠0):tbS b=jaA b.sts.length b.butts:=by rw [tbS,if_neg (fun e=>e h),jiq,if_neg (fun e=>e h0),if_pos h1]
theorem jbG {b:Tb} (h:jd4 b=0) (h0:jaA b.sts.length b.waters=0) (h1:jaA b.sts.length b.butts=0):tbS b=if jiE b.waters+jiE b.butts>2 then 2 else 0:=by rw [tbS,if_neg (fun e=>e h),jiq,if_neg (fun e=>e h0),if_neg (fun e=>e h1)]
def joN (L:List Ln) (k:Nat):Nat:=((L.take k).map jjP).sum
theorem jrd (h:k<L.length):joN L (k+1)=joN L k+jjP (L.getD k default):=jfq jjP L k h
theorem jbH {b:Tb} (h0:jaA n b.waters=0) (h1:jaA n b.butts=0) (hk:b.waters.length+b.butts.length≤k):joN (b.waters++b.butts) k=jiE b.waters+jiE b.butts:=by
 rw [joN,gf (by simpa using hk),GI,VU,jmP h0,jmP h1]
theorem f66_c (m:Md Tryz.prog B) (h:Hp) {b:Tb} (rds:RdS B h 1 (.slice ps ns ks) ns (jax b.sts)) (hcs:ns≤ks) (hns:ns≤1000) (hsl: ∀s∈b.sts,s.length≤100000) (rdw:RdLn B h (.slice pw nw cw) nw b.waters) (hnw:nw≤1000) (rdb:RdLn B h (.slice pb nb cb) nb b.butts) (hnb:nb≤1000) (hsm:TbSm b):FnC m 66 #[tbV b ps ns ks pw nw cw pb nb cb] h fun v h'=>h'=h∧v= .int .i64 (tbS b):=by
 have hml:=rds.elen zA
 refine jad Tryz.func66 rfl rfl (l:=(tbV b ps ns ks pw nw cw pb nb cb)::uu93) rfl ?_
 intro cf cs K hK
 refine Z2 ?_
 refine jaK rfl zq (fun q1=>jar (jae ?_));refine Z7 ?_;refine D61 ?_
 rintro v (⟨hc,rfl⟩|⟨hc,rfl⟩)
 ·refine Z11 ?_;refine D61 ?_
  rintro v (⟨hc,rfl⟩|⟨hc,rfl⟩)
  ·refine Z11 ?_
   refine jag (fun nn l h'=> ∃(i:Nat),nn=ns-i∧(i≤ns)∧(jdf [] b.sts=jdf (b.sts.take i) (b.sts.drop i))∧(∃U:Nat→Value,l=((tbV b ps ns ks pw nw cw pb nb cb)::(.pointer (some ⟨q1,0,none⟩))::(U 2)::(.int .i64 (i:Int))::vw90 U 4 []))∧h++[⟨true,q1,.cells (tbL b ps ns ks pw nw cw pb nb cb).toArray 25 (0,0)⟩]=h') _ ⟨0,rfl,by omega,by simp,exU rfl,rfl⟩ ?_;rintro nn l h' ⟨i,rfl,hi,hnm,⟨U,rfl⟩,rfl⟩ hnext1;refine Z7 ?_
   refine jal rfl zq (fun hc=>?_) (fun hc=>?_)
   ·refine Z7 ?_
    have hdr:b.sts.drop i=b.sts.getD i []::b.sts.drop (i+1):=jkd zO
    have hsi:(b.sts.getD i []).length≤100000:=hsl _ (jak (l:=b.sts) zO)
    have rdt:=rds.pre (m:=i) zO
    rw [Ge,←jjo] at rdt
    obtain ⟨s_b,s_o,hps⟩:=rds.ptr zO
    have rdsg:=rds
    rw [hps] at rdsg
    refine Z4 ?_;refine jcR rfl zq hps zO zO ?_;refine jaR rfl zq (rdsg.sat i zO zO) ?_;refine jah (Post:=fun v=>IsB _ v) rfl zq zK (fun H' hH=>f123_c m H' _ hsi) ?_
    rintro v (⟨hc,rfl⟩|⟨hc,rfl⟩)
    ·refine Z6 ?_;refine jao [Zp 0,Zp 2,Zp 4,Zp 6,Zr 1,Zp 3,Zr 5,Zp 7,Zr 8,Zk 9,Zp 10] zK zK (gE _) ?_;refine Z5 ?_;refine jnp (b:=i) rfl zq rds.okp rfl zO ?_;refine Zs ?_;refine jcR rfl zq hps zO zO ?_;refine jaR rfl zq (rdsg.sat i zO zO) ?_;refine jah (Post:=fun v=> ∃x:Int,v= .int .i64 x∧jeB x∧(0≤x↔b.sts.getD i []∈b.sts.take i)) rfl zq zK (fun H' hH=>f124_c m H' (rdt.keeps (sq hH)) zO _) ?_
     rintro v ⟨fx,rfl,hx64,hxi⟩;refine Zs ?_
     refine jbB rfl zq (fun hc=>?_) (fun hc=>?_)
     ·refine Z7 ?_;refine D78 ?_;refine Zs ?_
      refine ⟨rfl,congrArg (Value.int .i64) ?_⟩
      first
       |exact E43
       |exact E44
       |(refine (jaL (v:=4) ?_ zA).symm;rw [ja9 zO zO,hnm,hdr];exact jcP zD)
       |(refine (jaL (v:=5) ?_ zA).symm;rw [ja9 zO zO,hnm,hdr];exact jcO zD (hxi.1 zO))
       |exact (je3 hh0 zD).symm
       |exact E45
       |(rw [jbG hh0 hw0 hb0,←jbH hw0 hb0 (k:=k) zO,if_pos zO];done)
       |(rw [jbG hh0 hw0 hb0,←jbH hw0 hb0 (k:=k) zO,if_neg zO];done)
     ·refine Z9 ?_
      exact m.weak jaa (hnext1 _ _ _ zO ⟨i+1,rfl,by omega,by rw [hnm,hdr,jnf zD (fun e=>by have:=hxi.2 e;omega),←jiW b.sts i zO],exU rfl,rfl⟩)
    ·refine Z9 ?_;refine D78 ?_;refine Zs ?_
     refine ⟨rfl,congrArg (Value.int .i64) ?_⟩
     first
      |exact E43
      |exact E44
      |(refine (jaL (v:=4) ?_ zA).symm;rw [ja9 zO zO,hnm,hdr];exact jcP zD)
      |(refine (jaL (v:=5) ?_ zA).symm;rw [ja9 zO zO,hnm,hdr];exact jcO zD (hxi.1 zO))
      |exact (je3 hh0 zD).symm
      |exact E45
      |(rw [jbG hh0 hw0 hb0,←jbH hw0 hb0 (k:=k) zO,if_pos zO];done)
      |(rw [jbG hh0 hw0 hb0,←jbH hw0 hb0 (k:=k) zO,if_neg zO];done)
   ·refine Z5 ?_
    have hh0:jd4 b=0:=by
     rw [ja9 zO zO,hnm,gR zO];rfl
    refine Z4 ?_;refine jah (Post:=fun v=>v= .int .i64 (jaA b.sts.length b.waters)) rfl zq zK (fun H' hH=>f125_c m H' (rds.keeps (sq hH)) hcs hns hsl (rdw.keeps (sq hH)) hnw hsm.wat) ?_
    rintro v rfl;refine Z6 ?_
    refine ja5 rfl zq (fun hc=>?_) (fun hc=>?_)
    ·refine Z8 ?_;refine D78 ?_;refine Zs ?_
     refine ⟨rfl,congrArg (Value.int .i64) ?_⟩
     first
      |exact E43
      |exact E44
      |(refine (jaL (v:=4) ?_ zA).symm;rw [ja9 zO zO,hnm,hdr];exact jcP zD)
      |(refine (jaL (v:=5) ?_ zA).symm;rw [ja9 zO zO,hnm,hdr];exact jcO zD (hxi.1 zO))
      |exact (je3 hh0 zD).symm
      |exact E45
      |(rw [jbG hh0 hw0 hb0,←jbH hw0 hb0 (k:=k) zO,if_pos zO];done)
      |(rw [jbG hh0 hw0 hb0,←jbH hw0 hb0 (k:=k) zO,if_neg zO];done)
    ·refine Z9 ?_;refine jah (Post:=fun v=>v= .int .i64 (jaA b.sts.length b.butts)) rfl zq zK (fun H' hH=>f125_c m H' (rds.keeps (sq hH)) hcs hns hsl (rdb.keeps (sq hH)) hnb hsm.but) ?_
     rintro v rfl;refine Z6 ?_
     refine ja5 rfl zq (fun hc=>?_) (fun hc=>?_)
     ·refine Z8 ?_;refine D78 ?_;refine Zs ?_
      refine ⟨rfl,congrArg (Value.int .i64) ?_⟩
      first
       |exact E43
       |exact E44
       |(refine (jaL (v:=4) ?_ zA).symm;rw [ja9 zO zO,hnm,hdr];exact jcP zD)
       |(refine (jaL (v:=5) ?_ zA).symm;rw [ja9 zO zO,hnm,hdr];exact jcO zD (hxi.1 zO))
       |exact (je3 hh0 zD).symm
       |exact E45
       |(rw [jbG hh0 hw0 hb0,←jbH hw0 hb0 (k:=k) zO,if_pos zO];done)
       |(rw [jbG hh0 hw0 hb0,←jbH hw0 hb0 (k:=k) zO,if_neg zO];done)
     ·refine Z8 ?_
      have hw0:jaA b.sts.length b.waters=0:=by omega
      have hb0:jaA b.sts.length b.butts=0:=by omega
      obtain ⟨lw,hlw,rw_,hfw⟩:=rdw
      obtain ⟨lb,hlb,rb_,hfb⟩:=rdb
      have hlwl:=rw_.elen zA
      have hlbl:=rb_.elen zA
      have hbw:b.waters.length=nw:=by rw [←hlw,gY,hlwl]
      have hbb:b.butts.length=nb:=by rw [←hlb,gY,hlbl]
      refine jao [Zp 1,Zp 4,Zr 2,Zr 5,Zk 0,Zk 3,Zk 6,Zp 7] zK zK (gE _) ?_;refine Z4 ?_;refine jqy kdq rfl zq (fun q58=>jar (jae ?_));refine jnv rfl zq (OwnS.zero (q:=q58)) rw_.up (jd6 _) kdq zO zO (fun w61 n61 o61=>jae ?_);refine jnv rfl zq o61 rb_.up (jd6 _) kdq zO zO (fun w64 n64 o64=>jae ?_);replace o64:OwnS 121 2 w64 (nw+nb) (jax (lw++lb)) n64:=by rw [ja3];simpa using o64
      obtain ⟨p64,c64,rfl,hc64,r64⟩:=jas (B:=B) o64
      refine Z4 ?_
      have hall: ∀l∈b.waters++b.butts,jjP l≤3000:=fun l hl=>by
       rcases gO.1 hl with hl|hl
       ·rw [jjO ((jfF hw0).2 l hl).2];exact jjN (hsm.wat l hl).1
       ·rw [jjO ((jfF hb0).2 l hl).2];exact jjN (hsm.but l hl).1
      have hlen:(lw++lb).length=nw+nb:=by rw [gJ,hlwl,hlbl]
      have hln:(lw++lb).map (·.ln)=b.waters++b.butts:=by rw [GI,hlw,hlb]
      refine Z4 ?_
      refine jag (fun nn l h'=> ∃(k:Nat),nn=nw+nb-k∧(k≤nw+nb)∧(∃U:Nat→Value,l=((tbV b ps ns ks pw nw cw pb nb cb)::vw5 U 1 ((.int .i64 (joN (b.waters++b.butts) k:Int))::(.slice p64 (nw+nb) c64)::(.int .i64 (k:Int))::vw85 U 9 [])))∧h++[⟨true,q1,.cells (tbL b ps ns ks pw nw cw pb nb cb).toArray 25 (0,0)⟩]++n64=h') _ ⟨0,rfl,by omega,exU rfl,rfl⟩ ?_;rintro nn l h' ⟨k,rfl,hk,⟨U,rfl⟩,rfl⟩ hnext2;have hck:joN (b.waters++b.butts) k≤k*3000:=GM (jhm jjP 3000 _ fun l hl=>hall l (VP hl)) (GJ _ zN)
      refine Z6 ?_
      refine jal rfl zq (fun hc=>?_) (fun hc=>?_)
      ·refine Z6 ?_
       have hxm0:(lw++lb).getD k default∈lw++lb:=jak zO
       obtain ⟨x,hx⟩: ∃x,x=(lw++lb).getD k default:=⟨_,rfl⟩
       rw [←hx] at hxm0
       have hxl:(b.waters++b.butts).getD k default=x.ln:=by rw [←hln,jaZ _ _ zO,←hx]
       have rdf0:0<x.ln.figs.length→RdS B h 1 (.slice x.p x.ln.figs.length x.c) x.ln.figs.length (jax x.ln.figs):=by
        rcases gO.1 hxm0 with e|e
        ·exact (hfw x e).2
        ·exact (hfb x e).2
       have hxb:x.ln∈b.waters++b.butts:=hxl▸jak zN
       have hxs: ∀f∈x.ln.figs,jf2 f≤3∧f.length≤100000:=fun f hf=>by
        rcases gO.1 hxb with e|e
        ·exact ⟨by rw [jpn (((jfF hw0).2 _ e).2 f hf)];exact jhr f,(hsm.wat _ e).2 f hf⟩
        ·exact ⟨by rw [jpn (((jfF hb0).2 _ e).2 f hf)];exact jhr f,(hsm.but _ e).2 f hf⟩
       have hxf:x.ln.figs.length≤1000:=by
        rcases gO.1 hxb with e|e
        ·exact (hsm.wat _ e).1
        ·exact (hsm.but _ e).1
       obtain ⟨b64,o64_,rfl⟩:=r64.ptr zO
       refine Z4 ?_
       rw [show joN (b.waters++b.butts) k=joN (b.waters++b.butts) k+((x.ln.figs.take 0).map jf2).sum by simp];refine jag (fun nn l h'=> ∃(j:Nat),nn=x.ln.figs.length-j∧(j≤x.ln.figs.length)∧(∃U:Nat→Value,l=((tbV b ps ns ks pw nw cw pb nb cb)::vw5 U 1 ((.int .i64 ((joN (b.waters++b.butts) k+((x.ln.figs.take j).map jf2).sum:Nat):Int))::(.slice (some ⟨b64,o64_,none⟩) (nw+nb) c64)::(.int .i64 (k:Int))::(.int .i64 (j:Int))::vw84 U 10 [])))∧h++[⟨true,q1,.cells (tbL b ps ns ks pw nw cw pb nb cb).toArray 25 (0,0)⟩]++n64=h') _ ⟨0,rfl,by omega,exU rfl,rfl⟩ ?_;rintro nn l h' ⟨j,rfl,hj,⟨U,rfl⟩,rfl⟩ hnext3;have hcj:((x.ln.figs.take j).map jf2).sum≤j*3:=GM (jhm jf2 3 _ fun f hf=>(hxs f (VP hf)).1) (GJ _ zN)
       refine Z6 ?_;refine D11 ?_;refine Zs ?_;refine D70 ?_
       rw [←hx];refine Zs ?_
       refine jal rfl zq (fun hc=>?_) (fun hc=>?_);refine Z5 ?_
       have rdf:=rdf0 zO
       obtain ⟨fb,fo,hfp⟩:=rdf.ptr zO
       have rdg:=rdf
       rw [hfp] at rdg
       have hsk2:=hxs (x.ln.figs.getD j []) (jak (l:=x.ln.figs) zO)
       have hk3:k*3000≤2000*3000:=GJ _ zO
       refine D57 ?_;refine Z3 ?_;refine D11 ?_;refine Zs ?_;refine D70 ?_
       rw [←hx];refine Zs ?_;refine D54 ?_;refine jaR rfl zq (rdg.sat j zO zO) ?_;refine jah (Post:=fun v=>v=_) rfl zq zK (fun H' hH=>f126_c m H' _ hsk2.2) ?_
       rintro v rfl;refine Z4 ?_
       rotate_left
       refine Z3 ?_
       all_goals
        refine Z6 ?_
       ·rw [show (joN (b.waters++b.butts) k+((x.ln.figs.take j).map jf2).sum:Nat)=joN (b.waters++b.butts) (k+1) by rw [jrd zN,hxl,jjP,gf zO]];exact E27
       ·rw [show ((joN (b.waters++b.butts) k+((x.ln.figs.take j).map jf2).sum:Nat):Int)+(jf2 (x.ln.figs.getD j []):Int)=((joN (b.waters++b.butts) k+((x.ln.figs.take (j+1)).map jf2).sum:Nat):Int) by rw [jfq jf2 _ _ zO];show _+((jf2 (x.ln.figs.getD j default):Nat):Int)=_;omega];exact m.weak jaa (hnext3 _ _ _ zO ⟨j+1,rfl,by omega,exU rfl,rfl⟩)
      ·refine Z7 ?_
       refine jaD rfl zq (fun hc=>?_) (fun hc=>?_);refine Z2 ?_
       rotate_left
       refine Z3 ?_
       all_goals
        refine Z5 ?_;refine D78 ?_;refine Zs ?_
        refine ⟨rfl,congrArg (Value.int .i64) ?_⟩
        first
         |exact E43
         |exact E44
         |(refine (jaL (v:=4) ?_ zA).symm;rw [ja9 zO zO,hnm,hdr];exact jcP zD)
         |(refine (jaL (v:=5) ?_ zA).symm;rw [ja9 zO zO,hnm,hdr];exact jcO zD (hxi.1 zO))
         |exact (je3 hh0 zD).symm
         |exact E45
         |(rw [jbG hh0 hw0 hb0,←jbH hw0 hb0 (k:=k) zO,if_pos zO];done)
         |(rw [jbG hh0 hw0 hb0,←jbH hw0 hb0 (k:=k) zO,if_neg zO];done)
  ·refine Z9 ?_;refine D78 ?_;refine Zs ?_
   refine ⟨rfl,congrArg (Value.int .i64) ?_⟩
   first
    |exact E43
    |exact E44
    |(refine (jaL (v:=4) ?_ zA).symm;rw [ja9 zO zO,hnm,hdr];exact jcP zD)
    |(refine (jaL (v:=5) ?_ zA).symm;rw [ja9 zO zO,hnm,hdr];exact jcO zD (hxi.1 zO))
    |exact (je3 hh0 zD).symm
    |exact E45
    |(rw [jbG hh0 hw0 hb0,←jbH hw0 hb0 (k:=k) zO,if_pos zO];done)
    |(rw [jbG hh0 hw0 hb0,←jbH hw0 hb0 (k:=k) zO,if_neg zO];done)
 ·refine Z9 ?_;refine D78 ?_;refine Zs ?_
  refine ⟨rfl,congrArg (Value.int .i64) ?_⟩
  first
   |exact E43
   |exact E44
   |(refine (jaL (v:=4) ?_ zA).symm;rw [ja9 zO zO,hnm,hdr];exact jcP zD)
   |(refine (jaL (v:=5) ?_ zA).symm;rw [ja9 zO zO,hnm,hdr];exact jcO zD (hxi.1 zO))
   |exact (je3 hh0 zD).symm
   |exact E45
   |(rw [jbG hh0 hw0 hb0,←jbH hw0 hb0 (k:=k) zO,if_pos zO];done)
   |(rw [jbG hh0 hw0 hb0,←jbH hw0 hb0 (k:=k) zO,if_neg zO];done)
end
section
variable [LaidO B]
structure RdTb (B:Array Obj) (h:Hp) (b:Tb) (ps:Option Addr) (ns ks:Nat) (pw:Option Addr) (nw cw:Nat) (pb:Option Addr) (nb cb:Nat):Prop where
 s:RdS B h 1 (.slice ps ns ks) ns (jax b.sts)
 sc:ns≤ks
 w:RdLn B h (.slice pw nw cw) nw b.waters
 u:RdLn B h (.slice pb nb cb) nb b.butts
 sm:TbSm b
 n1:1≤ns
 n3:ns≤3
 w2:nw≤2
 b2:nb≤2
 wf: ∀l∈b.waters,l.figs.length=ns∧ ∀f∈l.figs,jbl f=true
 bf: ∀l∈b.butts,l.figs.length=ns∧ ∀f∈l.figs,jbl f=true
section
variable {b:Tb}
theorem RdTb.keeps (r:RdTb B h b ps ns ks pw nw cw pb nb cb) (s:h.Sublist H):RdTb B H b ps ns ks pw nw cw pb nb cb:=
 ⟨r.s.keeps s,r.sc,r.w.keeps s,r.u.keeps s,r.sm,r.n1,r.n3,r.w2,r.b2,r.wf,r.bf⟩
theorem RdTb.sl (r:RdTb B h b ps ns ks pw nw cw pb nb cb):b.sts.length=ns:=r.s.elen zA
theorem RdTb.wl (r:RdTb B h b ps ns ks pw nw cw pb nb cb):b.waters.length=nw:=jbx r.w
theorem RdTb.bl (r:RdTb B h b ps ns ks pw nw cw pb nb cb):b.butts.length=nb:=jbx r.u
end
abbrev cV (bt:Bool) (li st:Int):Value:= .agg [.bool bt,.int .i64 li,.int .i64 st].toArray
theorem f94_c (m:Md Tryz.prog B) (hs:h.Sublist H) {b:Tb} (rd:RdTb B h b ps ns ks pw nw cw pb nb cb) (h0:0≤li) (h1:li<(ja7 b bt).length):FnC m 94 #[tbV b ps ns ks pw nw cw pb nb cb,cV bt li st] H fun v h'=>h'=H∧ ∃x:Lp,v=lpV x∧x.ln=jbg b ⟨bt,li,st⟩∧x.ln.figs.length≤x.c∧(0<x.ln.figs.length→RdS B h 1 (.slice x.p x.ln.figs.length x.c) x.ln.figs.length (jax x.ln.figs)):=by
 refine jad Tryz.func94 rfl rfl (l:=(tbV b ps ns ks pw nw cw pb nb cb)::(cV bt li st)::uu17) rfl ?_
 intro cf cs K hK
 refine Z2 ?_
 refine jaK rfl zq (fun q2=>jar (jae ?_));refine jaK rfl zq (fun q3=>jar (jae ?_));refine jaw rfl zq (fun q4=>jar (jae ?_));refine Z7 ?_
 refine jbJ (fun hc=>?_) (fun hc=>?_);first|replace hc:=of_decide_eq_true hc|replace hc:=of_decide_eq_false hc|skip
 refine Zs ?_
 subst hc
 have hlt:li<b.butts.length:=h1
 obtain ⟨lps,hle,rl,hfig⟩:=rd.u
 have hll:=rl.elen zA
 have hln:b.butts.length=lps.length:=by rw [←hle,gY]
 rotate_left
 first|replace hc:=of_decide_eq_true hc|replace hc:=of_decide_eq_false hc|skip
 refine Z2 ?_
 subst hc
 have hlt:li<b.waters.length:=h1
 obtain ⟨lps,hle,rl,hfig⟩:=rd.w
 have hll:=rl.elen zA
 have hln:b.waters.length=lps.length:=by rw [←hle,gY]
 all_goals
  obtain ⟨z_b,z_o,hzp⟩:=rl.ptr zO
  have rlg:=rl.keeps hs
  rw [hzp] at rlg
  refine Z5 ?_;refine D79 ?_;refine jcs (vs:=[.int .i64 (lps.getD li.toNat default).ln.lat,.slice (lps.getD li.toNat default).p (lps.getD li.toNat default).ln.figs.length (lps.getD li.toNat default).c]) rfl zq rfl (rlg.eat li.toNat zO zO) ?_;refine D6 ?_;refine Z2 ?_;refine jab (H) rfl Tryz.func94 rfl jaa ?_;refine Zs ?_
  refine ⟨rfl,lps.getD li.toNat default,rfl,?_,hfig _ (jak zO)⟩
  rw [jbg,ja7]
 ·show _=List.getD b.waters li.toNat default
  rw [←hle,jaZ _ _ zO]
 ·show _=List.getD b.butts li.toNat default
  rw [←hle,jaZ _ _ zO]
theorem jg7 {b:Tb}:jec b ⟨bt,li,st⟩=true↔(0≤li∧li≤(ja7 b bt).length-1)∧(0≤st∧st≤(b.sts.length:Int)-1):=by
 unfold jec
 simp only [gH,decide_eq_true_iff]
 omega
theorem figs_len {b:Tb} (rd:RdTb B h b ps ns ks pw nw cw pb nb cb) {c:Ce} (h0:jec b c=true):jbg b c∈ja7 b c.butt∧(jbg b c).figs.length=ns:=by
 have hm:jbg b c∈ja7 b c.butt:=by
  unfold jec at h0
  simp only [gH,decide_eq_true_iff] at h0
  exact jak (l:=ja7 b c.butt) zO
 refine ⟨hm,?_⟩
 unfold ja7 at hm
 split at hm
 ·exact (rd.bf _ hm).1
 ·exact (rd.wf _ hm).1
theorem f27_c (m:Md Tryz.prog B) (h:Hp) {b:Tb} (rd:RdTb B h b ps ns ks pw nw cw pb nb cb):FnC m 27 #[tbV b ps ns ks pw nw cw pb nb cb,cV bt li st] h fun v h'=>h'=h∧v= .tuple [str (if jec b ⟨bt,li,st⟩ then jci b ⟨bt,li,st⟩ else []),.bool (jec b ⟨bt,li,st⟩)].toArray:=by
 have hsl:=rd.sl
 have hwl:=rd.wl
 have hbl:=rd.bl
 have rds:=rd.s
 have hn1:=rd.n1
 have hn3:=rd.n3
 have hw2:=rd.w2
 have hb2:=rd.b2
 refine jad Tryz.func27 rfl rfl (l:=(tbV b ps ns ks pw nw cw pb nb cb)::(cV bt li st)::uu37) rfl ?_
 intro cf cs K hK
 refine Z2 ?_
 refine jaK rfl zq (fun q2=>jar (jae ?_));refine jaK rfl zq (fun q3=>jar (jae ?_));refine Z16 ?_
 refine jbJ (fun hc=>?_) (fun hc=>?_);first|replace hc:=of_decide_eq_true hc|replace hc:=of_decide_eq_false hc|skip
 refine Z6 ?_
 rotate_left
 first|replace hc:=of_decide_eq_true hc|replace hc:=of_decide_eq_false hc|skip
 refine Zs ?_
 all_goals
  refine Z2 ?_
  have hbt:=hc
  first
   |(have hnl:(ja7 b bt).length=nb:=by rw [hbt];exact hbl)
   |(have hnl:(ja7 b bt).length=nw:=by rw [hbt];exact hwl)
  refine D41 ?_;refine Z4 ?_;refine D61 ?_
  rintro v (⟨hc,rfl⟩|⟨hc,rfl⟩)
  ·refine Z7 ?_;refine jfJ rfl rfl ?_;refine D96 ?_;refine jah (Post:=fun v=>IsB _ v) rfl rfl zK (fun H' hH=>f57_c m H' _ _ _) ?_
   rintro v (⟨hc,rfl⟩|⟨hc,rfl⟩);refine Z7 ?_
   have hyes:jec b ⟨bt,li,st⟩=true:=jg7.2 ⟨by omega,by omega⟩
   refine jao [Zp 4,Zr 0,Zr 1,Zr 5,Zk 2,Zp 3,Zp 6,Zk 7,Zp 8,Zp 9] zK zK (gE _) ?_;refine Z4 ?_;refine jah (Post:=fun v=> ∃x:Lp,v=lpV x∧x.ln=jbg b ⟨bt,li,st⟩∧x.ln.figs.length≤x.c∧(0<x.ln.figs.length→RdS B h 1 (.slice x.p x.ln.figs.length x.c) x.ln.figs.length (jax x.ln.figs))) rfl zq zK (fun H' hH=>f94_c m (sq hH) rd zO zO) ?_;rintro v ⟨x,rfl,hxl,hxc,rdf0⟩;refine Zs ?_
   have hfl:x.ln.figs.length=ns:=by rw [hxl];exact (figs_len rd hyes).2
   have rdf:=rdf0 (by have:=rd.n1;omega)
   obtain ⟨f_b,f_o,hfp⟩:=rdf.ptr zO
   have rdg:=rdf
   rw [hfp] at rdg
   refine jmi rfl zq ?_;refine D54 ?_;refine jaR (v:=str (x.ln.figs.getD st.toNat [])) rfl zq (rdg.sat st.toNat zO zO) ?_;rotate_left
   refine D127 ?_;refine Z5 ?_
   all_goals
    refine Z4 ?_;refine jab (h) rfl Tryz.func27 rfl jaa ?_;refine Zs ?_
    first
     |(have hno:jec b ⟨bt,li,st⟩=false:=gt.2 fun e=>by
        have:=jg7.1 e
        omega
       rw [hno];exact ⟨rfl,rfl⟩)
     |(rw [hyes];exact ⟨rfl,by rw [hxl];rfl⟩)
  ·refine Z20 ?_;refine jab (h) rfl Tryz.func27 rfl jaa ?_;refine Zs ?_
   first
    |(have hno:jec b ⟨bt,li,st⟩=false:=gt.2 fun e=>by
       have:=jg7.1 e
       omega
      rw [hno];exact ⟨rfl,rfl⟩)
    |(rw [hyes];exact ⟨rfl,by rw [hxl];rfl⟩)
end
section
variable [LaidO B]
def jet (b:Tb) (c:Ce):Bool:=jec b c&&decide (jci b c≠jiN)
def ji5 (b:Tb) (bt:Bool) (j k:Nat):List Ce:=((List.range k).map fun (s:Nat)=>(⟨bt,(j:Int),(s:Int)⟩:Ce)).filter (jet b)
def joY (b:Tb) (bt:Bool) (j:Nat):List Ce:=(List.range j).flatMap fun j'=>ji5 b bt j' b.sts.length
def accI (b:Tb) (i:Nat):List Ce:=(List.range i).flatMap fun i'=>joY b (decide (i'=1)) 2
def jbi (b:Tb) (i j k:Nat):List Ce:=accI b i++joY b (decide (i=1)) j++ji5 b (decide (i=1)) j k
theorem rowK_yes {b:Tb} (h:jet b ⟨bt,(j:Int),(k:Int)⟩=true):ji5 b bt j (k+1)=ji5 b bt j k++[⟨bt,(j:Int),(k:Int)⟩]:=by
 rw [ji5,GO,GI,GU];simp [h,ji5]
theorem rowK_no {b:Tb} (h:jet b ⟨bt,(j:Int),(k:Int)⟩=false):ji5 b bt j (k+1)=ji5 b bt j k:=by
 rw [ji5,GO,GI,GU];simp [h,ji5]
theorem jnR {b:Tb} (h:jet b ⟨decide (i=1),(j:Int),(k:Int)⟩=true):jbi b i j (k+1)=jbi b i j k++[⟨decide (i=1),(j:Int),(k:Int)⟩]:=by
 rw [jbi,rowK_yes h,jbi];simp only [gG]
theorem jmD {b:Tb} (h:jet b ⟨decide (i=1),(j:Int),(k:Int)⟩=false):jbi b i j (k+1)=jbi b i j k:=by
 rw [jbi,rowK_no h,jbi]
theorem jf0 (b:Tb) (i j:Nat):jbi b i j b.sts.length=jbi b i (j+1) 0:=by
 rw [jbi,jbi,joY,joY,GO,vS];simp [ji5]
theorem jiy (b:Tb) (i:Nat):jbi b i 2 0=jbi b (i+1) 0 0:=by
 rw [jbi,jbi,accI,accI,GO,vS];simp [ji5,joY]
theorem jkk (b:Tb):jbi b 2 0 0=jac b:=by
 have e (bt:Bool) (j:Nat):rowT b bt j=ji5 b bt j b.sts.length:=rfl
 have z (bt:Bool) (j:Nat):ji5 b bt j 0=[]:=rfl
 rw [jac,e,e,e,e];simp [jbi,accI,joY,z,GO]
theorem jhA (b:Tb) (bt:Bool) (j k:Nat):(ji5 b bt j k).length≤k:=by
 have:=Gy (jet b) ((List.range k).map fun (s:Nat)=>(⟨bt,(j:Int),(s:Int)⟩:Ce))
 simpa [ji5] using this
theorem jgv (b:Tb) (bt:Bool) (hj:j≤2):(joY b bt j).length≤j*b.sts.length:=by
 rcases (by omega:j=0∨j=1∨j=2) with rfl|rfl|rfl
 ·simp [joY]
 ·have:=jhA b bt 0 b.sts.length
  simp [joY,GO]
  omega
 ·have:=jhA b bt 0 b.sts.length
  have:=jhA b bt 1 b.sts.length
  simp [joY,GO]
  omega
theorem accC_le (b:Tb) (hi:i≤2) (hj:j≤2) (h3:b.sts.length≤3) (hk:k≤3):(jbi b i j k).length≤21:=by
 have h1:=jgv b (decide (i=1)) hj
 have h2:=jhA b (decide (i=1)) j k
 have h4:(accI b i).length≤12:=by
  have a0:=jgv b (decide (0=1)) (gK 2)
  have a1:=jgv b (decide (1=1)) (gK 2)
  rcases (by omega:i=0∨i=1∨i=2) with rfl|rfl|rfl<;>simp [accI,GO] at* <;>omega
 have h5:j*b.sts.length≤2*3:=Vf hj h3
 rw [jbi,gJ,gJ];omega
theorem f26_c (m:Md Tryz.prog B) (h:Hp) {b:Tb} (rd:RdTb B h b ps ns ks pw nw cw pb nb cb):FnC m 26 #[tbV b ps ns ks pw nw cw pb nb cb] h fun v h'=> ∃new,h'=h++new∧OwnS 37 3 v (jac b).length (jax (jac b)) new:=by
 have hsl:=rd.sl
 have rds:=rd.s
 have hn1:=rd.n1
 have hn3:=rd.n3
 refine jad Tryz.func26 rfl rfl (l:=(tbV b ps ns ks pw nw cw pb nb cb)::uu45) rfl ?_
 intro cf cs K hK
 refine Z2 ?_
 refine jaK rfl zq (fun q1=>jar (jae ?_));refine Z12 ?_
 refine jag (fun nn l h'=> ∃(i:Nat) (wpi:Option Addr) (wci:Nat) (Mi:Hp),nn=2-i∧(i≤2)∧(OwnS 37 3 (.slice wpi (jbi b i 0 0).length wci) (jbi b i 0 0).length (jax (jbi b i 0 0)) Mi)∧(∃U:Nat→Value,l=((tbV b ps ns ks pw nw cw pb nb cb)::(.pointer (some ⟨q1,0,none⟩))::(U 2)::(.slice wpi (jbi b i 0 0).length wci)::(.int .i64 (i:Int))::vw41 U 5 []))∧h++[⟨true,q1,.cells (tbL b ps ns ks pw nw cw pb nb cb).toArray 25 (0,0)⟩]++Mi=h') _ ⟨0,none,0,[],rfl,by omega,OwnS.nil,exU rfl,zS⟩ ?_;rintro nn l h' ⟨i,wpi,wci,Mi,rfl,hi,howi,⟨U,rfl⟩,rfl⟩ hnext1;refine Z4 ?_
 refine jal rfl zq (fun hc=>?_) (fun hc=>?_)
 ·refine Z10 ?_
  refine jag (fun nn l h'=> ∃(j:Nat) (wpj:Option Addr) (wcj:Nat) (Mj:Hp),nn=2-j∧(j≤2)∧(OwnS 37 3 (.slice wpj (jbi b i j 0).length wcj) (jbi b i j 0).length (jax (jbi b i j 0)) Mj)∧(∃U:Nat→Value,l=((tbV b ps ns ks pw nw cw pb nb cb)::(.pointer (some ⟨q1,0,none⟩))::(U 2)::(.slice wpj (jbi b i j 0).length wcj)::(.int .i64 (i:Int))::(.int .i64 (j:Int))::vw40 U 6 []))∧h++[⟨true,q1,.cells (tbL b ps ns ks pw nw cw pb nb cb).toArray 25 (0,0)⟩]++Mj=h') _ ⟨0,wpi,wci,Mi,rfl,by omega,howi,exU rfl,rfl⟩ ?_;rintro nn l h' ⟨j,wpj,wcj,Mj,rfl,hj,howj,⟨U,rfl⟩,rfl⟩ hnext2;refine Z4 ?_
  refine jal rfl zq (fun hc=>?_) (fun hc=>?_)
  ·refine Z10 ?_
   refine jag (fun nn l h'=> ∃(k:Nat) (wpk:Option Addr) (wck:Nat) (Mk:Hp),nn=ns-k∧(k≤ns)∧(OwnS 37 3 (.slice wpk (jbi b i j k).length wck) (jbi b i j k).length (jax (jbi b i j k)) Mk)∧(∃U:Nat→Value,l=((tbV b ps ns ks pw nw cw pb nb cb)::(.pointer (some ⟨q1,0,none⟩))::(U 2)::(.slice wpk (jbi b i j k).length wck)::(.int .i64 (i:Int))::(.int .i64 (j:Int))::(.int .i64 (k:Int))::vw39 U 7 []))∧h++[⟨true,q1,.cells (tbL b ps ns ks pw nw cw pb nb cb).toArray 25 (0,0)⟩]++Mk=h') _ ⟨0,wpj,wcj,Mj,rfl,by omega,howj,exU rfl,rfl⟩ ?_;rintro nn l h' ⟨k,wpk,wck,Mk,rfl,hk,howk,⟨U,rfl⟩,rfl⟩ hnext3;have hal:=accC_le b (i:=i) (j:=j) (k:=k) zO zO zO zO
   refine Z7 ?_
   refine jal rfl zq (fun hc=>?_) (fun hc=>?_)
   ·refine Z8 ?_;refine k_eqlV (decide (i=1)) rfl zq (decide_eq_decide.2 zO) ?_;refine Z2 ?_;refine D37 ?_
    refine jaw rfl zq (fun q7=>jar (jae ?_));refine D6 ?_;refine Z5 ?_;refine jah (Post:=fun v=>v= .tuple [str (if jec b ⟨decide (i=1),(j:Int),(k:Int)⟩ then jci b ⟨decide (i=1),(j:Int),(k:Int)⟩ else []),.bool (jec b ⟨decide (i=1),(j:Int),(k:Int)⟩)].toArray) rfl zq zK (fun H' hH=>f27_c m H' (rd.keeps (sq hH))) ?_
    rintro v rfl;refine Z8 ?_
    cases hht:jec b ⟨decide (i=1),(j:Int),(k:Int)⟩
    have hkc:jet b ⟨decide (i=1),(j:Int),(k:Int)⟩=false:=by rw [jet,hht];rfl
    rotate_left
    rw [if_pos rfl];all_goals
     refine Z3 ?_
    ·refine Zs ?_
     by_cases hda:jci b ⟨decide (i=1),(j:Int),(k:Int)⟩=[45]
     refine jgh rfl rfl hda ?_;have hkc:jet b ⟨decide (i=1),(j:Int),(k:Int)⟩=false:=by rw [jet,hht,decide_eq_false (fun e=>e hda)];rfl
     refine Z4 ?_
     rotate_left
     refine jhX rfl rfl hda ?_;have hkc:jet b ⟨decide (i=1),(j:Int),(k:Int)⟩=true:=by rw [jet,hht,decide_eq_true (show jci b ⟨decide (i=1),(j:Int),(k:Int)⟩≠jiN from hda)];rfl
     refine Z6 ?_
     refine jdx kdq rfl zq zA zA rfl (fun q43=>jar (jae ?_));refine ja2 rfl zq rfl howk kdq zO zO (fun w9 n9 o9=>jae ?_);obtain ⟨p9,c9,rfl,hc9,r9⟩:=jas (B:=B) o9
     refine Z2 ?_
     all_goals
      refine Z6 ?_
     ·have hks:=jnR hkc
      have hkl:(jbi b i j (k+1)).length=(jbi b i j k).length+1:=by rw [hks];simp
      rw [←hkl];exact m.weak jaa (hnext3 _ _ _ zO ⟨k+1,p9,c9,n9,rfl,by omega,by rw [hkl,hks,ja3];exact o9,exU rfl,rfl⟩)
     ·have hks:=jmD hkc
      rw [←hks];exact E46
    ·refine Z12 ?_
     have hks:=jmD hkc
     rw [←hks];exact E46
   ·refine Z9 ?_
    have hk2:k=b.sts.length:=by omega
    rw [show jbi b i j k=jbi b i (j+1) 0 by rw [hk2];exact jf0 b i j];exact m.weak jaa (hnext2 _ _ _ zO ⟨j+1,wpk,wck,Mk,rfl,by omega,by rw [←jf0,←hk2];exact howk,exU rfl,rfl⟩)
  ·refine Z9 ?_
   have hj2:j=2:=by omega
   rw [show jbi b i j 0=jbi b (i+1) 0 0 by rw [hj2];exact jiy b i];exact m.weak jaa (hnext1 _ _ _ zO ⟨i+1,wpj,wcj,Mj,rfl,by omega,by rw [←jiy,←hj2];exact howj,exU rfl,rfl⟩)
 ·refine Z9 ?_;refine jab (h++Mi) rfl Tryz.func26 rfl jaa ?_;refine Zs ?_
  obtain rfl:i=2:=by omega
  rw [jkk] at howi⊢
  exact ⟨Mi,rfl,howi⟩
end
section
variable [LaidO B]
instance:KeyCT Tryz.prog 37:=⟨by kernel_rfl⟩
end
section
variable [LaidO B]
theorem jh4 (i:Nat) (hi:i<2):(halvesL.drop ((i:Int).toNat*3)).take 3=[str (hwS i),.bool (decide (i=1)),.func (.func (261+i)) #[] #[]]:=by
 rcases (by omega:i=0∨i=1) with rfl|rfl<;>rfl
theorem jj6 (b:Tb) (hi:i<2):hL b i=ja7 b (decide (i=1)):=by
 rcases (by omega:i=0∨i=1) with rfl|rfl<;>rfl
theorem jqG {b:Tb} (hi:i<2):jec b ⟨decide (i=1),(k:Int),(j:Int)⟩=true↔k<(hL b i).length∧j<b.sts.length:=by
 rw [jdj,jj6 b hi];simp only
 omega
theorem figT_at {b:Tb} (hi:i<2):jci b ⟨decide (i=1),(k:Int),(j:Int)⟩=((hL b i).getD k default).figs.getD j []:=by
 rw [jci,jbg,jj6 b hi];simp only [gZ]
theorem jkQ {b:Tb} (hi:i<2) (hk:(hL b i).length≤k):ji5 b (decide (i=1)) k n=[]:=by
 rw [ji5,VE];intro c hc
 obtain ⟨s,_,rfl⟩:=gQ.1 hc
 rw [jet];cases hh:jec b ⟨decide (i=1),(k:Int),(s:Int)⟩ with
 |false=>simp
 |true=>have:=(jqG hi).1 hh;omega
theorem joT (b:Tb) (hi:i<2) (hk:k≤2) (hl:(hL b i).length≤k):jbi b i k 0=jbi b (i+1) 0 0:=by
 rw [←jiy];have one: ∀k,(hL b i).length≤k→jbi b i k 0=jbi b i (k+1) 0:=fun k hk=>by
  rw [←jf0,jbi,jbi,jkQ hi hk,jkQ hi hk]
 rcases (by omega:k=0∨k=1∨k=2) with rfl|rfl|rfl
 ·rw [one 0 hl,one 1 zO]
 ·rw [one 1 hl]
 ·rfl
theorem jjY {b:Tb} {c:Ce} (h:c∈ji5 b bt j k):c.butt=bt∧c.line=j∧0≤c.st∧c.st<k:=by
 rw [ji5,gS,gQ] at h
 obtain ⟨⟨s,hs,rfl⟩,_⟩:=h
 rw [gP] at hs
 exact ⟨rfl,rfl,by simp only;omega,by simp only;omega⟩
theorem accC_new {b:Tb} (hi:i<2):(⟨decide (i=1),(k:Int),(j:Int)⟩:Ce)∉jbi b i k j:=by
 intro h
 rw [jbi,gO,gO] at h
 rcases h with (h|h)|h
 ·simp only [accI,joY,vV,gP] at h
  obtain ⟨i',hi',j',_,h⟩:=h
  have:=(jjY h).1
  simp only at this
  rw [decide_eq_decide] at this
  omega
 ·simp only [joY,vV,gP] at h
  obtain ⟨j',hj',h⟩:=h
  have:=(jjY h).2.1
  simp only at this
  omega
 ·have:=(jjY h).2.2.2
  simp only at this
  omega
theorem jnS (b:Tb) (hi:i≤2) (hk:k≤2) (h3:b.sts.length≤3):(jbi b i k j).length≤(i*2+k)*3+j:=by
 have h1:=jgv b (decide (i=1)) hk
 have h2:=jhA b (decide (i=1)) k j
 have h4:(accI b i).length≤i*6:=by
  have a0:=jgv b (decide (0=1)) (gK 2)
  have a1:=jgv b (decide (1=1)) (gK 2)
  rcases (by omega:i=0∨i=1∨i=2) with rfl|rfl|rfl<;>simp [accI,GO] at* <;>omega
 have h5:k*b.sts.length≤k*3:=xG k h3
 rw [jbi,gJ,gJ];omega
def shC (tb:List Value) (cv mv:Value) (la:List Int) (cl:List Value):List Value:=tb++[cv,mv]++(jav la++cl)
section
variable {a0 a1 a2 a3 cv mv:Value}
instance:At (shC [a0,a1,a2,a3] cv mv la cl) 4 cv:=⟨rfl⟩
instance:At (shC [a0,a1,a2,a3] cv mv la cl) 5 mv:=⟨rfl⟩
instance {u:Value}:SetSeg (shC [a0,a1,a2,a3] cv mv la cl) 4 [u] (shC [a0,a1,a2,a3] u mv la cl):=⟨by simp [shC],by simp [shC]⟩
theorem jct {l l':List Value} {v:Value} (h:i<l.length) (e:l'=l.set i v):SetSeg l i [v] l':=⟨by
 rw [e,GZ,if_pos h];simp,by simp;omega⟩
theorem shC_lat (h:k<la.length) (z:Int):SetSeg (shC [a0,a1,a2,a3] cv mv la cl) (6+(k:Int).toNat*1) [.int .i64 z] (shC [a0,a1,a2,a3] cv mv (la.set k z) cl):=by
 rw [gZ,Ge];have hk:k<(jav la).length:=by simpa using h
 refine jct (by simp [shC];omega) ?_
 rw [shC,shC,vK _ _ zS,show 6+k-([a0,a1,a2,a3]++[cv,mv]).length=k by simp,vk _ _ hk,jav,jav,Va]
theorem shC_can (hl:la.length=12) (h:k<cl.length) (u:Value):SetSeg (shC [a0,a1,a2,a3] cv mv la cl) (18+(k:Int).toNat*1) [u] (shC [a0,a1,a2,a3] cv mv la (cl.set k u)):=by
 rw [gZ,Ge];refine jct (by simp [shC,hl];omega) ?_
 rw [shC,shC,vK _ _ zN,vK _ _ (by simp [hl];omega),show 18+k-([a0,a1,a2,a3]++[cv,mv]).length-(jav la).length=k by simp [hl];omega]
theorem jpu (h:k<la.length):(shC [a0,a1,a2,a3] cv mv la cl)[6+k]?=some (.int .i64 (la.getD k 0)):=by
 have e:shC [a0,a1,a2,a3] cv mv la cl=[a0,a1,a2,a3,cv,mv]++(jav la++cl):=rfl
 rw [e,gl zS,show 6+k-[a0,a1,a2,a3,cv,mv].length=k by simp,gh (by simpa using h),gk,gC h,gB,gC h];rfl
theorem jpv (h:la.length=12):(shC [a0,a1,a2,a3] cv mv la cl)[18+k]?=cl[k]?:=by
 have e:shC [a0,a1,a2,a3] cv mv la cl=([a0,a1,a2,a3,cv,mv]++jav la)++cl:=by simp [shC]
 rw [e,gl (by simp [h]),show 18+k-([a0,a1,a2,a3,cv,mv]++jav la).length=k by simp [h]]
end
def LatOk (b:Tb) (cs:List Ce) (la:List Int):Prop:=la.length=12∧ ∀x,x<cs.length→la.getD x 0=(jbg b (cs.getD x default)).lat
def CanOk (B:Array Obj) (M:Hp) (b:Tb) (cs:List Ce) (cl:List Value):Prop:=cl.length=12∧ ∀x,x<cs.length→ ∃p c,cl[x]?=some (.slice p (jcr (jci b (cs.getD x default))).length c)∧(jcr (jci b (cs.getD x default))).length≤c∧RdS B M 1 (.slice p (jcr (jci b (cs.getD x default))).length c) (jcr (jci b (cs.getD x default))).length (jav (jcr (jci b (cs.getD x default))))
theorem jfN {α:Type} {d:α} {l:List α} {a:α} (x:Nat):(l++[a]).getD x d=if x<l.length then l.getD x d else if x=l.length then a else d:=by
 rw [gB,Gs];split
 ·rw [gB]
 ·rename_i h
  split
  ·rename_i e
   subst e
   simp
  ·rw [ge zN];rfl
theorem LatOk.snoc {b:Tb} {cs:List Ce} {la:List Int} (h:LatOk b cs la) {c:Ce} {z:Int} (hl:cs.length<12) (hz:z=(jbg b c).lat):LatOk b (cs++[c]) (la.set cs.length z):=by
 refine ⟨by simpa using h.1,fun x hx=>?_⟩
 rw [gJ,vL] at hx
 rw [jfN,gB,vh];by_cases e:x<cs.length
 ·rw [if_pos e,if_neg zO,←gB,h.2 x e]
 ·obtain rfl:x=cs.length:=by omega
  rw [if_neg e,if_pos rfl,if_pos rfl,if_pos (by rw [h.1];exact hl),hz];rfl
theorem CanOk.snoc {B:Array Obj} {M:Hp} {b:Tb} {cs:List Ce} {cl:List Value} (h:CanOk B M b cs cl) {c:Ce} (hl:cs.length<12) {nw:Hp} {u:Value} {f:Str} (hf:f=jci b c) (o:OwnS 3 1 u (jcr f).length (jav (jcr f)) nw):CanOk B (M++nw) b (cs++[c]) (cl.set cs.length u):=by
 subst hf
 refine ⟨by simpa using h.1,fun x hx=>?_⟩
 rw [gJ,vL] at hx
 rw [jfN,vh];by_cases e:x<cs.length
 ·rw [if_pos e,if_neg zO];obtain ⟨p,c',e1,e2,e3⟩:=h.2 x e
  exact ⟨p,c',e1,e2,e3.keeps (gI _ _)⟩
 ·obtain rfl:x=cs.length:=by omega
  rw [if_neg e,if_pos rfl,if_pos rfl,if_pos (by rw [h.1];exact hl)];obtain ⟨p,c',rfl,hc,rd⟩:=jas (B:=B) o
  exact ⟨p,c',rfl,hc,rd.keeps (gX _ _)⟩
theorem LatOk.nil (b:Tb):LatOk b [] (List.replicate 12 0):=⟨rfl,fun x hx=>by simp at hx⟩
theorem CanOk.nil (B:Array Obj) (b:Tb):CanOk B [] b [] (List.replicate 12 (.slice none 0 0)):=⟨rfl,fun x hx=>by simp at hx⟩
structure Sheet (B:Array Obj) (H:Hp) (b:Tb) (q:Nat) (tv:List Value):Prop where
 twelve:(jac b).length≤12
 tb:RdN B H q 0 tv
 cells: ∃p c,Rd B H ⟨q,4,none⟩ (.slice p (jac b).length c)∧(jac b).length≤c∧RdS B H 3 (.slice p (jac b).length c) (jac b).length (jax (jac b))
 map: ∃rw qm,Rd B H ⟨q,5,none⟩ (.map (some qm))∧(⟨rw,qm,jf3 (jac b)⟩:Chunk)∈H
 lat: ∀i,i<(jac b).length→Rd B H ⟨q,6+i,none⟩ (.int .i64 (dA (cdT b) i).lat)
 can: ∀i,i<(jac b).length→ ∃p c,Rd B H ⟨q,18+i,none⟩ (.slice p (dA (cdT b) i).can.length c)∧(dA (cdT b) i).can.length≤c∧RdS B H 1 (.slice p (dA (cdT b) i).can.length c) (dA (cdT b) i).can.length (jav (dA (cdT b) i).can)
theorem Sheet.keeps {H':Hp} {b:Tb} (s:Sheet B H b q tv) (k:H.Sublist H'):Sheet B H' b q tv:=by
 obtain ⟨h0,h1,⟨p,c,h2,h3,h4⟩,⟨rw,qm,h5,h6⟩,h7,h8⟩:=s
 refine ⟨h0,fun j hj=>(h1 j hj).keeps k,⟨p,c,h2.keeps k,h3,h4.keeps k⟩,⟨rw,qm,h5.keeps k,k.subset h6⟩,fun i hi=>(h7 i hi).keeps k,fun i hi=>?_⟩
 obtain ⟨p,c,a1,a2,a3⟩:=h8 i hi
 exact ⟨p,c,a1.keeps k,a2,a3.keeps k⟩
theorem sheet_of {W M:Hp} {b:Tb} {qm:Nat} {a0 a1 a2 a3:Value} {wc:Nat} (hn:(jac b).length≤12)
  (o:OwnS 37 3 (.slice wp (jac b).length wc) (jac b).length (jax (jac b)) W) (hla:LatOk b (jac b) la) (hcl:CanOk B M b (jac b) cl):
  Sheet B ([⟨true,qm,jf3 (jac b)⟩,⟨true,q,.cells (shC [a0,a1,a2,a3] (.slice wp (jac b).length wc) (.map (some qm)) la cl).toArray 132 (0,0)⟩]++W++M) b q [a0,a1,a2,a3]:=by
 have hin:(⟨true,q,.cells (shC [a0,a1,a2,a3] (.slice wp (jac b).length wc) (.map (some qm)) la cl).toArray 132 (0,0)⟩:Chunk)∈[⟨true,qm,jf3 (jac b)⟩,⟨true,q,.cells (shC [a0,a1,a2,a3] (.slice wp (jac b).length wc) (.map (some qm)) la cl).toArray 132 (0,0)⟩]++W++M:=by simp
 have rd: ∀o v,(shC [a0,a1,a2,a3] (.slice wp (jac b).length wc) (.map (some qm)) la cl)[o]?=some v→Rd B ([⟨true,qm,jf3 (jac b)⟩,⟨true,q,.cells (shC [a0,a1,a2,a3] (.slice wp (jac b).length wc) (.map (some qm)) la cl).toArray 132 (0,0)⟩]++W++M) ⟨q,o,none⟩ v:=fun o v e=>Rd.held hin (by simpa using e)
 obtain ⟨p',c',e,hc,r⟩:=jas (B:=B) o
 cases e
 refine ⟨hn,fun j hj=>?_,⟨wp,wc,rd _ _ rfl,hc,r.keeps (Ga (gX _ _) (gI _ _))⟩,⟨true,qm,rd _ _ rfl,by simp⟩,fun i hi=>?_,fun i hi=>?_⟩
 ·rw [gz];refine rd _ _ ?_
  simp only [gU,vO] at hj
  rcases (by omega:j=0∨j=1∨j=2∨j=3) with rfl|rfl|rfl|rfl<;>rfl
 ·rw [jaq b hi];refine rd _ _ ?_
  rw [jpu (by rw [hla.1];omega),hla.2 i hi];rfl
 ·rw [jaq b hi];obtain ⟨p,c,e1,e2,e3⟩:=hcl.2 i hi
  exact ⟨p,c,rd _ _ (by rw [jpv hla.1];exact e1),e2,e3.keeps (gX _ _)⟩
theorem jeh {h' F1 F2 F3 X Y Z:Hp} [a:Off h' Z F1] [b:Off F1 Y F2] [c:Off F2 X F3] [s:SubH H F3]:Weak B h' (H++X++(Y++Z)):=by
 rw [←gG];exact (Weak.perm a.perm).trans (((Weak.perm b.perm).trans (((Weak.perm c.perm).trans ((Weak.sub s.sub).apps X)).apps Y)).apps Z)
theorem f95_c (m:Md Tryz.prog B) (h:Hp) {b:Tb} (rd:RdTb B h b ps ns ks pw nw cw pb nb cb):FnC m 95 #[tbV b ps ns ks pw nw cw pb nb cb] h fun v h'=> ∃new q,h'=h++new∧v= .pointer (some ⟨q,0,none⟩)∧Sheet B new b q (tbL b ps ns ks pw nw cw pb nb cb):=by
 have hsl:=rd.sl
 have hn1:=rd.n1
 have hn3:=rd.n3
 have hw2:=rd.w2
 have hb2:=rd.b2
 refine jad Tryz.func95 rfl rfl (l:=(tbV b ps ns ks pw nw cw pb nb cb)::uu94) rfl ?_
 intro cf cs K hK
 refine Z2 ?_
 refine jaK rfl zq (fun q1=>jar (jae ?_));refine Z5 ?_;refine D37 ?_
 refine k_mkmapC rfl zq (fun qm=>jar (jae ?_));refine D37 ?_
 refine jaK rfl zq (fun q18=>jar (jae ?_));refine Z5 ?_;refine jcs (vs:=halvesL) rfl zq rfl jfe ?_;refine Z3 ?_
 refine jag (fun nn l h'=> ∃(i:Nat) (wp1:Option Addr) (wc1:Nat) (W1 M1:Hp) (la1:List Int) (cl1:List Value),nn=2-i∧(i≤2)∧(OwnS 37 3 (.slice wp1 (jbi b i 0 0).length wc1) (jbi b i 0 0).length (jax (jbi b i 0 0)) W1)∧(LatOk b (jbi b i 0 0) la1)∧(CanOk B M1 b (jbi b i 0 0) cl1)∧(∃U:Nat→Value,l=((tbV b ps ns ks pw nw cw pb nb cb)::(.pointer (some ⟨q1,0,none⟩))::(U 2)::(.pointer (some ⟨q18,0,none⟩))::vw15 U 4 ((.agg halvesL.toArray)::(.int .i64 (i:Int))::vw74 U 21 [])))∧h++[⟨true,q1,.cells (tbL b ps ns ks pw nw cw pb nb cb).toArray 25 (0,0)⟩,⟨true,qm,jf3 (jbi b i 0 0)⟩,⟨true,q18,.cells (shC (tbL b ps ns ks pw nw cw pb nb cb) (.slice wp1 (jbi b i 0 0).length wc1) (.map (some qm)) la1 cl1).toArray 132 (0,0)⟩]++W1++M1=h') _ ⟨0,none,0,[],[],List.replicate 12 0,List.replicate 12 (.slice none 0 0),rfl,by omega,OwnS.nil,LatOk.nil b,CanOk.nil B b,exU rfl,(by rw [gb,gb];rfl)⟩ ?_;rintro nn l h' ⟨i,wp1,wc1,W1,M1,la1,cl1,rfl,hi,how1,hla1,hcl1,⟨U,rfl⟩,rfl⟩ hnext1;refine Z2 ?_
 refine jal rfl zq (fun hc=>?_) (fun hc=>?_)
 ·refine Z8 ?_;refine jns rfl zq zO zO (jh4 i zO) ?_
  refine jaw rfl zq (fun q5=>jar (jae ?_));refine D6 ?_;refine Z2 ?_
  have hin:i<2:=by omega
  obtain ⟨pl,nl,cl0,hsl1,hln,hnl⟩:=jqI (B:=B) (b:=b) (ps:=ps) (ns:=ns) (ks:=ks) rd.w (show nw≤1000 by omega) rd.u (show nb≤1000 by omega) i hin
  have hsmi: ∀l∈hL b i,l.figs.length=ns∧ ∀f∈l.figs,f.length≤100000∧jbl f=true:=by
   unfold hL
   split
   ·exact fun l hl=>⟨(rd.wf l hl).1,fun f hf=>⟨(rd.sm.wat l hl).2 f hf,(rd.wf l hl).2 f hf⟩⟩
   ·exact fun l hl=>⟨(rd.bf l hl).1,fun f hf=>⟨(rd.sm.but l hl).2 f hf,(rd.bf l hl).2 f hf⟩⟩
  have hnl2:nl≤2:=by
   have h1:=jbx hln
   unfold hL at h1
   have h2:=rd.wl
   have h3:=rd.bl
   split at h1<;>omega
  refine Z3 ?_;refine D90 ?_
  rintro v rfl;refine Z2 ?_;refine jaR (v:= .slice pl nl cl0) rfl zq (rd_nth hsl1) ?_;refine Z4 ?_
  obtain ⟨lps,hle,rl,hfig⟩:=hln
  have hll:=rl.elen zA
  have hln2:(hL b i).length=nl:=by rw [←hle,gY,hll]
  refine m.weak (h':=h++[⟨true,q1,.cells (tbL b ps ns ks pw nw cw pb nb cb).toArray 25 (0,0)⟩,⟨true,qm,jf3 (jbi b i 0 0)⟩,⟨true,q18,.cells (shC (tbL b ps ns ks pw nw cw pb nb cb) (.slice wp1 (jbi b i 0 0).length wc1) (.map (some qm)) la1 cl1).toArray 132 (0,0)⟩]++[⟨true,q5,.cells [str (hwS i),.bool (decide (i=1)),.func (.func (261+i)) #[] #[]].toArray 184 (0,0)⟩]++W1++M1) jeD ?_
  refine jag (fun nn l h'=> ∃(k:Nat) (wp2:Option Addr) (wc2:Nat) (W2 M2:Hp) (la2:List Int) (cl2:List Value),nn=nl-k∧(k≤nl)∧(OwnS 37 3 (.slice wp2 (jbi b i k 0).length wc2) (jbi b i k 0).length (jax (jbi b i k 0)) W2)∧(LatOk b (jbi b i k 0) la2)∧(CanOk B M2 b (jbi b i k 0) cl2)∧(∃U:Nat→Value,l=((tbV b ps ns ks pw nw cw pb nb cb)::(.pointer (some ⟨q1,0,none⟩))::(U 2)::(.pointer (some ⟨q18,0,none⟩))::(U 4)::(.pointer (some ⟨q5,0,none⟩))::vw13 U 6 ((.agg halvesL.toArray)::(.int .i64 (i:Int))::vw6 U 21 ((.slice pl nl cl0)::(.int .i64 (nl:Int))::(.int .i64 (k:Int))::vw65 U 30 []))))∧h++[⟨true,q1,.cells (tbL b ps ns ks pw nw cw pb nb cb).toArray 25 (0,0)⟩,⟨true,qm,jf3 (jbi b i k 0)⟩,⟨true,q18,.cells (shC (tbL b ps ns ks pw nw cw pb nb cb) (.slice wp2 (jbi b i k 0).length wc2) (.map (some qm)) la2 cl2).toArray 132 (0,0)⟩]++[⟨true,q5,.cells [str (hwS i),.bool (decide (i=1)),.func (.func (261+i)) #[] #[]].toArray 184 (0,0)⟩]++W2++M2=h') _ ⟨0,wp1,wc1,W1,M1,la1,cl1,rfl,by omega,how1,hla1,hcl1,exU rfl,rfl⟩ ?_;rintro nn l h' ⟨k,wp2,wc2,W2,M2,la2,cl2,rfl,hk,how2,hla2,hcl2,⟨U,rfl⟩,rfl⟩ hnext2;refine Z2 ?_
  refine jal rfl zq (fun hc=>?_) (fun hc=>?_)
  ·refine Z7 ?_
   obtain ⟨rl_b,rl_o,rfl⟩:=rl.ptr zO
   refine Z2 ?_;refine D11 ?_;refine D58 ?_
   obtain ⟨x,hx⟩: ∃x,x=lps.getD k default:=⟨_,rfl⟩
   rw [←hx];refine jaw rfl zq (fun q7=>jar (jae ?_));refine Zs ?_;refine D6 ?_;refine Zs ?_;refine jpy ?_;refine Zs ?_;refine jpA ?_;refine Zs ?_
   have hxm:x∈lps:=hx▸jak zO
   obtain ⟨hxc,rdf0⟩:=hfig x hxm
   have hxl:(hL b i).getD k default=x.ln:=by rw [←hle,jaZ _ _ zO,←hx]
   obtain ⟨hfl,hfs⟩:=hsmi x.ln (hxl▸jak zO)
   refine Z7 ?_;refine m.weak (h':=h++[⟨true,q1,.cells (tbL b ps ns ks pw nw cw pb nb cb).toArray 25 (0,0)⟩,⟨true,qm,jf3 (jbi b i k 0)⟩,⟨true,q18,.cells (shC (tbL b ps ns ks pw nw cw pb nb cb) (.slice wp2 (jbi b i k 0).length wc2) (.map (some qm)) la2 cl2).toArray 132 (0,0)⟩]++[⟨true,q5,.cells [str (hwS i),.bool (decide (i=1)),.func (.func (261+i)) #[] #[]].toArray 184 (0,0)⟩]++[⟨true,q7,.cells [.int .i64 x.ln.lat,.slice x.p x.ln.figs.length x.c].toArray 121 (0,0)⟩]++W2++M2) jeD ?_
   refine jag (fun nn l h'=> ∃(j:Nat) (wp3:Option Addr) (wc3:Nat) (W3 M3:Hp) (la3:List Int) (cl3:List Value),nn=x.ln.figs.length-j∧(j≤x.ln.figs.length)∧(OwnS 37 3 (.slice wp3 (jbi b i k j).length wc3) (jbi b i k j).length (jax (jbi b i k j)) W3)∧(LatOk b (jbi b i k j) la3)∧(CanOk B M3 b (jbi b i k j) cl3)∧(∃U:Nat→Value,l=((tbV b ps ns ks pw nw cw pb nb cb)::(.pointer (some ⟨q1,0,none⟩))::(U 2)::(.pointer (some ⟨q18,0,none⟩))::(U 4)::(.pointer (some ⟨q5,0,none⟩))::(.int .i64 (k:Int))::(.pointer (some ⟨q7,0,none⟩))::vw11 U 8 ((.agg halvesL.toArray)::(.int .i64 (i:Int))::vw6 U 21 ((.slice (some ⟨rl_b,rl_o,none⟩) nl cl0)::(.int .i64 (nl:Int))::(.int .i64 (k:Int))::vw5 U 30 ((.slice x.p x.ln.figs.length x.c)::(.int .i64 (x.ln.figs.length:Int))::(.int .i64 (j:Int))::vw57 U 38 [])))))∧h++[⟨true,q1,.cells (tbL b ps ns ks pw nw cw pb nb cb).toArray 25 (0,0)⟩,⟨true,qm,jf3 (jbi b i k j)⟩,⟨true,q18,.cells (shC (tbL b ps ns ks pw nw cw pb nb cb) (.slice wp3 (jbi b i k j).length wc3) (.map (some qm)) la3 cl3).toArray 132 (0,0)⟩]++[⟨true,q5,.cells [str (hwS i),.bool (decide (i=1)),.func (.func (261+i)) #[] #[]].toArray 184 (0,0)⟩]++[⟨true,q7,.cells [.int .i64 x.ln.lat,.slice x.p x.ln.figs.length x.c].toArray 121 (0,0)⟩]++W3++M3=h') _ ⟨0,wp2,wc2,W2,M2,la2,cl2,rfl,by omega,how2,hla2,hcl2,exU rfl,rfl⟩ ?_;rintro nn l h' ⟨j,wp3,wc3,W3,M3,la3,cl3,rfl,hj,how3,hla3,hcl3,⟨U,rfl⟩,rfl⟩ hnext3;refine Z2 ?_
   refine jal rfl zq (fun hc=>?_) (fun hc=>?_)
   ·refine Z7 ?_
    have rdf:=rdf0 zO
    obtain ⟨fb,fo,hfp⟩:=rdf.ptr zO
    have rdg:=rdf
    rw [hfp] at rdg
    obtain ⟨hsk2,hsk3⟩:=hfs _ (jak (l:=x.ln.figs) (show j<x.ln.figs.length by omega))
    replace hsk2:(x.ln.figs.getD j []).length≤100000:=hsk2
    replace hsk3:jbl (x.ln.figs.getD j [])=true:=hsk3
    have hht:jec b (⟨decide (i=1),(k:Int),(j:Int)⟩:Ce)=true:=(jqG hin).2 ⟨by omega,by omega⟩
    have hft:jci b (⟨decide (i=1),(k:Int),(j:Int)⟩:Ce)=x.ln.figs.getD j []:=by rw [figT_at hin,hxl]
    have hn12:(jbi b i k j).length<12:=by
     have:=jnS b (i:=i) (k:=k) (j:=j) zO zO zO
     omega
    refine Z2 ?_;refine D54 ?_;refine jaR rfl zq (rdg.sat j zO zO) ?_;refine Z7 ?_
    by_cases hda:x.ln.figs.getD j []=[45]
    ·refine jhY rfl zq hda ?_;have hkc:jet b (⟨decide (i=1),(k:Int),(j:Int)⟩:Ce)=false:=by rw [jet,hht,hft,decide_eq_false (fun e=>e hda)];rfl
     refine Z7 ?_
     have hks:=jmD hkc
     rw [←hks];refine m.weak (h':=h++[⟨true,q1,.cells (tbL b ps ns ks pw nw cw pb nb cb).toArray 25 (0,0)⟩,⟨true,qm,jf3 (jbi b i k (j+1))⟩,⟨true,q18,.cells (shC (tbL b ps ns ks pw nw cw pb nb cb) (.slice wp3 (jbi b i k (j+1)).length wc3) (.map (some qm)) la3 cl3).toArray 132 (0,0)⟩]++[⟨true,q5,.cells [str (hwS i),.bool (decide (i=1)),.func (.func (261+i)) #[] #[]].toArray 184 (0,0)⟩]++[⟨true,q7,.cells [.int .i64 x.ln.lat,.slice x.p x.ln.figs.length x.c].toArray 121 (0,0)⟩]++W3++M3) jeD ?_
     exact hnext3 _ _ _ zO ⟨j+1,wp3,wc3,W3,M3,la3,cl3,rfl,by omega,by rw [hks];exact how3,by rw [hks];exact hla3,by rw [hks];exact hcl3,exU rfl,rfl⟩
    ·refine jhZ rfl zq hda ?_;have hkc:jet b (⟨decide (i=1),(k:Int),(j:Int)⟩:Ce)=true:=by rw [jet,hht,hft,decide_eq_true (show x.ln.figs.getD j []≠jiN from hda)];rfl
     have hfo:ja1 (x.ln.figs.getD j [])=true:=by
      rw [jbl,GK] at hsk3
      exact hsk3.resolve_right fun e=>hda (of_decide_eq_true e)
     have hms:jcr (x.ln.figs.getD j [])=jhR (jap (x.ln.figs.getD j [])):=by rw [jcr,if_pos hfo]
     have hnew:=accC_new (b:=b) (i:=i) (k:=k) (j:=j) hin
     have hlat:x.ln.lat=(jbg b (⟨decide (i=1),(k:Int),(j:Int)⟩:Ce)).lat:=by rw [jbg,←jj6 b hin];simp only [gZ];rw [hxl]
     refine Z4 ?_;refine jao [Zp 0,Zp 1,Zp 2,Zp 5,Zp 7,Zp 8,Zr 3,Zp 4,Zr 6,Zp 9,Za 10,Zp 11,Zf 12] zK zK (gE _) ?_;refine Z9 ?_;refine D37 ?_
     refine jaw rfl zq (fun q11=>jar (jae ?_));refine Zs ?_;refine D6 ?_;refine Z4 ?_;refine jah (Post:=fun v=>v=_) rfl zq zK (fun H' hH=>f119_c m H' _ hsk2) ?_
     rintro v rfl;refine Z4 ?_
     refine jaw rfl zq (fun q12=>jar (jae ?_));refine D55 ?_;refine Z2 ?_;refine jcF (S:=h++[⟨true,q1,.cells (tbL b ps ns ks pw nw cw pb nb cb).toArray 25 (0,0)⟩]++[⟨true,q5,.cells [str (hwS i),.bool (decide (i=1)),.func (.func (261+i)) #[] #[]].toArray 184 (0,0)⟩]++[⟨true,q7,.cells [.int .i64 x.ln.lat,.slice x.p x.ln.figs.length x.c].toArray 121 (0,0)⟩]++[⟨true,q11,.cells [.bool (decide (i=1)),.int .i64 (k:Int),.int .i64 (j:Int)].toArray 37 (0,0)⟩,⟨true,q12,.cells (jav (jap (x.ln.figs.getD j []))).toArray 145 (0,0)⟩]) [0,1,2,3,4,5,6,7,8,9,10,11,12,13,14,15,16,17,18,19,20,21,22,23,24,25,26,27,28,29,30,31,32,33,34,35] zK zK SubH.sub ?_
     refine DrawT.split 4 13 zA (DrawT.split 4 15 zA (DrawT.split 13 15 zA ?_ ?_) ?_) (DrawT.split 4 15 zA ?_ (DrawT.split 4 16 zA (DrawT.split 13 15 zA ?_ ?_) (DrawT.split 4 21 zA (DrawT.split 13 15 zA ?_ ?_) (DrawT.split 13 15 zA ?_ ?_))))
     refine DrawT.leaf [Zp 0,Zp 1,Zp 2,Zp 3,Zp 6,Zp 7,Zp 8,Zp 9,Zp 10,Zp 11,Zp 12,Zp 17,Zp 18,Zp 28,Zp 29,Zp 32,Zp 33,Zr 5,Zr 14,Zr 19,Zr 20,Zk 4,Zk 13,Zk 15,Zk 16,Zk 21,Zp 22,Zp 23,Zk 24,Zk 25,Zp 26,Zk 27,Zp 30,Zk 31,Zp 34,Zk 35] zK ?_;refine Z20 ?_;refine D40 ?_;refine Z2 ?_
     refine jdx kdq rfl zq zA zA rfl (fun q74=>jar (jae ?_));refine ja2 rfl zq rfl how3 zF zO zO (fun w9 n9 o9=>jae ?_);obtain ⟨p9,c9,rfl,hc9,r9⟩:=jas (B:=B) o9
     refine D3 ?_
     rintro w80 n80 o80;refine jaQ (jae ?_);rw [←hms] at o80
     obtain ⟨p80,c80,rfl,_⟩:=jas (B:=B) o80
     have hfig80:=hft.symm
     rotate_left
     refine DrawT.leaf [Zp 0,Zp 1,Zp 2,Zp 3,Zp 6,Zp 7,Zp 8,Zp 9,Zp 10,Zp 11,Zp 12,Zp 17,Zp 18,Zp 28,Zp 29,Zp 32,Zp 33,Zr 5,Zr 14,Zr 19,Zr 20,Zk 4,Zk 15,Zk 13,Zk 16,Zk 21,Zp 22,Zp 23,Zk 24,Zk 25,Zp 26,Zk 27,Zp 30,Zk 31,Zp 34,Zk 35] zK ?_;refine Z20 ?_;refine D40 ?_;refine Zs ?_
     refine jdx kdq rfl zq zA zA rfl (fun q74=>jar (jae ?_));refine Zs ?_
     refine ja2 rfl zq rfl how3 zF zO zO (fun w9 n9 o9=>jae ?_);obtain ⟨p9,c9,rfl,hc9,r9⟩:=jas (B:=B) o9
     refine D3 ?_
     rintro w80 n80 o80;refine jaQ (jae ?_);rw [←hms] at o80
     obtain ⟨p80,c80,rfl,_⟩:=jas (B:=B) o80
     have hfig80:=hft.symm
     rotate_left
     refine DrawT.leaf [Zp 0,Zp 1,Zp 2,Zp 3,Zp 6,Zp 7,Zp 8,Zp 9,Zp 10,Zp 11,Zp 12,Zp 17,Zp 18,Zp 28,Zp 29,Zp 32,Zp 33,Zr 5,Zr 14,Zr 19,Zr 20,Zk 15,Zk 4,Zk 13,Zk 16,Zk 21,Zp 22,Zp 23,Zk 24,Zk 25,Zp 26,Zk 27,Zp 30,Zk 31,Zp 34,Zk 35] zK ?_;refine Z20 ?_;refine D40 ?_
     refine jdx kdq rfl zq zA zA rfl (fun q74=>jar (jae ?_));refine Z2 ?_
     refine ja2 rfl zq rfl how3 zF zO zO (fun w9 n9 o9=>jae ?_);obtain ⟨p9,c9,rfl,hc9,r9⟩:=jas (B:=B) o9
     refine D3 ?_
     rintro w80 n80 o80;refine jaQ (jae ?_);rw [←hms] at o80
     obtain ⟨p80,c80,rfl,_⟩:=jas (B:=B) o80
     have hfig80:=hft.symm
     rotate_left
     refine DrawT.leaf [Zp 0,Zp 1,Zp 2,Zp 3,Zp 6,Zp 7,Zp 8,Zp 9,Zp 10,Zp 11,Zp 12,Zp 17,Zp 18,Zp 28,Zp 29,Zp 32,Zp 33,Zr 5,Zr 14,Zr 19,Zr 20,Zk 13,Zk 4,Zk 15,Zk 16,Zk 21,Zp 22,Zp 23,Zk 24,Zk 25,Zp 26,Zk 27,Zp 30,Zk 31,Zp 34,Zk 35] zK ?_;refine Z20 ?_;refine D40 ?_;refine Z2 ?_
     refine jdx kdq rfl zq zA zA rfl (fun q74=>jar (jae ?_));refine ja2 rfl zq rfl how3 zF zO zO (fun w9 n9 o9=>jae ?_);obtain ⟨p9,c9,rfl,hc9,r9⟩:=jas (B:=B) o9
     refine D3 ?_
     rintro w80 n80 o80;refine jaQ (jae ?_);rw [←hms] at o80
     obtain ⟨p80,c80,rfl,_⟩:=jas (B:=B) o80
     have hfig80:=hft.symm
     rotate_left
     refine DrawT.leaf [Zp 0,Zp 1,Zp 2,Zp 3,Zp 6,Zp 7,Zp 8,Zp 9,Zp 10,Zp 11,Zp 12,Zp 17,Zp 18,Zp 28,Zp 29,Zp 32,Zp 33,Zr 5,Zr 14,Zr 19,Zr 20,Zk 13,Zk 15,Zk 4,Zk 16,Zk 21,Zp 22,Zp 23,Zk 24,Zk 25,Zp 26,Zk 27,Zp 30,Zk 31,Zp 34,Zk 35] zK ?_;refine Z20 ?_;refine D40 ?_;refine Zs ?_
     refine jdx kdq rfl zq zA zA rfl (fun q74=>jar (jae ?_));refine Zs ?_
     refine ja2 rfl zq rfl how3 zF zO zO (fun w9 n9 o9=>jae ?_);obtain ⟨p9,c9,rfl,hc9,r9⟩:=jas (B:=B) o9
     refine D3 ?_
     rintro w80 n80 o80;refine jaQ (jae ?_);rw [←hms] at o80
     obtain ⟨p80,c80,rfl,_⟩:=jas (B:=B) o80
     have hfig80:=hft.symm
     rotate_left
     refine DrawT.leaf [Zp 0,Zp 1,Zp 2,Zp 3,Zp 6,Zp 7,Zp 8,Zp 9,Zp 10,Zp 11,Zp 12,Zp 17,Zp 18,Zp 28,Zp 29,Zp 32,Zp 33,Zr 5,Zr 14,Zr 19,Zr 20,Zk 15,Zk 13,Zk 4,Zk 16,Zk 21,Zp 22,Zp 23,Zk 24,Zk 25,Zp 26,Zk 27,Zp 30,Zk 31,Zp 34,Zk 35] zK ?_;refine Z20 ?_;refine D40 ?_
     refine jdx kdq rfl zq zA zA rfl (fun q74=>jar (jae ?_));refine Z2 ?_
     refine ja2 rfl zq rfl how3 zF zO zO (fun w9 n9 o9=>jae ?_);obtain ⟨p9,c9,rfl,hc9,r9⟩:=jas (B:=B) o9
     refine D3 ?_
     rintro w80 n80 o80;refine jaQ (jae ?_);rw [←hms] at o80
     obtain ⟨p80,c80,rfl,_⟩:=jas (B:=B) o80
     have hfig80:=hft.symm
     rotate_left
     refine DrawT.leaf [Zp 0,Zp 1,Zp 2,Zp 3,Zp 6,Zp 7,Zp 8,Zp 9,Zp 10,Zp 11,Zp 12,Zp 17,Zp 18,Zp 28,Zp 29,Zp 32,Zp 33,Zr 5,Zr 14,Zr 19,Zr 20,Zk 13,Zk 15,Zk 16,Zk 4,Zk 21,Zp 22,Zp 23,Zk 24,Zk 25,Zp 26,Zk 27,Zp 30,Zk 31,Zp 34,Zk 35] zK ?_;refine Z20 ?_;refine D40 ?_;refine Zs ?_
     refine jdx kdq rfl zq zA zA rfl (fun q74=>jar (jae ?_));refine ja2 rfl zq rfl how3 zF zO zO (fun w9 n9 o9=>jae ?_);obtain ⟨p9,c9,rfl,hc9,r9⟩:=jas (B:=B) o9
     refine Zs ?_;refine D3 ?_
     rintro w80 n80 o80;refine jaQ (jae ?_);rw [←hms] at o80
     obtain ⟨p80,c80,rfl,_⟩:=jas (B:=B) o80
     have hfig80:=hft.symm
     rotate_left
     refine DrawT.leaf [Zp 0,Zp 1,Zp 2,Zp 3,Zp 6,Zp 7,Zp 8,Zp 9,Zp 10,Zp 11,Zp 12,Zp 17,Zp 18,Zp 28,Zp 29,Zp 32,Zp 33,Zr 5,Zr 14,Zr 19,Zr 20,Zk 15,Zk 13,Zk 16,Zk 4,Zk 21,Zp 22,Zp 23,Zk 24,Zk 25,Zp 26,Zk 27,Zp 30,Zk 31,Zp 34,Zk 35] zK ?_;refine Z20 ?_;refine D40 ?_
     refine jdx kdq rfl zq zA zA rfl (fun q74=>jar (jae ?_));refine Zs ?_
     refine ja2 rfl zq rfl how3 zF zO zO (fun w9 n9 o9=>jae ?_);obtain ⟨p9,c9,rfl,hc9,r9⟩:=jas (B:=B) o9
     refine Zs ?_;refine D3 ?_
     rintro w80 n80 o80;refine jaQ (jae ?_);rw [←hms] at o80
     obtain ⟨p80,c80,rfl,_⟩:=jas (B:=B) o80
     have hfig80:=hft.symm
     rotate_left
     refine DrawT.leaf [Zp 0,Zp 1,Zp 2,Zp 3,Zp 6,Zp 7,Zp 8,Zp 9,Zp 10,Zp 11,Zp 12,Zp 17,Zp 18,Zp 28,Zp 29,Zp 32,Zp 33,Zr 5,Zr 14,Zr 19,Zr 20,Zk 13,Zk 15,Zk 16,Zk 21,Zk 4,Zp 22,Zp 23,Zk 24,Zk 25,Zp 26,Zk 27,Zp 30,Zk 31,Zp 34,Zk 35] zK ?_;refine Z20 ?_;refine D40 ?_;refine Zs ?_
     refine jdx kdq rfl zq zA zA rfl (fun q74=>jar (jae ?_));refine ja2 rfl zq rfl how3 zF zO zO (fun w9 n9 o9=>jae ?_);obtain ⟨p9,c9,rfl,hc9,r9⟩:=jas (B:=B) o9
     refine D3 ?_
     rintro w80 n80 o80;refine jaQ (jae ?_);rw [←hms] at o80
     obtain ⟨p80,c80,rfl,_⟩:=jas (B:=B) o80
     have hfig80:=hft.symm
     refine Zs ?_
     rotate_left
     refine DrawT.leaf [Zp 0,Zp 1,Zp 2,Zp 3,Zp 6,Zp 7,Zp 8,Zp 9,Zp 10,Zp 11,Zp 12,Zp 17,Zp 18,Zp 28,Zp 29,Zp 32,Zp 33,Zr 5,Zr 14,Zr 19,Zr 20,Zk 15,Zk 13,Zk 16,Zk 21,Zk 4,Zp 22,Zp 23,Zk 24,Zk 25,Zp 26,Zk 27,Zp 30,Zk 31,Zp 34,Zk 35] zK ?_;refine Z20 ?_;refine D40 ?_
     refine jdx kdq rfl zq zA zA rfl (fun q74=>jar (jae ?_));refine Zs ?_
     refine ja2 rfl zq rfl how3 zF zO zO (fun w9 n9 o9=>jae ?_);obtain ⟨p9,c9,rfl,hc9,r9⟩:=jas (B:=B) o9
     refine D3 ?_
     rintro w80 n80 o80;refine jaQ (jae ?_);rw [←hms] at o80
     obtain ⟨p80,c80,rfl,_⟩:=jas (B:=B) o80
     have hfig80:=hft.symm
     refine Zs ?_
     all_goals
      refine Z2 ?_;refine D9 ?_
      refine jmh (c:=(⟨decide (i=1),(k:Int),(j:Int)⟩:Ce)) (cs:=(jbi b i k j)) (k:=37) (e:=3) zK rfl zq hnew (jae ?_);refine Zs ?_;refine jj3 (c:=(⟨decide (i=1),(k:Int),(j:Int)⟩:Ce)) (cs:=(jbi b i k j)) rfl zq rfl ?_;refine Zs ?_
      haveI hss1:=shC_lat (a0:= .int .i64 b.wrong) (a1:= .slice ps ns ks) (a2:= .slice pw nw cw) (a3:= .slice pb nb cb) (cv:= .slice p9 ((jbi b i k j).length+1) c9) (mv:= .map (some qm)) (la:=la3) (cl:=cl3) (k:=(jbi b i k j).length) (by rw [hla3.1];exact hn12) x.ln.lat
      refine D9 ?_;refine Zs ?_
      haveI hss2:=shC_can (a0:= .int .i64 b.wrong) (a1:= .slice ps ns ks) (a2:= .slice pw nw cw) (a3:= .slice pb nb cb) (cv:= .slice p9 ((jbi b i k j).length+1) c9) (mv:= .map (some qm)) (la:=la3.set (jbi b i k j).length x.ln.lat) (cl:=cl3) (k:=(jbi b i k j).length) (by simpa using hla3.1) (by rw [hcl3.1];exact hn12) (.slice p80 (jcr (x.ln.figs.getD j [])).length c80)
      refine D9 ?_;refine Z6 ?_
      have hks:=jnR hkc
      have hkl:(jbi b i k (j+1)).length=(jbi b i k j).length+1:=by rw [hks];simp
      rw [←hkl,←hks];refine m.weak (h':=h++[⟨true,q1,.cells (tbL b ps ns ks pw nw cw pb nb cb).toArray 25 (0,0)⟩,⟨true,qm,jf3 (jbi b i k (j+1))⟩,⟨true,q18,.cells (shC (tbL b ps ns ks pw nw cw pb nb cb) (.slice p9 (jbi b i k (j+1)).length c9) (.map (some qm)) (la3.set (jbi b i k j).length x.ln.lat) (cl3.set (jbi b i k j).length (.slice p80 (jcr (x.ln.figs.getD j [])).length c80))).toArray 132 (0,0)⟩]++[⟨true,q5,.cells [str (hwS i),.bool (decide (i=1)),.func (.func (261+i)) #[] #[]].toArray 184 (0,0)⟩]++[⟨true,q7,.cells [.int .i64 x.ln.lat,.slice x.p x.ln.figs.length x.c].toArray 121 (0,0)⟩]++n9++(M3++n80)) jeh ?_
      exact hnext3 _ _ _ zO ⟨j+1,p9,c9,n9,M3++n80,_,_,rfl,by omega,by rw [hkl,hks,ja3];exact o9,by rw [hks];exact hla3.snoc hn12 hlat,by rw [hks];exact hcl3.snoc hn12 hfig80 o80,exU rfl,rfl⟩
   ·refine Z4 ?_;refine jl2 ?_;refine Z5 ?_
    have hac:jbi b i k j=jbi b i (k+1) 0:=by rw [show j=b.sts.length by omega];exact jf0 b i k
    rw [hac];refine m.weak (h':=h++[⟨true,q1,.cells (tbL b ps ns ks pw nw cw pb nb cb).toArray 25 (0,0)⟩,⟨true,qm,jf3 (jbi b i (k+1) 0)⟩,⟨true,q18,.cells (shC (tbL b ps ns ks pw nw cw pb nb cb) (.slice wp3 (jbi b i (k+1) 0).length wc3) (.map (some qm)) la3 cl3).toArray 132 (0,0)⟩]++[⟨true,q5,.cells [str (hwS i),.bool (decide (i=1)),.func (.func (261+i)) #[] #[]].toArray 184 (0,0)⟩]++W3++M3) jeD ?_
    exact hnext2 _ _ _ zO ⟨k+1,wp3,wc3,W3,M3,la3,cl3,rfl,by omega,by rw [←hac];exact how3,by rw [←hac];exact hla3,by rw [←hac];exact hcl3,exU rfl,rfl⟩
  ·refine Z9 ?_
   have hac:=joT b hin (show k≤2 by omega) zO
   rw [hac];refine m.weak (h':=h++[⟨true,q1,.cells (tbL b ps ns ks pw nw cw pb nb cb).toArray 25 (0,0)⟩,⟨true,qm,jf3 (jbi b (i+1) 0 0)⟩,⟨true,q18,.cells (shC (tbL b ps ns ks pw nw cw pb nb cb) (.slice wp2 (jbi b (i+1) 0 0).length wc2) (.map (some qm)) la2 cl2).toArray 132 (0,0)⟩]++W2++M2) jeD ?_
   exact hnext1 _ _ _ zO ⟨i+1,wp2,wc2,W2,M2,la2,cl2,rfl,by omega,by rw [←hac];exact how2,by rw [←hac];exact hla2,by rw [←hac];exact hcl2,exU rfl,rfl⟩
 ·refine Z5 ?_
  obtain rfl:i=2:=by omega
  rw [jkk] at how1 hla1 hcl1⊢
  have hc12:(jac b).length≤12:=by
   rw [←jkk];have:=jnS b (i:=2) (k:=0) (j:=0) zO zO zO
   omega
  refine Z5 ?_;refine jab (h++[⟨true,qm,jf3 (jac b)⟩,⟨true,q18,.cells (shC (tbL b ps ns ks pw nw cw pb nb cb) (.slice wp1 (jac b).length wc1) (.map (some qm)) la1 cl1).toArray 132 (0,0)⟩]++W1++M1) rfl Tryz.func95 rfl jaa ?_;refine Zs ?_
  exact ⟨[⟨true,qm,jf3 (jac b)⟩,⟨true,q18,.cells (shC (tbL b ps ns ks pw nw cw pb nb cb) (.slice wp1 (jac b).length wc1) (.map (some qm)) la1 cl1).toArray 132 (0,0)⟩]++W1++M1,q18,by rw [←gG,←gG],rfl,sheet_of hc12 how1 hla1 hcl1⟩
end
section
variable [LaidO B]
def jeU (a c:Cd) (n m:Int):Bool:=!riC a c n m
theorem jaN {a c:Cd} {n m:Int} (h:a.st≠c.st):jeU a c n m=false:=by rw [jeU,riC,if_pos h];rfl
theorem jaM {a c:Cd} {n m:Int} (h:a.st=c.st) (hb:a.butt=c.butt):jeU a c n m=decide ((a.lat<c.lat∧m<n)∨(c.lat<a.lat∧n<m)):=by
 rw [jeU,riC,if_neg (fun e=>e h),if_pos hb];have:=jhF (la:=a.lat) (lc:=c.lat) (ma:=n) (mc:=m)
 cases hr:riL a.lat c.lat n m with
 |true=>have:=this.1 hr;exact (decide_eq_false zO).symm
 |false=>exact E47
theorem jaE {a c:Cd} {n m:Int} (h:a.st=c.st) (ha:a.butt=false) (hc:c.butt=true):jeU a c n m=decide ((m<a.lat∧n<c.lat)∨(a.lat<m∧c.lat<n)):=by
 rw [jeU,riC,if_neg (fun e=>e h),if_neg (by rw [ha,hc];simp),if_neg (by rw [ha];simp)];have:=jhE (la:=a.lat) (lc:=c.lat) (ma:=n) (mc:=m)
 cases hr:riX a.lat c.lat n m with
 |true=>have:=this.1 hr;exact (decide_eq_false zO).symm
 |false=>exact E47
theorem fall_turn {a c:Cd} {n m:Int}:jeU a c n m=jeU c a m n:=by rw [jeU,jeU,jfv]
section
variable {H H':Hp} {b:Tb}
theorem Sheet.latI (s:Sheet B H b q tv) (hi:i<(jac b).length):Rd B H ⟨q,6+(i:Int).toNat*1,none⟩ (.int .i64 (jha b ((jac b).getD i default)).lat):=by
 rw [gZ,Ge,←jaq b hi];exact s.lat i hi
end
theorem rdTb_of {b:Tb} (rds:RdS B h 1 (.slice ps ns ks) ns (jax b.sts)) (hcs:ns≤ks) (rdw:RdLn B h (.slice pw nw cw) nw b.waters) (rdb:RdLn B h (.slice pb nb cb) nb b.butts) (hsm:TbSm b) (k:TbOk b):RdTb B h b ps ns ks pw nw cw pb nb cb:=by
 have hml:b.sts.length=ns:=rds.elen zA
 have h1:=k.n1
 have h3:=k.n3
 have hw:=k.waters.two
 have hb:=k.butts.two
 rw [jbx rdw] at hw
 rw [jbx rdb] at hb
 exact ⟨rds,hcs,rdw,rdb,hsm,by omega,by omega,hw,hb,fun l hl=>⟨hml▸(k.waters.ok l hl).len,(k.waters.ok l hl).fig⟩,fun l hl=>⟨hml▸(k.butts.ok l hl).len,(k.butts.ok l hl).fig⟩⟩
theorem f98_b (m:Md Tryz.prog B) (h:Hp) (s i:Nat) (hs:s<4096) (hi:i<12):FnC m 98 #[.int .u64 (s:Int),.int .i64 (i:Int)] h fun v h'=>h'=h∧IsB (s.testBit i=true) v:=
 CallF.mono (f98_c m h s i hs hi) fun v h' ⟨e1,e2⟩=>⟨e1,by rw [e2];cases s.testBit i;exact .inr ⟨by simp,rfl⟩;exact .inl ⟨rfl,rfl⟩⟩
theorem f176n_c (m:Md Tryz.prog B) (h:Hp) {b:Tb} (sh:Sheet B h b q tv) (hi:i<(jac b).length) (hk:k<(jac b).length) (mi mk:Int) (hn:(jha b ((jac b).getD i default)).butt=(jha b ((jac b).getD k default)).butt∨(jha b ((jac b).getD i default)).butt=false):FnC m 176 #[.pointer (some ⟨q,0,none⟩),.int .i64 (i:Int),.int .i64 (k:Int),.int .i64 mi,.int .i64 mk] h fun v h'=>h'=h∧v= .bool (jeU (dA (cdT b) i) (dA (cdT b) k) mi mk):=by
 have h12:=sh.twelve
 obtain ⟨pc,cc,hcv,hcc,hcr⟩:=sh.cells
 obtain ⟨pcb,pco,hpc⟩:=hcr.ptr zO
 refine D69 ?_
 intro cf cs K hK
 refine Z5 ?_;refine D36 ?_;refine Z8 ?_;refine D67 ?_;refine D94 ?_;refine D50 ?_;refine D67 ?_;refine D94 ?_;refine D51 ?_
 refine jaw rfl zq (fun q11=>jar (jae ?_));refine jaw rfl zq (fun q12=>jar (jae ?_));refine D6 ?_;refine D6 ?_;refine Z9 ?_
 refine ja5 rfl zq (fun hc=>?_) (fun hc=>?_)
 ·refine Z8 ?_;refine jiA ?_
  refine ⟨rfl,?_⟩
  rw [jaq b hi,jaq b hk];first
   |(rw [jaN zD];done)
   |(rw [jaM zD hbt];exact E48)
   |(rw [jaE zD hbf hbg];exact E48)
 ·refine Z9 ?_
  refine jfL rfl zq zK (fun hbt=>?_) (fun hbt=>?_)
  ·refine Z4 ?_;refine D13 ?_;refine Z10 ?_;refine D77 ?_;refine jaR rfl zq ((sh.latI (i:=k) zO).keeps SubH.sub) ?_
   refine jal rfl zq (fun hc=>?_) (fun hc=>?_)
   ·refine Z3 ?_
    refine jaD rfl rfl (fun hc=>?_) (fun hc=>?_)
    ·refine Z24 ?_;refine jiA ?_
     refine ⟨rfl,?_⟩
     rw [jaq b hi,jaq b hk];first
      |(rw [jaN zD];done)
      |(rw [jaM zD hbt];exact E48)
      |(rw [jaE zD hbf hbg];exact E48)
    ·refine Z12 ?_;refine D39 ?_;refine D28 ?_
     refine jaD rfl rfl (fun hc=>?_) (fun hc=>?_)
     ·refine Z3 ?_
      refine jal rfl rfl (fun hc=>?_) (fun hc=>?_);all_goals
       refine Z5 ?_;refine jiA ?_
       refine ⟨rfl,?_⟩
       rw [jaq b hi,jaq b hk];first
        |(rw [jaN zD];done)
        |(rw [jaM zD hbt];exact E48)
        |(rw [jaE zD hbf hbg];exact E48)
     ·refine Z9 ?_;refine jiA ?_
      refine ⟨rfl,?_⟩
      rw [jaq b hi,jaq b hk];first
       |(rw [jaN zD];done)
       |(rw [jaM zD hbt];exact E48)
       |(rw [jaE zD hbf hbg];exact E48)
   ·refine Z16 ?_;refine D39 ?_;refine D28 ?_
    refine jaD rfl rfl (fun hc=>?_) (fun hc=>?_)
    ·refine Z3 ?_
     refine jal rfl rfl (fun hc=>?_) (fun hc=>?_);all_goals
      refine Z5 ?_;refine jiA ?_
      refine ⟨rfl,?_⟩
      rw [jaq b hi,jaq b hk];first
       |(rw [jaN zD];done)
       |(rw [jaM zD hbt];exact E48)
       |(rw [jaE zD hbf hbg];exact E48)
    ·refine Z9 ?_;refine jiA ?_
     refine ⟨rfl,?_⟩
     rw [jaq b hi,jaq b hk];first
      |(rw [jaN zD];done)
      |(rw [jaM zD hbt];exact E48)
      |(rw [jaE zD hbf hbg];exact E48)
  ·refine Z9 ?_
   refine jbJ (fun hc=>?_) (fun hc=>?_)
   ·first|replace hc:=of_decide_eq_true hc|replace hc:=of_decide_eq_false hc|skip
    refine Zs ?_
    exact absurd hn (by rintro (e|e);exact hbt e;rw [e] at hc;cases hc)
   ·first|replace hc:=of_decide_eq_true hc|replace hc:=of_decide_eq_false hc|skip
    refine Z3 ?_
    have hbf:(jha b ((jac b).getD i default)).butt=false:=hc
    have hbg:(jha b ((jac b).getD k default)).butt=true:=by cases e:(jha b ((jac b).getD k default)).butt;exact absurd (hbf.trans e.symm) hbt;rfl
    refine rr39 ?_;refine Z6 ?_;refine D77 ?_;refine jal rfl zq (fun hc=>?_) (fun hc=>?_);rotate_left
    refine Z10 ?_
    all_goals
     refine Z7 ?_
    ·refine D39 ?_
     refine jaD rfl rfl (fun hc=>?_) (fun hc=>?_)
     ·refine Z7 ?_;refine D28 ?_
      refine jaD rfl rfl (fun hc=>?_) (fun hc=>?_);all_goals
       refine Z5 ?_;refine jiA ?_
       refine ⟨rfl,?_⟩
       rw [jaq b hi,jaq b hk];first
        |(rw [jaN zD];done)
        |(rw [jaM zD hbt];exact E48)
        |(rw [jaE zD hbf hbg];exact E48)
     ·refine Z14 ?_;refine jiA ?_
      refine ⟨rfl,?_⟩
      rw [jaq b hi,jaq b hk];first
       |(rw [jaN zD];done)
       |(rw [jaM zD hbt];exact E48)
       |(rw [jaE zD hbf hbg];exact E48)
    ·refine D28 ?_
     refine jal rfl rfl (fun hc=>?_) (fun hc=>?_)
     ·refine Z24 ?_;refine jiA ?_
      refine ⟨rfl,?_⟩
      rw [jaq b hi,jaq b hk];first
       |(rw [jaN zD];done)
       |(rw [jaM zD hbt];exact E48)
       |(rw [jaE zD hbf hbg];exact E48)
     ·refine Z8 ?_;refine D39 ?_
      refine jaD rfl rfl (fun hc=>?_) (fun hc=>?_)
      ·refine Z7 ?_;refine D28 ?_
       refine jaD rfl rfl (fun hc=>?_) (fun hc=>?_);all_goals
        refine Z5 ?_;refine jiA ?_
        refine ⟨rfl,?_⟩
        rw [jaq b hi,jaq b hk];first
         |(rw [jaN zD];done)
         |(rw [jaM zD hbt];exact E48)
         |(rw [jaE zD hbf hbg];exact E48)
      ·refine Z14 ?_;refine jiA ?_
       refine ⟨rfl,?_⟩
       rw [jaq b hi,jaq b hk];first
        |(rw [jaN zD];done)
        |(rw [jaM zD hbt];exact E48)
        |(rw [jaE zD hbf hbg];exact E48)
theorem f176_c (m:Md Tryz.prog B) (h:Hp) {b:Tb} (sh:Sheet B h b q tv) (hi:i<(jac b).length) (hk:k<(jac b).length) (mi mk:Int):FnC m 176 #[.pointer (some ⟨q,0,none⟩),.int .i64 (i:Int),.int .i64 (k:Int),.int .i64 mi,.int .i64 mk] h fun v h'=>h'=h∧v= .bool (jeU (dA (cdT b) i) (dA (cdT b) k) mi mk):=by
 have h12:=sh.twelve
 obtain ⟨pc,cc,hcv,hcc,hcr⟩:=sh.cells
 obtain ⟨pcb,pco,hpc⟩:=hcr.ptr zO
 refine D69 ?_
 intro cf cs K hK
 refine Z5 ?_;refine D36 ?_;refine Z8 ?_;refine D67 ?_;refine D94 ?_;refine D50 ?_;refine D67 ?_;refine D94 ?_;refine D51 ?_
 refine jaw rfl zq (fun q11=>jar (jae ?_));refine jaw rfl zq (fun q12=>jar (jae ?_));refine D6 ?_;refine D6 ?_;refine Z9 ?_
 refine ja5 rfl zq (fun hc=>?_) (fun hc=>?_)
 ·refine Z8 ?_;refine jiA ?_
  first
   |exact E50
   |(refine ⟨rfl,?_⟩
     rw [jaq b hi,jaq b hk];first
      |(rw [jaN zD];done)
      |(rw [jaM zD hbt];exact E48)
      |(rw [jaE zD hbf hbg];exact E48))
 ·refine Z9 ?_
  refine jfL rfl zq zK (fun hbt=>?_) (fun hbt=>?_)
  ·refine Z4 ?_;refine D13 ?_;refine Z10 ?_;refine D77 ?_;refine jaR rfl zq ((sh.latI (i:=k) zO).keeps SubH.sub) ?_
   refine jal rfl zq (fun hc=>?_) (fun hc=>?_)
   ·refine Z3 ?_
    refine jaD rfl rfl (fun hc=>?_) (fun hc=>?_)
    ·refine Z24 ?_;refine jiA ?_
     first
      |exact E50
      |(refine ⟨rfl,?_⟩
        rw [jaq b hi,jaq b hk];first
         |(rw [jaN zD];done)
         |(rw [jaM zD hbt];exact E48)
         |(rw [jaE zD hbf hbg];exact E48))
    ·refine Z12 ?_;refine D39 ?_;refine D28 ?_
     refine jaD rfl rfl (fun hc=>?_) (fun hc=>?_)
     ·refine Z3 ?_
      refine jal rfl rfl (fun hc=>?_) (fun hc=>?_);all_goals
       refine Z5 ?_;refine jiA ?_
       first
        |exact E50
        |(refine ⟨rfl,?_⟩
          rw [jaq b hi,jaq b hk];first
           |(rw [jaN zD];done)
           |(rw [jaM zD hbt];exact E48)
           |(rw [jaE zD hbf hbg];exact E48))
     ·refine Z9 ?_;refine jiA ?_
      first
       |exact E50
       |(refine ⟨rfl,?_⟩
         rw [jaq b hi,jaq b hk];first
          |(rw [jaN zD];done)
          |(rw [jaM zD hbt];exact E48)
          |(rw [jaE zD hbf hbg];exact E48))
   ·refine Z16 ?_;refine D39 ?_;refine D28 ?_
    refine jaD rfl rfl (fun hc=>?_) (fun hc=>?_)
    ·refine Z3 ?_
     refine jal rfl rfl (fun hc=>?_) (fun hc=>?_);all_goals
      refine Z5 ?_;refine jiA ?_
      first
       |exact E50
       |(refine ⟨rfl,?_⟩
         rw [jaq b hi,jaq b hk];first
          |(rw [jaN zD];done)
          |(rw [jaM zD hbt];exact E48)
          |(rw [jaE zD hbf hbg];exact E48))
    ·refine Z9 ?_;refine jiA ?_
     first
      |exact E50
      |(refine ⟨rfl,?_⟩
        rw [jaq b hi,jaq b hk];first
         |(rw [jaN zD];done)
         |(rw [jaM zD hbt];exact E48)
         |(rw [jaE zD hbf hbg];exact E48))
  ·refine Z9 ?_
   refine jbJ (fun hc=>?_) (fun hc=>?_)
   ·first|replace hc:=of_decide_eq_true hc|replace hc:=of_decide_eq_false hc|skip
    refine Zs ?_
    have hab:(jha b ((jac b).getD i default)).butt=true:=hc
    have hkb:(jha b ((jac b).getD k default)).butt=false:=by cases e:(jha b ((jac b).getD k default)).butt;rfl;exact absurd (hab.trans e.symm) hbt
    refine Z6 ?_;refine jah (Post:=fun v=>v= .bool (jeU (dA (cdT b) k) (dA (cdT b) i) mk mi)) rfl zq zK (fun H' hH=>f176n_c m H' (sh.keeps (sq hH)) hk hi mk mi (.inr hkb)) ?_
    rintro v rfl;refine Z4 ?_;refine jiA ?_
    first
     |exact E50
     |(refine ⟨rfl,?_⟩
       rw [jaq b hi,jaq b hk];first
        |(rw [jaN zD];done)
        |(rw [jaM zD hbt];exact E48)
        |(rw [jaE zD hbf hbg];exact E48))
   ·first|replace hc:=of_decide_eq_true hc|replace hc:=of_decide_eq_false hc|skip
    refine Z3 ?_
    have hbf:(jha b ((jac b).getD i default)).butt=false:=hc
    have hbg:(jha b ((jac b).getD k default)).butt=true:=by cases e:(jha b ((jac b).getD k default)).butt;exact absurd (hbf.trans e.symm) hbt;rfl
    refine rr39 ?_;refine Z6 ?_;refine D77 ?_;refine jal rfl zq (fun hc=>?_) (fun hc=>?_);rotate_left
    refine Z10 ?_
    all_goals
     refine Z7 ?_
    ·refine D39 ?_
     refine jaD rfl rfl (fun hc=>?_) (fun hc=>?_)
     ·refine Z7 ?_;refine D28 ?_
      refine jaD rfl rfl (fun hc=>?_) (fun hc=>?_);all_goals
       refine Z5 ?_;refine jiA ?_
       first
        |exact E50
        |(refine ⟨rfl,?_⟩
          rw [jaq b hi,jaq b hk];first
           |(rw [jaN zD];done)
           |(rw [jaM zD hbt];exact E48)
           |(rw [jaE zD hbf hbg];exact E48))
     ·refine Z14 ?_;refine jiA ?_
      first
       |exact E50
       |(refine ⟨rfl,?_⟩
         rw [jaq b hi,jaq b hk];first
          |(rw [jaN zD];done)
          |(rw [jaM zD hbt];exact E48)
          |(rw [jaE zD hbf hbg];exact E48))
    ·refine D28 ?_
     refine jal rfl rfl (fun hc=>?_) (fun hc=>?_)
     ·refine Z24 ?_;refine jiA ?_
      first
       |exact E50
       |(refine ⟨rfl,?_⟩
         rw [jaq b hi,jaq b hk];first
          |(rw [jaN zD];done)
          |(rw [jaM zD hbt];exact E48)
          |(rw [jaE zD hbf hbg];exact E48))
     ·refine Z8 ?_;refine D39 ?_
      refine jaD rfl rfl (fun hc=>?_) (fun hc=>?_)
      ·refine Z7 ?_;refine D28 ?_
       refine jaD rfl rfl (fun hc=>?_) (fun hc=>?_);all_goals
        refine Z5 ?_;refine jiA ?_
        first
         |exact E50
         |(refine ⟨rfl,?_⟩
           rw [jaq b hi,jaq b hk];first
            |(rw [jaN zD];done)
            |(rw [jaM zD hbt];exact E48)
            |(rw [jaE zD hbf hbg];exact E48))
      ·refine Z14 ?_;refine jiA ?_
       first
        |exact E50
        |(refine ⟨rfl,?_⟩
          rw [jaq b hi,jaq b hk];first
           |(rw [jaN zD];done)
           |(rw [jaM zD hbt];exact E48)
           |(rw [jaE zD hbf hbg];exact E48))
end
end Go.Proofs
namespace Go.Proofs
open Go.Lo
theorem jfQ (n:Nat):(jdL n).length=n:=by simp [jdL]
theorem jfX: ∀xs:List Int,jbC xs xs=false
 |[]=>rfl
 |a::r=>by unfold jbC;rw [if_pos rfl];exact jfX r
theorem jgN: ∀xs ys zs:List Int,jbC xs ys=true→jbC ys zs=true→jbC xs zs=true
 |[],[],_,h,_=>by simp [jbC] at h
 |[],_::_,[],_,h=>by simp [jbC] at h
 |[],_::_,_::_,_,_=>rfl
 |_::_,[],_,h,_=>by simp [jbC] at h
 |_::_,_::_,[],_,h=>by simp [jbC] at h
 |a::r,c::s,d::t,h1,h2=>by
  unfold jbC at h1 h2⊢
  by_cases e1:a=c
  ·by_cases e2:c=d
   ·rw [if_pos e1] at h1
    rw [if_pos e2] at h2
    rw [if_pos (e1.trans e2)];exact jgN r s t h1 h2
   ·rw [if_neg e2] at h2
    rw [if_neg (e1▸e2),e1];exact h2
  ·rw [if_neg e1] at h1
   have h1:=of_decide_eq_true h1
   by_cases e2:c=d
   ·rw [if_neg (e2▸e1),←e2];exact decide_eq_true h1
   ·rw [if_neg e2] at h2
    have h2:=of_decide_eq_true h2
    rw [if_neg zO];exact decide_eq_true zO
theorem jlq (xs:List Int): ¬jeg xs xs:=by
 rintro (h|⟨_,h⟩)
 ·omega
 ·rw [jfX] at h
  cases h
theorem jid {zs:List Int} (h1:jeg xs ys) (h2:jeg ys zs):jeg xs zs:=by
 rcases h1 with h1|⟨h1,h1'⟩<;>rcases h2 with h2|⟨h2,h2'⟩
 ·exact .inl zO
 ·exact .inl zO
 ·exact .inl zO
 ·exact .inr ⟨by omega,jgN _ _ _ h1' h2'⟩
theorem jlI: ∀xs ys:List Int,xs=ys∨jbC xs ys=true∨jbC ys xs=true
 |[],[]=> .inl rfl
 |[],_::_=> .inr (.inl rfl)
 |_::_,[]=> .inr (.inr rfl)
 |a::r,c::s=>by
  unfold jbC
  by_cases e:a=c
  ·rw [if_pos e,if_pos e.symm];rcases jlI r s with h|h|h
   ·exact .inl (by rw [e,h])
   ·exact .inr (.inl h)
   ·exact .inr (.inr h)
  ·rw [if_neg e,if_neg (fun x=>e x.symm)];rcases Int.lt_or_gt_of_ne e with h|h
   ·exact .inr (.inl (decide_eq_true h))
   ·exact .inr (.inr (decide_eq_true h))
theorem jnG (xs ys:List Int):xs=ys∨jeg xs ys∨jeg ys xs:=by
 unfold jeg
 rcases jlI xs ys with h|h|h
 ·exact .inl h
 ·rcases Gu xs.length ys.length with e|e|e
  ·exact .inr (.inl (.inl e))
  ·exact .inr (.inl (.inr ⟨e,h⟩))
  ·exact .inr (.inr (.inl e))
 ·rcases Gu xs.length ys.length with e|e|e
  ·exact .inr (.inl (.inl e))
  ·exact .inr (.inr (.inr ⟨e.symm,h⟩))
  ·exact .inr (.inr (.inl e))
theorem jgf {p:Int→Bool}:z∈(jdL k).filter p↔ ∃i:Nat,i<k∧z=(i:Int)∧p i=true:=by
 rw [gS];unfold jdL
 rw [gQ];constructor
 ·rintro ⟨⟨i,hi,rfl⟩,h⟩;exact ⟨i,gP.1 hi,rfl,h⟩
 ·rintro ⟨i,hi,rfl,h⟩;exact ⟨⟨i,gP.2 hi,rfl⟩,h⟩
theorem joR (h:Asc xs) (p:Int→Bool):Asc (xs.filter p):=List.Pairwise.sublist vv h
theorem joQ (k:Nat):Asc (jdL k):=by
 unfold jdL
 refine vf.2 ?_
 exact List.Pairwise.imp (fun h=>by omega) Vl
theorem jfZ (mm k:Nat):Asc (jbA mm k):=joR (joQ _) _
theorem jqg (h:bitN mm k=1):jbA mm (k+1)=jbA mm k++[(k:Int)]:=by
 rw [jbA,jia,GU,←jbA,Gq,gZ,if_pos (decide_eq_true h)];rfl
theorem keptI_no (h:bitN mm k≠1):jbA mm (k+1)=jbA mm k:=by
 rw [jbA,jia,GU,←jbA,Gq,gZ,if_neg (by rw [decide_eq_true_iff];exact h)];simp
theorem jj1 (mm k:Nat):(jbA mm k).length≤k:=by
 have:=Gy (fun i:Int=>decide (bitN mm i.toNat=1)) (jdL k)
 rw [jfQ] at this
 exact this
def jiu (p:Nat→Bool):Nat→Nat
 |0=>0
 |n+1=>if p n then 2^n+jiu p n else jiu p n
theorem jit (p:Nat→Bool): ∀n,jiu p n<2^n
 |0=>Nat.one_pos
 |n+1=>by
  have:=jit p n
  rw [jiu,Nat.pow_succ];split<;>omega
theorem jgr (p:Nat→Bool): ∀n i,i<n→(jiu p n).testBit i=p i
 |0,i,h=>by omega
 |n+1,i,h=>by
  rw [jiu];by_cases e:i=n
  ·subst e
   have h1:=VF (jit p i)
   split
   ·rw [Nat.testBit_two_pow_add_eq,h1];rename_i h
    rw [h];rfl
   ·rename_i h
    rw [h1];exact (gt.2 h).symm
  ·have ih:=jgr p n i zO
   split
   ·rw [Nat.testBit_two_pow_add_gt zO];exact ih
   ·exact ih
theorem jcJ (mm i:Nat):bitN mm i=1↔mm.testBit i=true:=by
 rw [Nat.testBit_eq_decide_div_mod_eq];unfold bitN
 simp
theorem jdg:z∈jbA mm k↔ ∃i:Nat,i<k∧z=(i:Int)∧bitN mm i=1:=by
 unfold jbA
 rw [jgf];simp
theorem jqf (ha:Asc xs) (h: ∀x∈xs,0≤x∧x<n): ∃mm,mm<2^n∧xs=jbA mm n:=by
 refine ⟨jiu (fun i=>decide ((i:Int)∈xs)) n,jit _ _,Asc.eq ha (jfZ _ _) fun z=>?_⟩
 rw [jdg];constructor
 ·intro hz
  have h1:=h z hz
  refine ⟨z.toNat,by omega,by omega,(jcJ _ _).2 ?_⟩
  rw [jgr _ _ _ zO,show ((z.toNat:Nat):Int)=z by omega];exact decide_eq_true hz
 ·rintro ⟨i,hi,rfl,hb⟩;have:=(jcJ _ _).1 hb
  rw [jgr _ _ _ hi] at this
  exact of_decide_eq_true this
theorem jix (h:Asc ys):ys.Nodup:=List.Pairwise.imp (fun h=>by omega) h
theorem asc_len (h:Asc xs) (hx: ∀x∈xs,0≤x∧x<n):xs.length≤n:=by
 have:=Gg (l₂:=jdL n) (jix h) fun z hz=>by
  obtain ⟨h1,h2⟩:=hx z hz
  unfold jdL
  exact gQ.2 ⟨z.toNat,gP.2 zO,by omega⟩
 rwa [jfQ] at this
end Go.Proofs
namespace Go.Proofs
open Go.Lo
open Go.Conc (G)
section
variable [LaidO B]
def btL (s:Nat) (ms:List Int):List Value:= .int .u64 (s:Int)::jav ms
abbrev btV (s:Nat) (ms:List Int):Value:= .agg (btL s ms).toArray
theorem jjt (s:Nat) (h:ms.length=12):(btL s ms).length=13:=by simp [btL,h]
theorem btL_one (s:Nat) (ms:List Int): ∀u∈btL s ms,u.oneCell'=true:=by
 intro u hu
 rcases gN.1 hu with rfl|hu
 ·rfl
 ·obtain ⟨n,_,rfl⟩:=gQ.1 hu
  rfl
instance {s:Nat}:Ones (btL s ms):=⟨btL_one s ms⟩
instance {s:Nat}:At (btL s ms) 0 (.int .u64 (s:Int)):=⟨rfl⟩
theorem bt_at {e:Nat} {rw:Bool} {f:Nat×Nat} {s:Nat} [x:Has h q rw (.cells (btL s ms).toArray e f)] (i:Nat) (hi:i<ms.length):Rd B h ⟨q,1+(i:Int).toNat*1,none⟩ (.int .i64 (ms.getD i 0)):=by
 refine Rd.held x.mem ?_
 rw [show 1+(i:Int).toNat*1=i+1 by omega,gV,btL,vF,gk,gC hi,gB,gC hi];rfl
theorem isB_of {p:Bool} {v:Value} (h:v= .bool p):IsB (p=true) v:=by
 rw [h];cases p
 exact .inr ⟨by simp,rfl⟩
 exact .inl ⟨rfl,rfl⟩
def fitsN (D:List Cd) (s:Nat) (ms:List Int) (i k:Nat):Prop:= ∀j,j<k→s.testBit j=false→riC (dA D j) (dA D i) (ms.getD j 0) (ms.getD i 0)=true
theorem f156_c (m:Md Tryz.prog B) (h:Hp) (s:Nat) (hs:s<4096):FnC m 156 #[.int .u64 (s:Int)] h fun v h'=> ∃new,h'=h++new∧OwnS 3 1 v (jbA s 12).length (jav (jbA s 12)) new:=by
 refine jad Tryz.func156 rfl rfl (l:=(.int .u64 (s:Int))::uu16) rfl ?_
 intro cf cs K hK
 refine Z14 ?_
 refine jag (fun nn l h'=> ∃(k:Nat) (wp:Option Addr) (wc:Nat) (M:Hp),nn=12-k∧(k≤12)∧(OwnS 3 1 (.slice wp (jbA s k).length wc) (jbA s k).length (jav (jbA s k)) M)∧(∃U:Nat→Value,l=((.int .u64 (s:Int))::(U 1)::(U 2)::(.slice wp (jbA s k).length wc)::(U 4)::(.int .i64 (k:Int))::vw11 U 6 []))∧h++M=h') _ ⟨0,none,0,[],rfl,by omega,OwnS.nil,exU rfl,zS⟩ ?_;rintro nn l h' ⟨k,wp,wc,M,rfl,hk,how,⟨U,rfl⟩,rfl⟩ hnext;have hkl:=jj1 s k
 refine Z2 ?_
 refine jal rfl zq (fun hc=>?_) (fun hc=>?_);refine Z6 ?_
 rotate_left
 refine Z4 ?_
 all_goals
  refine Z5 ?_
 ·refine Zs ?_;refine jab (h++M) rfl Tryz.func156 rfl jaa ?_;refine Zs ?_
  obtain rfl:k=12:=by omega
  exact ⟨M,rfl,how⟩
 ·refine Z4 ?_;refine jah (Post:=fun v=>IsB _ v) rfl zq zK (fun H' hH=>f98_b m H' s k hs zO) ?_
  rintro v (⟨hc,rfl⟩|⟨hc,rfl⟩);refine Z6 ?_
  refine jdx kdq rfl zq zA zA rfl (fun q13=>jar (jae ?_));refine ja2 rfl zq rfl how kdq zO zO (fun w9 n9 o9=>jae ?_);obtain ⟨p9,c9,rfl,hc9,r9⟩:=jas (B:=B) o9
  refine Z2 ?_
  rotate_left
  refine Z4 ?_
  all_goals
   refine Z5 ?_
  ·have hks:=keptI_no (mm:=s) (k:=k) (fun e=>hc ((jcJ s k).1 e))
   rw [←hks];exact E19
  ·have hks:=jqg (mm:=s) (k:=k) ((jcJ s k).2 hc)
   have hkl1:(jbA s (k+1)).length=(jbA s k).length+1:=by rw [hks];simp
   rw [←hkl1];exact m.weak jaa (hnext _ _ _ zO ⟨k+1,p9,c9,n9,rfl,by omega,by rw [hkl1,hks,jbh];exact o9,exU rfl,rfl⟩)
theorem f139_c (m:Md Tryz.prog B) (h:Hp) {b:Tb} (sh:Sheet B h b q tv) (hi:i<(jac b).length) (s:Nat) (hs:s<4096) (hm:ms.length=12):FnC m 139 #[.pointer (some ⟨q,0,none⟩),btV s ms,.int .i64 (i:Int)] h fun v h'=>h'=h∧IsB (fitsN (cdT b) s ms i i) v:=by
 have h12:=sh.twelve
 refine jad Tryz.func139 rfl rfl (l:=(.pointer (some ⟨q,0,none⟩))::(btV s ms)::(.int .i64 (i:Int))::uu29) rfl ?_
 intro cf cs K hK
 refine Z2 ?_
 refine jaK rfl zq (fun q4=>jar (jae ?_));refine Z9 ?_
 refine jag (fun nn l h'=> ∃(k:Nat),nn=i-k∧(k≤i)∧(fitsN (cdT b) s ms i k)∧(∃U:Nat→Value,l=((.pointer (some ⟨q,0,none⟩))::(btV s ms)::(.int .i64 (i:Int))::(U 3)::(.pointer (some ⟨q4,0,none⟩))::(U 5)::(U 6)::(U 7)::(.int .i64 (i:Int))::(.int .i64 (k:Int))::vw22 U 10 []))∧h++[⟨true,q4,.cells (btL s ms).toArray 136 (0,0)⟩]=h') _ ⟨0,rfl,by omega,fun j hj=>absurd hj zO,exU rfl,rfl⟩ ?_;rintro nn l h' ⟨k,rfl,hk,hno,⟨U,rfl⟩,rfl⟩ hnext;refine Z2 ?_
 refine jal rfl zq (fun hc=>?_) (fun hc=>?_)
 ·refine Z12 ?_;refine jao [Zp 0,Zp 2,Zr 1,Zk 3,Zp 4,Zp 5,Zp 6,Zp 7,Zp 8,Zp 9,Zp 10,Zp 11,Zp 13,Zp 14,Zp 15,Zr 12,Zr 16,Zk 17,Zp 18] zK zK (gE _) ?_;refine Z3 ?_;refine jah (Post:=fun v=>IsB _ v) rfl zq zK (fun H' hH=>f98_b m H' s k hs zO) ?_
  rintro v (⟨hc,rfl⟩|⟨hc,rfl⟩)
  ·refine Zs ?_
   have hbt:s.testBit k=true:=hc
   refine Z23 ?_
   exact m.weak jaa (hnext _ _ _ zO ⟨k+1,rfl,by omega,fun j hj hb=>by
    by_cases e:j<k
    ·exact hno j e hb
    ·obtain rfl:j=k:=by omega
     first|(rw [hc] at hb;cases hb;done)|(rw [hbt] at hb;cases hb;done)|(have hf:=hc;rw [jeU] at hf;simpa using hf),exU rfl,rfl⟩)
  ·refine Zs ?_
   have hbf:s.testBit k=false:=by simpa using hc
   refine Z11 ?_;refine jaR rfl rfl (bt_at k zO) ?_;refine jaR rfl rfl (bt_at i zO) ?_;refine jah (Post:=fun v=>IsB _ v) rfl rfl zK (fun H' hH=>CallF.mono (f176_c m H' (sh.keeps (sq hH)) (i:=k) (k:=i) zO hi (ms.getD k 0) (ms.getD i 0)) fun v h' ⟨e1,e2⟩=>⟨e1,isB_of e2⟩) ?_
   rintro v (⟨hc,rfl⟩|⟨hc,rfl⟩)
   ·refine Z9 ?_;refine jab (h) rfl Tryz.func139 rfl jaa ?_;refine Zs ?_
    refine ⟨rfl,IsB.no fun e=>?_⟩
    have:=e k zO hbf
    rw [jeU,this] at hc
    cases hc
   ·refine Z10 ?_
    exact m.weak jaa (hnext _ _ _ zO ⟨k+1,rfl,by omega,fun j hj hb=>by
     by_cases e:j<k
     ·exact hno j e hb
     ·obtain rfl:j=k:=by omega
      first|(rw [hc] at hb;cases hb;done)|(rw [hbt] at hb;cases hb;done)|(have hf:=hc;rw [jeU] at hf;simpa using hf),exU rfl,rfl⟩)
 ·refine Z9 ?_;refine jab (h) rfl Tryz.func139 rfl jaa ?_;refine Zs ?_
  obtain rfl:k=i:=by omega
  exact ⟨rfl,IsB.yes hno⟩
end
end Go.Proofs
