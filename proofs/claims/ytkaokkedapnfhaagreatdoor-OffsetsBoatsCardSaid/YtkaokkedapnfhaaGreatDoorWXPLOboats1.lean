/- A part of the proof of a law. Condition of each theorem: as its statement says. -/
import Derived.Test.YtkaokkedapnfhaaGreatDoorVB10
set_option linter.all false
variable {B:Array Go.Obj} {ma mc z v N:Int} {ps pw pb p wp pM:Option Go.Addr} {ns ks nw cw nb cb s n i k j most nW cW nM cM:Nat} {wr ms xs l:List Int} {h H X Y Z:Go.Lo.Hp} {cl:List Go.Lo.Ce} {js:List Nat} {L M:List (List Int×List Int)} {th:Bool}
set_option maxHeartbeats 4000000
set_option maxRecDepth 100000
set_option synthInstance.maxHeartbeats 1000000
set_option synthInstance.maxSize 100000
namespace Go.Proofs
open Go.Lo
open Go.Conc (G)
section
variable [LaidO B]
theorem jes {b:Tb} {c:Ce} (h:jeu b c=true):0≤c.line∧c.line<(jbo b c.butt).length:=by
 have:=(jhL (b:=b) (bt:=c.butt) (li:=c.line) (st:=c.st)).1 h
 omega
theorem jax {la lc:Int}:jqn la lc ma mc=true↔la=lc∨(ma≤mc↔la<lc)∨ma=mc:=by
 unfold jqn
 by_cases h1:la=lc<;>by_cases h2:ma≤mc<;>by_cases h3:la<lc<;>by_cases h4:ma=mc<;>simp [h1,h2,h3,h4]<;>omega
theorem jaw {la lc:Int}:jnB la lc ma mc=true↔(mc<la∧ma≥lc)∨(¬mc<la∧(mc=la∨ma≤lc)):=by
 unfold jnB
 split
 ·simp
  omega
 ·simp
  omega
theorem f177n_c (m:Md Tryz.prog B) (h:Hp) {b:Tb} (rd:RdTb B h b ps ns ks pw nw cw pb nb cb) {a c:Ce} (ha:jeu b a=true) (hcc:jeu b c=true) (hn:a.butt=c.butt∨a.butt=false) (ma mc:Int):FnC m 93 #[tbV b ps ns ks pw nw cw pb nb cb,cV a.butt a.line a.st,cV c.butt c.line c.st,.int .i64 ma,.int .i64 mc] h fun v h'=>h'=h∧v= .bool (jaS b a c ma mc):=by
 have ha0:=jes ha
 have hc0:=jes hcc
 refine jae Tryz.func93 rfl rfl (l:=[tbV b ps ns ks pw nw cw pb nb cb,cV a.butt a.line a.st,cV c.butt c.line c.st,.int .i64 ma,.int .i64 mc,undef,undef,undef,undef,undef,undef,undef,undef,undef,undef,undef,undef,undef,undef,undef,undef,undef,undef,undef,undef,undef,undef,undef,undef,undef,undef,undef,undef,undef,undef,undef,undef,undef,undef,undef,undef,undef,undef,undef,undef,undef,undef,undef,undef,undef,undef,undef,undef,undef,undef,undef,undef,undef,undef,undef,undef,undef,undef,undef,undef,undef,undef,undef,undef,undef]) rfl ?_
 intro cf cs K hK
 refine Z2 ?_
 refine jaF rfl zq (fun q5=>jap (jad ?_));refine jaF rfl zq (fun q6=>jap (jad ?_));refine jaF rfl zq (fun q7=>jap (jad ?_));refine Z9 ?_
 refine jaP rfl zq (fun hc=>?_) (fun hc=>?_)
 ·refine Z7 ?_;refine jac (h) rfl Tryz.func93 rfl jaa ?_;refine Zs ?_
  refine ⟨rfl,congrArg Value.bool ?_⟩
  first
   |exact absurd hbb zA
   |(rw [jaS,if_pos zD];done)
   |(rw [jaS,if_neg (fun e=>e zD)]
     first
      |(rw [if_pos (show a.butt=c.butt from hbt),←hx1,←hx2];exact E76)
      |(rw [if_neg (show¬a.butt=c.butt from hbt),if_neg (gz.1 zD),←hx1,←hx2];exact E78))
 ·refine Z4 ?_;refine jan [Zr 0,Zr 1,Zr 4,Zr 5,Zk 2,Zp 3,Zk 6,Zp 7,Zp 8,Zp 9] zK zK (gE _) ?_;refine Z4 ?_;refine jag (Post:=fun v=> ∃x:Lp,v=lpV x∧x.ln=jcF b a) rfl zq zK (fun H' hH=>CallF.mono (f66_c m (sq hH) rd (st:=a.st) (jes ha).1 (jes ha).2) fun v h' ⟨e,x,e1,e2,_⟩=>⟨e,x,e1,e2⟩) ?_
  rintro v ⟨x1,rfl,hx1⟩;refine Zs ?_;refine jmW rfl zq ?_;refine jag (Post:=fun v=> ∃x:Lp,v=lpV x∧x.ln=jcF b c) rfl zq zK (fun H' hH=>CallF.mono (f66_c m (sq hH) rd (st:=c.st) (jes hcc).1 (jes hcc).2) fun v h' ⟨e,x,e1,e2,_⟩=>⟨e,x,e1,e2⟩) ?_
  rintro v ⟨x2,rfl,hx2⟩;refine Zs ?_;refine jmW rfl zq ?_;refine Z10 ?_
  refine jge rfl zq zK (fun hbt=>?_) (fun hbt=>?_)
  ·refine Z3 ?_;refine jbC [Zf 0,Zf 1,Zf 2,Zf 3,Zf 4,Zf 5,Zf 6,Zf 7,Zf 8,Zf 9,Zf 10,Zf 11,Zf 12,Zf 13,Zf 14,Zf 15,Zf 16,Zf 17] zK zK ?_;refine Z2 ?_
   refine jaA rfl zq (fun hc=>?_) (fun hc=>?_)
   ·refine Z17 ?_;refine jac (h) rfl Tryz.func93 rfl jaa ?_;refine Zs ?_
    refine ⟨rfl,congrArg Value.bool ?_⟩
    first
     |exact absurd hbb zA
     |(rw [jaS,if_pos zD];done)
     |(rw [jaS,if_neg (fun e=>e zD)]
       first
        |(rw [if_pos (show a.butt=c.butt from hbt),←hx1,←hx2];exact E76)
        |(rw [if_neg (show¬a.butt=c.butt from hbt),if_neg (gz.1 zD),←hx1,←hx2];exact E78))
   ·refine Z3 ?_
    refine jbK rfl rfl (fun hc=>?_) (fun hc=>?_);all_goals
     refine Z2 ?_
     refine jak rfl rfl (fun hc=>?_) (fun hc=>?_);all_goals
      refine jge rfl rfl zK (fun hbb=>?_) (fun hbb=>?_)
      ·refine Z9 ?_;refine jac (h) rfl Tryz.func93 rfl jaa ?_;refine Zs ?_
       refine ⟨rfl,congrArg Value.bool ?_⟩
       first
        |exact absurd hbb zA
        |(rw [jaS,if_pos zD];done)
        |(rw [jaS,if_neg (fun e=>e zD)]
          first
           |(rw [if_pos (show a.butt=c.butt from hbt),←hx1,←hx2];exact E76)
           |(rw [if_neg (show¬a.butt=c.butt from hbt),if_neg (gz.1 zD),←hx1,←hx2];exact E78))
      ·refine Z4 ?_
       refine jaA rfl rfl (fun hc=>?_) (fun hc=>?_);all_goals
        refine Z4 ?_;refine jac (h) rfl Tryz.func93 rfl jaa ?_;refine Zs ?_
        refine ⟨rfl,congrArg Value.bool ?_⟩
        first
         |exact absurd hbb zA
         |(rw [jaS,if_pos zD];done)
         |(rw [jaS,if_neg (fun e=>e zD)]
           first
            |(rw [if_pos (show a.butt=c.butt from hbt),←hx1,←hx2];exact E76)
            |(rw [if_neg (show¬a.butt=c.butt from hbt),if_neg (gz.1 zD),←hx1,←hx2];exact E78))
  ·refine Z9 ?_
   refine jb7 (fun hc=>?_) (fun hc=>?_)
   ·first|replace hc:=of_decide_eq_true hc|replace hc:=of_decide_eq_false hc|skip
    refine Zs ?_
    exact absurd hn (by rintro (e|e);exact hbt e;rw [e] at hc;cases hc)
   ·first|replace hc:=of_decide_eq_true hc|replace hc:=of_decide_eq_false hc|skip
    refine Z6 ?_
    refine jak rfl zq (fun hc=>?_) (fun hc=>?_)
    ·refine Z6 ?_
     refine jbG rfl zq (fun hc=>?_) (fun hc=>?_);all_goals
      refine Z3 ?_;refine jac (h) rfl Tryz.func93 rfl jaa ?_;refine Zs ?_
      refine ⟨rfl,congrArg Value.bool ?_⟩
      first
       |exact absurd hbb zA
       |(rw [jaS,if_pos zD];done)
       |(rw [jaS,if_neg (fun e=>e zD)]
         first
          |(rw [if_pos (show a.butt=c.butt from hbt),←hx1,←hx2];exact E76)
          |(rw [if_neg (show¬a.butt=c.butt from hbt),if_neg (gz.1 zD),←hx1,←hx2];exact E78))
    ·refine Z7 ?_
     refine jaA rfl zq (fun hc=>?_) (fun hc=>?_)
     ·refine Z8 ?_;refine jac (h) rfl Tryz.func93 rfl jaa ?_;refine Zs ?_
      refine ⟨rfl,congrArg Value.bool ?_⟩
      first
       |exact absurd hbb zA
       |(rw [jaS,if_pos zD];done)
       |(rw [jaS,if_neg (fun e=>e zD)]
         first
          |(rw [if_pos (show a.butt=c.butt from hbt),←hx1,←hx2];exact E76)
          |(rw [if_neg (show¬a.butt=c.butt from hbt),if_neg (gz.1 zD),←hx1,←hx2];exact E78))
     ·refine Z3 ?_
      refine jbK rfl rfl (fun hc=>?_) (fun hc=>?_);all_goals
       refine Z4 ?_;refine jac (h) rfl Tryz.func93 rfl jaa ?_;refine Zs ?_
       refine ⟨rfl,congrArg Value.bool ?_⟩
       first
        |exact absurd hbb zA
        |(rw [jaS,if_pos zD];done)
        |(rw [jaS,if_neg (fun e=>e zD)]
          first
           |(rw [if_pos (show a.butt=c.butt from hbt),←hx1,←hx2];exact E76)
           |(rw [if_neg (show¬a.butt=c.butt from hbt),if_neg (gz.1 zD),←hx1,←hx2];exact E78))
theorem jcj {b:Tb} {a c:Ce} (hst:a.st=c.st) (hbt:a.butt≠c.butt) (ha:a.butt=true):jaS b c a mc ma=jaS b a c ma mc:=by
 have hc:c.butt=false:=by cases e:c.butt;rfl;rw [ha,e] at hbt;exact absurd rfl hbt
 simp [jaS,hst,ha,hc]
theorem f93_c (m:Md Tryz.prog B) (h:Hp) {b:Tb} (rd:RdTb B h b ps ns ks pw nw cw pb nb cb) {a c:Ce} (ha:jeu b a=true) (hcc:jeu b c=true) (ma mc:Int):FnC m 93 #[tbV b ps ns ks pw nw cw pb nb cb,cV a.butt a.line a.st,cV c.butt c.line c.st,.int .i64 ma,.int .i64 mc] h fun v h'=>h'=h∧v= .bool (jaS b a c ma mc):=by
 have ha0:=jes ha
 have hc0:=jes hcc
 refine jae Tryz.func93 rfl rfl (l:=[tbV b ps ns ks pw nw cw pb nb cb,cV a.butt a.line a.st,cV c.butt c.line c.st,.int .i64 ma,.int .i64 mc,undef,undef,undef,undef,undef,undef,undef,undef,undef,undef,undef,undef,undef,undef,undef,undef,undef,undef,undef,undef,undef,undef,undef,undef,undef,undef,undef,undef,undef,undef,undef,undef,undef,undef,undef,undef,undef,undef,undef,undef,undef,undef,undef,undef,undef,undef,undef,undef,undef,undef,undef,undef,undef,undef,undef,undef,undef,undef,undef,undef,undef,undef,undef,undef,undef]) rfl ?_
 intro cf cs K hK
 refine Z2 ?_
 refine jaF rfl zq (fun q5=>jap (jad ?_));refine jaF rfl zq (fun q6=>jap (jad ?_));refine jaF rfl zq (fun q7=>jap (jad ?_));refine Z9 ?_
 refine jaP rfl zq (fun hc=>?_) (fun hc=>?_)
 ·refine Z7 ?_;refine jac (h) rfl Tryz.func93 rfl jaa ?_;refine Zs ?_
  first
   |exact E80
   |(refine ⟨rfl,congrArg Value.bool ?_⟩
     first
      |exact absurd hbb zA
      |(rw [jaS,if_pos zD];done)
      |(rw [jaS,if_neg (fun e=>e zD)]
        first
         |(rw [if_pos (show a.butt=c.butt from hbt),←hx1,←hx2];exact E76)
         |(rw [if_neg (show¬a.butt=c.butt from hbt),if_neg (gz.1 zD),←hx1,←hx2];exact E78)))
 ·refine Z4 ?_;refine jan [Zr 0,Zr 1,Zr 4,Zr 5,Zk 2,Zp 3,Zk 6,Zp 7,Zp 8,Zp 9] zK zK (gE _) ?_;refine Z4 ?_;refine jag (Post:=fun v=> ∃x:Lp,v=lpV x∧x.ln=jcF b a) rfl zq zK (fun H' hH=>CallF.mono (f66_c m (sq hH) rd (st:=a.st) (jes ha).1 (jes ha).2) fun v h' ⟨e,x,e1,e2,_⟩=>⟨e,x,e1,e2⟩) ?_
  rintro v ⟨x1,rfl,hx1⟩;refine Zs ?_;refine jmW rfl zq ?_;refine jag (Post:=fun v=> ∃x:Lp,v=lpV x∧x.ln=jcF b c) rfl zq zK (fun H' hH=>CallF.mono (f66_c m (sq hH) rd (st:=c.st) (jes hcc).1 (jes hcc).2) fun v h' ⟨e,x,e1,e2,_⟩=>⟨e,x,e1,e2⟩) ?_
  rintro v ⟨x2,rfl,hx2⟩;refine Zs ?_;refine jmW rfl zq ?_;refine Z10 ?_
  refine jge rfl zq zK (fun hbt=>?_) (fun hbt=>?_)
  ·refine Z3 ?_;refine jbC [Zf 0,Zf 1,Zf 2,Zf 3,Zf 4,Zf 5,Zf 6,Zf 7,Zf 8,Zf 9,Zf 10,Zf 11,Zf 12,Zf 13,Zf 14,Zf 15,Zf 16,Zf 17] zK zK ?_;refine Z2 ?_
   refine jaA rfl zq (fun hc=>?_) (fun hc=>?_)
   ·refine Z17 ?_;refine jac (h) rfl Tryz.func93 rfl jaa ?_;refine Zs ?_
    first
     |exact E80
     |(refine ⟨rfl,congrArg Value.bool ?_⟩
       first
        |exact absurd hbb zA
        |(rw [jaS,if_pos zD];done)
        |(rw [jaS,if_neg (fun e=>e zD)]
          first
           |(rw [if_pos (show a.butt=c.butt from hbt),←hx1,←hx2];exact E76)
           |(rw [if_neg (show¬a.butt=c.butt from hbt),if_neg (gz.1 zD),←hx1,←hx2];exact E78)))
   ·refine Z3 ?_
    refine jbK rfl rfl (fun hc=>?_) (fun hc=>?_);all_goals
     refine Z2 ?_
     refine jak rfl rfl (fun hc=>?_) (fun hc=>?_);all_goals
      refine jge rfl rfl zK (fun hbb=>?_) (fun hbb=>?_)
      ·refine Z9 ?_;refine jac (h) rfl Tryz.func93 rfl jaa ?_;refine Zs ?_
       first
        |exact E80
        |(refine ⟨rfl,congrArg Value.bool ?_⟩
          first
           |exact absurd hbb zA
           |(rw [jaS,if_pos zD];done)
           |(rw [jaS,if_neg (fun e=>e zD)]
             first
              |(rw [if_pos (show a.butt=c.butt from hbt),←hx1,←hx2];exact E76)
              |(rw [if_neg (show¬a.butt=c.butt from hbt),if_neg (gz.1 zD),←hx1,←hx2];exact E78)))
      ·refine Z4 ?_
       refine jaA rfl rfl (fun hc=>?_) (fun hc=>?_);all_goals
        refine Z4 ?_;refine jac (h) rfl Tryz.func93 rfl jaa ?_;refine Zs ?_
        first
         |exact E80
         |(refine ⟨rfl,congrArg Value.bool ?_⟩
           first
            |exact absurd hbb zA
            |(rw [jaS,if_pos zD];done)
            |(rw [jaS,if_neg (fun e=>e zD)]
              first
               |(rw [if_pos (show a.butt=c.butt from hbt),←hx1,←hx2];exact E76)
               |(rw [if_neg (show¬a.butt=c.butt from hbt),if_neg (gz.1 zD),←hx1,←hx2];exact E78)))
  ·refine Z9 ?_
   refine jb7 (fun hc=>?_) (fun hc=>?_)
   ·first|replace hc:=of_decide_eq_true hc|replace hc:=of_decide_eq_false hc|skip
    refine Zs ?_
    have hab:=hc
    refine Z6 ?_;refine jag (Post:=fun v=>v= .bool (jaS b c a mc ma)) rfl zq zK (fun H' hH=>f177n_c m H' (rd.keeps (sq hH)) hcc ha (.inr (by cases e:c.butt;rfl;rw [hab,e] at hbt;exact absurd rfl hbt)) mc ma) ?_
    rintro v rfl;refine Z4 ?_;refine jac (h) rfl Tryz.func93 rfl jaa ?_;refine Zs ?_
    first
     |exact E80
     |(refine ⟨rfl,congrArg Value.bool ?_⟩
       first
        |exact absurd hbb zA
        |(rw [jaS,if_pos zD];done)
        |(rw [jaS,if_neg (fun e=>e zD)]
          first
           |(rw [if_pos (show a.butt=c.butt from hbt),←hx1,←hx2];exact E76)
           |(rw [if_neg (show¬a.butt=c.butt from hbt),if_neg (gz.1 zD),←hx1,←hx2];exact E78)))
   ·first|replace hc:=of_decide_eq_true hc|replace hc:=of_decide_eq_false hc|skip
    refine Z6 ?_
    refine jak rfl zq (fun hc=>?_) (fun hc=>?_)
    ·refine Z6 ?_
     refine jbG rfl zq (fun hc=>?_) (fun hc=>?_);all_goals
      refine Z3 ?_;refine jac (h) rfl Tryz.func93 rfl jaa ?_;refine Zs ?_
      first
       |exact E80
       |(refine ⟨rfl,congrArg Value.bool ?_⟩
         first
          |exact absurd hbb zA
          |(rw [jaS,if_pos zD];done)
          |(rw [jaS,if_neg (fun e=>e zD)]
            first
             |(rw [if_pos (show a.butt=c.butt from hbt),←hx1,←hx2];exact E76)
             |(rw [if_neg (show¬a.butt=c.butt from hbt),if_neg (gz.1 zD),←hx1,←hx2];exact E78)))
    ·refine Z7 ?_
     refine jaA rfl zq (fun hc=>?_) (fun hc=>?_)
     ·refine Z8 ?_;refine jac (h) rfl Tryz.func93 rfl jaa ?_;refine Zs ?_
      first
       |exact E80
       |(refine ⟨rfl,congrArg Value.bool ?_⟩
         first
          |exact absurd hbb zA
          |(rw [jaS,if_pos zD];done)
          |(rw [jaS,if_neg (fun e=>e zD)]
            first
             |(rw [if_pos (show a.butt=c.butt from hbt),←hx1,←hx2];exact E76)
             |(rw [if_neg (show¬a.butt=c.butt from hbt),if_neg (gz.1 zD),←hx1,←hx2];exact E78)))
     ·refine Z3 ?_
      refine jbK rfl rfl (fun hc=>?_) (fun hc=>?_);all_goals
       refine Z4 ?_;refine jac (h) rfl Tryz.func93 rfl jaa ?_;refine Zs ?_
       first
        |exact E80
        |(refine ⟨rfl,congrArg Value.bool ?_⟩
          first
           |exact absurd hbb zA
           |(rw [jaS,if_pos zD];done)
           |(rw [jaS,if_neg (fun e=>e zD)]
             first
              |(rw [if_pos (show a.butt=c.butt from hbt),←hx1,←hx2];exact E76)
              |(rw [if_neg (show¬a.butt=c.butt from hbt),if_neg (gz.1 zD),←hx1,←hx2];exact E78)))
end
end Go.Proofs
namespace Go.Lo
open Go.Proofs
def gp (n b i:Nat):Str:=if b.testBit i then [63] else (jjo (figN n) 45).getD i []
theorem meaS_in {s:Str} (h:z∈jdw s):0≤z∧z≤959:=by
 unfold jdw at h
 split at h
 ·rw [jkJ] at h
  obtain ⟨k,hk,rfl⟩:=gP.1 h
  have:=gT.1 (gV.1 hk).1
  omega
 ·cases h
end Go.Lo
namespace Go.Proofs
open Go.Lo
open Go.Conc (G)
section
variable [LaidO B]
theorem jn6 {p q:Prop} {w:Value} (h:IsB p w) (e:p↔q):IsB q w:=by
 rcases h with ⟨c,e2⟩|⟨c,e2⟩
 ·exact .inl ⟨e.1 c,e2⟩
 ·exact .inr ⟨fun x=>c (e.2 x),e2⟩
end
end Go.Proofs
namespace Go.Proofs
open Go.Lo
def boOf (n:Nat) (wr ms:List Int):Bo:=(List.range n).map fun (i:Nat)=>if (i:Int)∈wr then none else some (ms.getD i 0)
theorem jk2 (n:Nat) (wr ms:List Int):(boOf n wr ms).length=n:=by simp [boOf]
theorem jmx (h:i<n):xA (boOf n wr ms) i=if (i:Int)∈wr then none else some (ms.getD i 0):=by
 rw [xA,boOf,gC,ga,Gp h];rfl
def jjl (b:Tb) (wr ms:List Int):Prop:=(∀i:Nat,i<(jab b).length→(i:Int)∉wr→ms.getD i 0∈jdw (jcG b ((jab b).getD i default)))∧ ∀i j:Nat,i<j→j<(jab b).length→(i:Int)∉wr→(j:Int)∉wr→jaS b ((jab b).getD i default) ((jab b).getD j default) (ms.getD i 0) (ms.getD j 0)=true
section
variable {b:Tb} (ok:TbOk b) (ha:Asc wr) (hr: ∀x∈wr,0≤x∧x<((jab b).length:Int)) (hw:(wr.length:Int)≤b.wrong) (hl:jjl b wr ms)
include ha hr hw hl
include ok in
end
end Go.Proofs
namespace Go.Proofs
open Go.Lo
open Go.Conc (G)
section
variable [LaidO B]
theorem vals_len {c:Nat} {ys:List Value} (rd:RdS B h 1 (.slice p n c) n ys):ys.length=n:=by
 obtain ⟨p,c',e,hl,_⟩:=rd
 omega
theorem jej {c:Nat} (rd:RdS B h 1 (.slice p n c) n (jaq xs)):xs.length=n:=by
 have:=vals_len rd
 rwa [jaq,gU] at this
theorem len_btL (h:ms.length=12):LenIs (btL s ms) 13:=⟨jj5 s h⟩
theorem seg_btL (h:ms.length=12):Seg (btL s ms) 0 13 (btL s ms):=seg_all (jj5 s h)
theorem jon {z:Nat}:SetSeg (btL s ms) 0 [.int .u64 (z:Int)] (btL z ms):=⟨by simp [btL]⟩
theorem bt_meas (h:k<ms.length):SetSeg (btL s ms) (1+(k:Int).toNat*1) [.int .i64 v] (btL s (ms.set k v)):=by
 refine jcI (by rw [btL,gY,gU];omega) ?_
 rw [btL,btL,show 1+(k:Int).toNat*1=k+1 by omega,List.set_cons_succ,←jn9]
def msK (wr ms:List Int) (k:Nat):List Int:=(List.range 12).map fun j=>if j<k∧(j:Int)∉wr then ms.getD j 0 else 0
theorem jgJ (wr ms:List Int) (k:Nat):(msK wr ms k).length=12:=by simp [msK]
theorem msK_at (hj:j<12):(msK wr ms k).getD j 0=if j<k∧(j:Int)∉wr then ms.getD j 0 else 0:=by
 rw [msK,gC,ga,Gp hj];rfl
theorem msK_zero (wr ms:List Int):msK wr ms 0=List.replicate 12 0:=by
 rw [msK,List.eq_replicate_iff];exact ⟨by simp,fun x hx=>by
  obtain ⟨j,_,rfl⟩:=gP.1 hx
  rw [if_neg zO]⟩
theorem msK_no (h:(k:Int)∈wr):msK wr ms (k+1)=msK wr ms k:=by
 refine GY fun j _=>?_
 by_cases e:j=k
 ·subst e
  rw [if_neg (fun x=>x.2 h),if_neg (fun x=>x.2 h)]
 ·by_cases e2:j<k∧(j:Int)∉wr
  ·rw [if_pos e2,if_pos ⟨by omega,e2.2⟩]
  ·rw [if_neg e2,if_neg (fun x=>e2 ⟨by omega,x.2⟩)]
theorem msK_yes (hk:k<12) (h:(k:Int)∉wr):msK wr ms (k+1)=(msK wr ms k).set k (ms.getD k 0):=by
 refine vE (by simp [jgJ]) fun j h1 h2=>?_
 have hj:j<12:=by rw [jgJ] at h1;exact h1
 rw [List.getElem_set];simp only [msK,vw,List.getElem_range]
 by_cases e:k=j
 ·subst e
  rw [if_pos ⟨by omega,h⟩,if_pos rfl]
 ·rw [if_neg e];by_cases e2:j<k∧(j:Int)∉wr
  ·rw [if_pos e2,if_pos ⟨by omega,e2.2⟩]
  ·rw [if_neg e2,if_neg (fun x=>e2 ⟨by omega,x.2⟩)]
theorem joM:jbe (l++[z])=jbe l|||2^z.toNat:=by
 unfold jbe
 rw [vU];rfl
theorem jia (h: ∀z∈l,0≤z∧z<12):jbe l<4096:=by
 have:jbe l<2^12:=Nat.lt_pow_two_of_testBit _ fun i hi=>by
  rw [jbn fun z hz=>(h z hz).1,decide_eq_false_iff_not];intro e
  have:=(h _ e).2
  omega
 exact this
theorem jjD (h: ∀z∈l,0≤z):(jbe l).testBit k=true↔(k:Int)∈l:=by rw [jbn h,decide_eq_true_eq]
theorem f47_c (m:Md Tryz.prog B) (h:Hp) {b:Tb} (rd:RdTb B h b ps ns ks pw nw cw pb nb cb) {p1 p2:Option Addr} {c1 c2:Nat} (r1:RdS B h 3 (.slice p1 n c1) n (jay cl)) (r2:RdS B h 1 (.slice p2 n c2) n (jaq ms)) (hn:n≤100000) (hcs: ∀c∈cl,jeu b c=true):FnC m 47 #[tbV b ps ns ks pw nw cw pb nb cb,.slice p1 n c1,.slice p2 n c2] h fun v h'=>h'=h∧IsB (∀j i:Nat,j<i→i<n→jaS b (cl.getD j default) (cl.getD i default) (ms.getD j 0) (ms.getD i 0)=true) v:=by
 refine jae Tryz.func47 rfl rfl (l:=[tbV b ps ns ks pw nw cw pb nb cb,.slice p1 n c1,.slice p2 n c2,undef,undef,undef,undef,undef,undef,undef,undef,undef,undef,undef,undef,undef,undef,undef,undef,undef,undef,undef,undef,undef,undef,undef,undef,undef,undef,undef,undef,undef,undef,undef,undef,undef,undef,undef,undef]) rfl ?_
 intro cf cs K hK
 refine Z2 ?_
 refine jaF rfl zq (fun q3=>jap (jad ?_));refine Z8 ?_
 refine jaf (fun nn l h'=> ∃(i:Nat),nn=n-i∧(i≤n)∧(∀j k:Nat,j<k→k<i→jaS b (cl.getD j default) (cl.getD k default) (ms.getD j 0) (ms.getD k 0)=true)∧(∃U:Nat→Value,l=((tbV b ps ns ks pw nw cw pb nb cb)::(.slice p1 n c1)::(.slice p2 n c2)::(.pointer (some ⟨q3,0,none⟩))::(U 4)::(U 5)::(U 6)::(.int .i64 (i:Int))::vw31 U 8 []))∧h++[⟨true,q3,.cells (tbL b ps ns ks pw nw cw pb nb cb).toArray 25 (0,0)⟩]=h') _ ⟨0,rfl,by omega,fun j k hj hk=>by omega,exU rfl,rfl⟩ ?_;rintro nn l h' ⟨i,rfl,hi,hall,⟨U,rfl⟩,rfl⟩ hnext1;refine Z6 ?_
 refine jak rfl zq (fun hc=>?_) (fun hc=>?_)
 ·refine Z10 ?_
  refine jaf (fun nn l h'=> ∃(j:Nat),nn=i-j∧(j≤i)∧(∀a:Nat,a<j→jaS b (cl.getD a default) (cl.getD i default) (ms.getD a 0) (ms.getD i 0)=true)∧(∃U:Nat→Value,l=((tbV b ps ns ks pw nw cw pb nb cb)::(.slice p1 n c1)::(.slice p2 n c2)::(.pointer (some ⟨q3,0,none⟩))::(U 4)::(U 5)::(U 6)::(.int .i64 (i:Int))::(.int .i64 (j:Int))::(U 9)::(U 10)::vw28 U 11 []))∧h++[⟨true,q3,.cells (tbL b ps ns ks pw nw cw pb nb cb).toArray 25 (0,0)⟩]=h') _ ⟨0,rfl,by omega,fun a ha=>by omega,exU rfl,rfl⟩ ?_;rintro nn l h' ⟨j,rfl,hj,hj2,⟨U,rfl⟩,rfl⟩ hnext2;refine Z5 ?_
  refine jak rfl zq (fun hc=>?_) (fun hc=>?_)
  ·refine Z6 ?_
   have hcl:=r1.elen zA
   obtain ⟨b1,o1,rfl⟩:=r1.ptr zO
   obtain ⟨b2,o2,rfl⟩:=r2.ptr zO
   have ha:=hcs _ (jal (l:=cl) (i:=j) zO)
   have hb:=hcs _ (jal (l:=cl) (i:=i) zO)
   refine jan [Zp 1,Zp 2,Zp 3,Zp 5,Zp 6,Zp 7,Zp 9,Zp 10,Zp 11,Zp 13,Zp 14,Zp 15,Zr 0,Zr 4,Zr 8,Zr 12,Zr 16,Zk 17,Zp 18] zK zK (gE _) ?_;refine Z2 ?_;refine D11 ?_;refine Z2 ?_;refine D11 ?_;refine Z2 ?_;refine D11 ?_;refine Z2 ?_;refine D11 ?_;refine Zs ?_;refine jca (vs:=[.bool (cl.getD j default).butt,.int .i64 (cl.getD j default).line,.int .i64 (cl.getD j default).st]) rfl zq rfl (r1.eat j zO zO) ?_;refine jca (vs:=[.bool (cl.getD i default).butt,.int .i64 (cl.getD i default).line,.int .i64 (cl.getD i default).st]) rfl zq rfl (r1.eat i zO zO) ?_;refine jaI rfl zq (r2.iat j zO zO) ?_;refine jaI rfl zq (r2.iat i zO zO) ?_;refine jag (Post:=fun v=>IsB _ v) rfl zq zK (fun H' hH=>(f93_c m H' (rd.keeps (sq hH)) ha hb (ms.getD j 0) (ms.getD i 0)).mono fun v h' e=>⟨e.1,jn7 e.2⟩) ?_;rintro v (⟨hc,rfl⟩|⟨hc,rfl⟩)
   ·refine Zs ?_
    have hris:=hc
    refine Z10 ?_
    exact m.weak jaa (hnext2 _ _ _ zO ⟨j+1,rfl,by omega,fun a ha=>by
      by_cases e:a<j
      ·exact hj2 a e
      ·obtain rfl:a=j:=by omega
       exact hris,exU rfl,rfl⟩)
   ·refine Z9 ?_;refine jac (h) rfl Tryz.func47 rfl jaa ?_;refine Zs ?_
    exact ⟨rfl,IsB.no fun e=>hc (e j i zO zO)⟩
  ·refine Z9 ?_
   exact m.weak jaa (hnext1 _ _ _ zO ⟨i+1,rfl,by omega,fun a k ha hk=>by
     by_cases e:k<i
     ·exact hall a k ha e
     ·obtain rfl:k=i:=by omega
      exact hj2 a zO,exU rfl,rfl⟩)
 ·refine Z8 ?_;refine jac (h) rfl Tryz.func47 rfl jaa ?_;refine Zs ?_
  obtain rfl:n=i:=by omega
  exact ⟨rfl,IsB.yes hall⟩
theorem f85_c (m:Md Tryz.prog B) (h:Hp) {c:Nat} (rd:RdS B h 1 (.slice p n c) n (jaq xs)) (hn:n≤1000000) (x:Int):FnC m 85 #[.slice p n c,.int .i64 x] h fun v h'=>h'=h∧ ∃z:Int,v= .int .i64 z∧(0≤z↔x∈xs):=by
 refine jae Tryz.func85 rfl rfl (l:=(.slice p n c)::(.int .i64 x)::uu17) rfl ?_
 intro cf cs K hK
 refine Z12 ?_
 refine jaf (fun nn l h'=> ∃(k:Nat),nn=n-k∧(k≤n)∧(∀j:Nat,j<k→xs.getD j 0≠x)∧(∃U:Nat→Value,l=((.slice p n c)::(.int .i64 x)::vw5 U 2 ((.int .i64 (n:Int))::(.int .i64 (k:Int))::jpx U 9 [])))∧h=h') _ ⟨0,rfl,by omega,fun j hj=>by omega,exU rfl,rfl⟩ ?_;rintro nn l h' ⟨k,rfl,hk,hno,⟨U,rfl⟩,rfl⟩ hnext;refine Z2 ?_
 refine jak rfl zq (fun hc=>?_) (fun hc=>?_)
 ·refine Z12 ?_
  have hxl:=jej rd
  obtain ⟨pb,po,rfl⟩:=rd.ptr zO
  refine Z4 ?_;refine D11 ?_;refine D42 ?_
  refine jaA rfl zq (fun hc=>?_) (fun hc=>?_)
  ·have heq:=hc
   refine Z8 ?_;refine jac (h) rfl Tryz.func85 rfl jaa ?_;refine Zs ?_
   exact ⟨rfl,_,rfl,⟨fun _=>by rw [heq];exact jcx.2 ⟨k,by omega,rfl⟩,fun _=>by omega⟩⟩
  ·have hne:=hc
   refine Z8 ?_
   exact m.weak jaa (hnext _ _ _ zO ⟨k+1,rfl,by omega,fun j hj=>by
     by_cases e:j<k
     ·exact hno j e
     ·obtain rfl:j=k:=by omega
      exact fun e=>hne e.symm,exU rfl,rfl⟩)
 ·refine Z9 ?_;refine jac (h) rfl Tryz.func85 rfl jaa ?_;refine Zs ?_
  obtain rfl:n=k:=by omega
  have hxl:=jej rd
  exact ⟨rfl,_,rfl,⟨fun e=>absurd e zA,fun e=>by
   obtain ⟨j,hj,ej⟩:=jcx.1 e
   exact absurd ej (hno j zO)⟩⟩
theorem f38_c (m:Md Tryz.prog B) (h:Hp) {c:Nat} (rd:RdS B h 1 (.slice p n c) n (jaq xs)) (hn:n≤1000000) (x:Int):FnC m 38 #[.slice p n c,.int .i64 x] h fun v h'=>h'=h∧IsB (x∈xs) v:=by
 refine jae Tryz.func38 rfl rfl (l:=(.slice p n c)::(.int .i64 x)::uu7) rfl ?_
 intro cf cs K hK
 refine Z8 ?_;refine jag (Post:=fun v=> ∃z:Int,v= .int .i64 z∧(0≤z↔x∈xs)) rfl zq zK (fun H' hH=>f85_c m H' (rd.keeps (sq hH)) hn x) ?_
 rintro v ⟨z,rfl,hz⟩;refine Zs ?_
 refine jbG rfl zq (fun hc=>?_) (fun hc=>?_)
 ·refine Z3 ?_;refine jac (h) rfl Tryz.func38 rfl jaa ?_;refine Zs ?_
  exact ⟨rfl,IsB.yes (hz.1 zO)⟩
 ·refine Z3 ?_;refine jac (h) rfl Tryz.func38 rfl jaa ?_;refine Zs ?_
  exact ⟨rfl,IsB.no fun e=>absurd (hz.2 e) zO⟩
end
section
variable [LaidO B]
def jpB (b:Tb) (js:List Nat):List Ce:=js.map fun j=>(jab b).getD j default
def nowK (ms:List Int) (js:List Nat):List Int:=js.map fun j=>ms.getD j 0
theorem celK_new {b:Tb}:jpB b (js++[k])=jpB b js++[(jab b).getD k default]:=by rw [jpB,GA];rfl
theorem jhr {α:Type} {f:Nat→α} {d:α} (h:i<js.length):(js.map f).getD i d=f (js.getD i 0):=by
 rw [gC,ga,gD h,gC,gD h];rfl
theorem weakOff4 {h' F1 F2 F3 F4 W:Hp} [a:Off h' W F1] [b:Off F1 Z F2] [c:Off F2 Y F3] [d:Off F3 X F4] [s:SubH H F4]:Weak B h' (H++X++Y++Z++W):=
 (Weak.perm a.perm).trans (Weak.apps ((Weak.perm b.perm).trans (Weak.apps ((Weak.perm c.perm).trans (Weak.apps ((Weak.perm d.perm).trans (Weak.apps (Weak.sub s.sub) X)) Y)) Z)) W)
end
section
variable [LaidO B]
theorem rdE_app {vs ws:List Value} {ll mm:List (List Int)} (r:RdE B h vs ll) (s:RdE B h ws mm):RdE B h (vs++ws) (ll++mm):=by
 obtain ⟨⟨l1,c1⟩,r⟩:=r
 obtain ⟨⟨l2,c2⟩,s⟩:=s
 refine ⟨⟨by simp [l1,l2],fun u hu=>(gQ.1 hu).elim (c1 u) (c2 u)⟩,fun i hi=>?_⟩
 by_cases e:i<ll.length
 ·have e1:(ll++mm).getD i []=ll.getD i []:=by rw [gC,ge e,gC]
  have e2:(vs++ws).getD i undef=vs.getD i undef:=by rw [gC,ge zO,gC]
  rw [e1,e2];exact r i e
 ·rw [gJ] at hi
  have e1:(ll++mm).getD i []=mm.getD (i-ll.length) []:=by rw [gC,gm zO,gC]
  have e2:(vs++ws).getD i undef=ws.getD (i-ll.length) undef:=by rw [gC,gm zO,gC,l1]
  rw [e1,e2];exact s _ zO
def jit (b:Tb) (cl:List Ce) (wr ms:List Int) (v:Int) (i:Nat):Bool:=decide ((ms.length:Int)∈wr)||decide ((i:Int)∈wr)||jaS b (cl.getD i default) (cl.getD ms.length default) (ms.getD i 0) v
def jo0 (b:Tb) (cl:List Ce) (wr ms:List Int) (v:Int) (i:Nat):Bool:=(List.range i).all (jit b cl wr ms v)
theorem jdW (b:Tb) (cl:List Ce) (wr ms:List Int) (v:Int) (i:Nat):jo0 b cl wr ms v (i+1)=(jo0 b cl wr ms v i&&jit b cl wr ms v i):=by
 rw [jo0,GT,List.all_append];simp [jo0]
theorem jqT (b:Tb) (cl:List Ce) (wr ms:List Int) (v:Int):jo0 b cl wr ms v ms.length=jf3 b cl wr ms v:=rfl
def goJ (b:Tb) (cl:List Ce) (wr:List Int) (k:Nat) (ms:List Int) (j:Nat):List (List Int):=(((jev b cl wr ms.length).take j).filter (jf3 b cl wr ms)).flatMap fun v=>jgV b cl wr k (ms++[v])
theorem jrv (b:Tb) (cl:List Ce) (wr:List Int) (k:Nat) (ms:List Int):goJ b cl wr k ms (jev b cl wr ms.length).length=jgV b cl wr (k+1) ms:=by rw [goJ,GQ];rfl
section
variable {b:Tb} (hj:j<(jev b cl wr ms.length).length)
include hj
theorem goJ_yes (h:jf3 b cl wr ms ((jev b cl wr ms.length).getD j 0)=true):goJ b cl wr k ms (j+1)=goJ b cl wr k ms j++jgV b cl wr k (ms++[(jev b cl wr ms.length).getD j 0]):=by
 rw [goJ,ja5 _ j hj,GG,Gd];congr 1
 show List.flatMap _ (List.filter _ [(jev b cl wr ms.length).getD j 0])=_
 rw [vz h];simp
theorem goJ_no (h:jf3 b cl wr ms ((jev b cl wr ms.length).getD j 0)=false):goJ b cl wr k ms (j+1)=goJ b cl wr k ms j:=by
 rw [goJ,ja5 _ j hj,GG,Gd];show _++List.flatMap _ (List.filter _ [(jev b cl wr ms.length).getD j 0])=_
 rw [vy (by rw [h];decide)];simp [goJ]
end
def jij (b:Tb) (cl:List Ce) (wr:List Int):Nat→Nat→Nat
 |0,_=>1
 |k+1,n=>(jev b cl wr n).length*jij b cl wr k (n+1)
theorem jmZ (b:Tb) (cl:List Ce) (wr:List Int): ∀(k:Nat) (ms:List Int),(jgV b cl wr k ms).length≤jij b cl wr k ms.length
 |0,ms=>gL _
 |k+1,ms=>by
  have gen: ∀l:List Int,(l.flatMap fun v=>jgV b cl wr k (ms++[v])).length≤l.length*jij b cl wr k (ms.length+1):=by
   intro l
   induction l with
   |nil=>simp
   |cons v l ih=>
    have:=jmZ b cl wr k (ms++[v])
    rw [gJ,GX] at this
    rw [vW,gJ,gY,Nat.succ_mul];omega
  rw [jgV,jij];exact GJ (gen _) (vt (GU _ _) (gL _))
theorem goJ_le {b:Tb} (hj:j≤(jev b cl wr ms.length).length):(goJ b cl wr k ms j).length≤(jgV b cl wr (k+1) ms).length:=by
 rw [←jrv,goJ,goJ];obtain ⟨r,hr⟩: ∃r,jev b cl wr ms.length=(jev b cl wr ms.length).take j++r:=⟨_,(vA j _).symm⟩
 rw [GQ];conv=>rhs;rw [hr,GG,Gd,gJ]
 exact Nat.le_add_right _ _
theorem jpK {h' F1 F2 F3 F4 W:Hp} [a:Off h' W F1] [b:Off F1 Z F2] [c:Off F2 Y F3] [d:Off F3 X F4] [s:SubH H F4]:Weak B h' (H++X++(Y++Z++W)):=by
 rw [show H++X++(Y++Z++W)=H++X++Y++Z++W by simp only [gG]];exact weakOff4
def RdL (B:Array Obj) (S new:Hp) (v:Value) (L:List (List Int)):Prop:= ∃p c vs,v= .slice p L.length c∧ ∀H2:Hp,S.Sublist H2→new.Sublist H2→RdS B H2 1 (.slice p L.length c) L.length vs∧RdE B H2 vs L
theorem f107_c (m:Md Tryz.prog B) {b:Tb} (ok:TbOk b) (hwr:wr.length≤100): ∀(k:Nat) (h S:Hp) (ms:List Int) (wp mp:Option Addr) (wc mc:Nat),RawTb B h b ps ns ks pw nw cw pb nb cb→S.Sublist h→RdS B h 1 (.slice wp wr.length wc) wr.length (jaq wr)→RdS B S 1 (.slice mp ms.length mc) ms.length (jaq ms)→ms.length≤mc→ms.length+k=(jab b).length→jij b (jab b) wr k ms.length≤1000000→
  FnC m 107 #[tbV b ps ns ks pw nw cw pb nb cb,.slice wp wr.length wc,.slice mp ms.length mc] h fun v h'=> ∃new,h'=h++new∧RdL B S new v (jgV b (jab b) wr k ms):=by
 intro k
 induction k using Nat.strongRecOn
 rename_i k IH
 intro h S ms wp mp wc mc ra hS rW rM hmc hmk hpf
 have rd:=ra.rd ok
 have h12:=jba ok
 refine jae Tryz.func107 rfl rfl (l:=[tbV b ps ns ks pw nw cw pb nb cb,.slice wp wr.length wc,.slice mp ms.length mc,undef,undef,undef,undef,undef,undef,undef,undef,undef,undef,undef,undef,undef,undef,undef,undef,undef,undef,undef,undef,undef,undef,undef,undef,undef,undef,undef,undef,undef,undef,undef,undef,undef,undef,undef,undef,undef,undef,undef,undef,undef,undef,undef,undef,undef,undef,undef,undef,undef,undef,undef,undef,undef,undef,undef,undef,undef,undef,undef,undef,undef,undef,undef,undef,undef,undef,undef,undef,undef,undef,undef,undef,undef,undef,undef,undef,undef,undef,undef,undef,undef,undef,undef,undef,undef,undef,undef,undef,undef,undef,undef,undef,undef,undef,undef,undef,undef,undef]) rfl ?_
 intro cf cs K hK
 refine Z2 ?_
 refine jaF rfl zq (fun q3=>jap (jad ?_));refine Z5 ?_;refine jaJ rfl zq zK (Post:=fun w new=>OwnS 28 3 w (jab b).length (jay (jab b)) new) (fun H' hH=>f41_c _ H' (rd.keeps (sq hH))) ?_
 rintro w n7 o7;refine jaG (jad ?_);obtain ⟨p7,c7,rfl,hc7,r7⟩:=jas (B:=B) o7
 refine Z9 ?_
 refine jaA rfl zq (fun hc=>?_) (fun hc=>?_)
 ·obtain rfl:k=0:=by omega
  refine Z5 ?_
  refine jcb kdq rfl zq zA zA rfl (fun q24=>jap (jad ?_));refine Z3 ?_;refine jac (h++[⟨true,q24,.cells [.slice mp ms.length mc].toArray 26 (0,0)⟩]) rfl Tryz.func107 rfl jaa ?_;refine Zs ?_
  exact ⟨_,rfl,some ⟨q24,0,none⟩,1,[.slice mp ms.length mc],rfl,fun H2 s1 s2=>⟨((OwnS.full (t:=26) (k:=1) (q:=q24) (cs:=[Value.slice mp ms.length mc]) rfl).rd (B:=B) (gE _)).keeps s2,RdE.snoc RdE.nil rfl (rM.keeps s1) hmc⟩⟩
 ·obtain ⟨k,rfl⟩: ∃k1,k=k1+1:=⟨k-1,by omega⟩
  have hml:ms.length<(jab b).length:=by omega
  refine Z11 ?_
  refine jcb kdq rfl zq zA zA rfl (fun q27=>jap (jad ?_));refine Z7 ?_;refine jag (Post:=fun v=>IsB _ v) rfl zq zK (fun H' hH=>f44_c m H' _ (rW.keeps (sq hH)) zO) ?_
  rintro v (⟨hc,rfl⟩|⟨hc,rfl⟩);refine Zs ?_
  have hct:jev b (jab b) wr ms.length=[0]:=by rw [jev,if_pos hc]
  obtain ⟨cv,hcv⟩: ∃cv:Value,cv= .slice (some ⟨q27,0,none⟩) 1 1:=⟨_,rfl⟩
  obtain ⟨CC,hCC⟩: ∃CC:Hp,CC=[⟨true,q27,.cells [.int .i64 0].toArray 3 (0,0)⟩]:=⟨_,rfl⟩
  rw [←hcv,←hCC];obtain ⟨cp,cc,rfl,rC⟩: ∃cp cc,cv= .slice cp (jev b (jab b) wr ms.length).length cc∧RdS B CC 1 (.slice cp (jev b (jab b) wr ms.length).length cc) (jev b (jab b) wr ms.length).length (jaq (jev b (jab b) wr ms.length)):=⟨some ⟨q27,0,none⟩,1,by rw [hcv,hct];rfl,by rw [hct,hCC];exact (OwnS.full (t:=3) (q:=q27) (cs:=jaq [(0:Int)]) rfl).rd (gE _)⟩
  clear hcv hCC
  refine Z4 ?_
  rotate_left
  refine Zs ?_
  obtain ⟨b7,o7_,hp7⟩:=r7.ptr zO
  have r7b:=r7
  rw [hp7] at r7b
  obtain ⟨c,hcx⟩: ∃c,c=(jab b).getD ms.length default:=⟨_,rfl⟩
  have hht:jeu b c=true:=hcx▸(jiY hml).1
  have hct:jev b (jab b) wr ms.length=jdw (jcG b c):=by rw [jev,if_neg hc,hcx]
  refine Z4 ?_;refine jan [Zp 1,Zp 2,Zp 3,Zr 0,Zr 4,Zk 5,Zp 6,Zp 7,Zp 8,Zp 9,Zp 10] zK zK (gE _) ?_;refine Z2 ?_;refine ja1 rfl zq hp7 zO zO ?_;refine Zs ?_;refine jca (vs:=[.bool ((jab b).getD ms.length default).butt,.int .i64 ((jab b).getD ms.length default).line,.int .i64 ((jab b).getD ms.length default).st]) rfl zq rfl (r7b.eat ms.length zO zO) ?_
  rw [←hcx];refine jag (Post:=fun v=>v= .tuple [str (jcG b c),.bool true].toArray) rfl zq zK (fun H' hH=>by have:=f45_c m H' (rd.keeps (sq hH)) (bt:=c.butt) (li:=c.line) (st:=c.st);rw [show jeu b ⟨c.butt,c.line,c.st⟩=true from hht,if_pos rfl] at this;exact this) ?_;rintro v rfl;refine Z9 ?_;refine jaJ rfl zq zK (Post:=fun w new=>OwnS 3 1 w (jev b (jab b) wr ms.length).length (jaq (jev b (jab b) wr ms.length)) new) (fun H' hH=>by rw [hct];exact f46_c _ H' (jcG b c) (fig_sm ra.sm ok hht)) ?_
  rintro w CC oL;refine jaG (jad ?_);obtain ⟨cp,cc,rfl,_,rC⟩:=jas (B:=B) oL
  refine Z2 ?_
  all_goals
   refine Z10 ?_;refine m.weak (h':=h++[⟨true,q3,.cells (tbL b ps ns ks pw nw cw pb nb cb).toArray 25 (0,0)⟩]++n7++CC) jaa ?_
   have hc960:(jev b (jab b) wr ms.length).length≤960:=by
    unfold jev
    split<;>first|exact jkI _|decide
   refine jaf (fun nn l h'=> ∃(j:Nat) (op:Option Addr) (oc:Nat) (vs:List Value) (Mo Mi:Hp),nn=(jev b (jab b) wr ms.length).length-j∧(j≤(jev b (jab b) wr ms.length).length)∧(OwnS 26 1 (.slice op (goJ b (jab b) wr k ms j).length oc) (goJ b (jab b) wr k ms j).length vs Mo)∧(∀H2:Hp,S.Sublist H2→Mi.Sublist H2→RdE B H2 vs (goJ b (jab b) wr k ms j))∧(∃U:Nat→Value,l=((tbV b ps ns ks pw nw cw pb nb cb)::(.slice wp wr.length wc)::(.slice mp ms.length mc)::(.pointer (some ⟨q3,0,none⟩))::(U 4)::(U 5)::(U 6)::(.slice p7 (jab b).length c7)::(.int .i64 (ms.length:Int))::(.slice cp (jev b (jab b) wr ms.length).length cc)::(U 10)::(U 11)::(.slice op (goJ b (jab b) wr k ms j).length oc)::(.int .i64 (j:Int))::(U 14)::(U 15)::vw85 U 16 []))∧h++[⟨true,q3,.cells (tbL b ps ns ks pw nw cw pb nb cb).toArray 25 (0,0)⟩]++n7++CC++Mo++Mi=h') _ ⟨0,none,0,[],[],[],rfl,by omega,OwnS.nil,fun _ _ _=>RdE.nil,exU rfl,zS⟩ ?_;rintro nn l h' ⟨j,op,oc,vs,Mo,Mi,rfl,hj,how,hre,⟨U,rfl⟩,rfl⟩ hnext1;refine Z6 ?_
   refine jak rfl zq (fun hc=>?_) (fun hc=>?_)
   ·refine Z6 ?_
    have hjc:j<(jev b (jab b) wr ms.length).length:=by omega
    obtain ⟨v,hv⟩: ∃v,v=(jev b (jab b) wr ms.length).getD j 0:=⟨_,rfl⟩
    obtain ⟨cb_,co_,hcp⟩:=rC.ptr zO
    have rC2:=rC
    rw [hcp] at rC2
    refine Z9 ?_
    refine jaf (fun nn l h'=> ∃(i:Nat) (q:Bool),nn=ms.length-i∧(i≤ms.length)∧(q=jo0 b (jab b) wr ms v i)∧(∃U:Nat→Value,l=((tbV b ps ns ks pw nw cw pb nb cb)::(.slice wp wr.length wc)::(.slice mp ms.length mc)::(.pointer (some ⟨q3,0,none⟩))::(U 4)::(U 5)::(U 6)::(.slice p7 (jab b).length c7)::(.int .i64 (ms.length:Int))::(.slice cp (jev b (jab b) wr ms.length).length cc)::(U 10)::(U 11)::(.slice op (goJ b (jab b) wr k ms j).length oc)::(.int .i64 (j:Int))::(.bool q)::(.int .i64 (i:Int))::vw85 U 16 []))∧h++[⟨true,q3,.cells (tbL b ps ns ks pw nw cw pb nb cb).toArray 25 (0,0)⟩]++n7++CC++Mo++Mi=h') _ ⟨0,true,rfl,by omega,rfl,exU rfl,rfl⟩ ?_;rintro nn l h' ⟨i,q,rfl,hi,hq,⟨U,rfl⟩,rfl⟩ hnext2;refine Z5 ?_
    refine jak rfl zq (fun hc=>?_) (fun hc=>?_)
    ·refine Z5 ?_
     cases q
     have hni:(false&&jit b (jab b) wr ms v i)=false:=rfl
     all_goals
      refine jan [Zp 0,Zp 1,Zp 2,Zp 3,Zk 4,Zp 5,Zp 6,Zp 7,Zk 8,Zp 9,Zp 10,Zp 12,Zp 13,Zp 14,Zp 16,Zp 17,Zp 18,Zp 20,Zp 21,Zp 22,Zp 24,Zp 25,Zp 26,Zr 11,Zr 15,Zr 19,Zr 23,Zr 27,Zk 28,Zp 29,Zp 30,Zp 31] zK zK (gE _) ?_;refine Z2 ?_
     ·refine Z37 ?_
      exact m.weak jaa (hnext2 _ _ _ zO ⟨i+1,false,rfl,by omega,by rw [jdW,←hq,hni],exU rfl,rfl⟩)
     ·refine Z2 ?_;refine jag (Post:=fun v=>IsB _ v) rfl rfl zK (fun H' hH=>f44_c m H' _ (rW.keeps (sq hH)) zO) ?_
      rintro v (⟨hc,rfl⟩|⟨hc,rfl⟩)
      ·refine Zs ?_
       have hni:jit b (jab b) wr ms v i=true:=by rw [jit,decide_eq_true hc];rfl
       refine Z34 ?_
       exact E81
      ·refine Zs ?_
       have hkn: ¬(ms.length:Int)∈wr:=hc
       refine Z3 ?_;refine jag (Post:=fun v=>IsB _ v) rfl rfl zK (fun H' hH=>f44_c m H' _ (rW.keeps (sq hH)) zO) ?_
       rintro v (⟨hc,rfl⟩|⟨hc,rfl⟩)
       ·refine Zs ?_
        have hni:jit b (jab b) wr ms v i=true:=by rw [jit,decide_eq_true hc];simp
        refine Z30 ?_
        exact E81
       ·refine Zs ?_
        have hin: ¬(i:Int)∈wr:=hc
        obtain ⟨b7,o7_,hp7⟩:=r7.ptr zO
        have r7b:=r7
        rw [hp7] at r7b
        obtain ⟨mb,mo,hmp⟩:=rM.ptr zO
        have rM2:=rM.keeps hS
        rw [hmp] at rM2
        have hhi:=(jiY (b:=b) (i:=i) zO).1
        have hhm:=(jiY (b:=b) (i:=ms.length) hml).1
        refine Z4 ?_;refine ja1 rfl rfl hp7 zO zO ?_;refine Z2 ?_;refine ja1 rfl rfl hp7 zO zO ?_;refine Z2 ?_;refine ja1 rfl rfl hmp zO zO ?_;refine Z2 ?_;refine ja1 rfl rfl hcp zO zO ?_;refine jhx rfl rfl ?_;refine jca (vs:=[.bool ((jab b).getD i default).butt,.int .i64 ((jab b).getD i default).line,.int .i64 ((jab b).getD i default).st]) rfl rfl rfl (r7b.eat i zO zO) ?_;refine jca (vs:=[.bool ((jab b).getD ms.length default).butt,.int .i64 ((jab b).getD ms.length default).line,.int .i64 ((jab b).getD ms.length default).st]) rfl rfl rfl (r7b.eat ms.length zO zO) ?_;refine jaI rfl rfl (rM2.iat i zO zO) ?_;refine jaI rfl rfl (rC2.iat j zO zO) ?_
        rw [←hv];refine jag (Post:=fun v=>IsB _ v) rfl rfl zK (fun H' hH=>(f93_c m H' (rd.keeps (sq hH)) hhi hhm (ms.getD i 0) v).mono fun v h' e=>⟨e.1,jn7 e.2⟩) ?_;rintro v (⟨hc,rfl⟩|⟨hc,rfl⟩);refine Zs ?_
        have hni:jit b (jab b) wr ms v i=true:=by rw [jit,hc];simp
        rotate_left
        refine Zs ?_
        have hni:jit b (jab b) wr ms v i=false:=by rw [jit,decide_eq_false hkn,decide_eq_false hin];simpa using hc
        all_goals
         refine Z10 ?_
        ·exact m.weak jaa (hnext2 _ _ _ zO ⟨i+1,false,rfl,by omega,by rw [jdW,←hq,hni];rfl,exU rfl,rfl⟩)
        ·exact E81
    ·refine Z4 ?_
     obtain rfl:i=ms.length:=by omega
     rw [jqT] at hq
     cases q
     ·have hgj:=goJ_no (k:=k) hjc (by rw [←hv];exact hq.symm)
      refine Z11 ?_
      rw [←hgj];exact m.weak jaa (hnext1 _ _ _ zO ⟨j+1,op,oc,vs,Mo,Mi,rfl,by omega,by rw [hgj];exact how,by rw [hgj];exact hre,exU rfl,rfl⟩)
     ·have hgj:=goJ_yes (k:=k) hjc (by rw [←hv];exact hq.symm)
      rw [←hv] at hgj
      refine Z4 ?_
      have hgl:=goJ_le (k:=k) (j:=j+1) (show j+1≤(jev b (jab b) wr ms.length).length by omega)
      have hgo:=jmZ b (jab b) wr (k+1) ms
      have hgl0:=goJ_le (k:=k) (j:=j) (show j≤(jev b (jab b) wr ms.length).length by omega)
      rw [hgj,gJ] at hgl
      refine jbr (S:=h++[⟨true,q3,.cells (tbL b ps ns ks pw nw cw pb nb cb).toArray 25 (0,0)⟩]++n7++CC++Mi) [0,1,2,3,4,5,6,7,8,9,10,11,12,13,14] zK zK SubH.sub ?_;refine DrawT.split 3 10 zA (DrawT.split 5 10 zA ?_ ?_) ?_
      refine DrawT.leaf [Zp 0,Zp 2,Zp 4,Zp 6,Zp 7,Zp 8,Zr 1,Zr 9,Zk 3,Zk 5,Zk 10,Zk 11,Zk 12,Zk 13,Zp 14] zK ?_;refine Z5 ?_;refine ja1 rfl zq hcp zO zO ?_;refine Zs ?_;refine jaI rfl zq (rC2.iat j zO zO) ?_
      rw [←hv];refine jfa kdq rfl zq (fun q89=>jap (jad ?_));refine jcX rfl zq (OwnS.zero (q:=q89)) (rM.keeps hS).up (fun u hu=>jbf _ u hu) kdq zO zO (fun w91 n91 o91=>jad ?_);replace o91:OwnS 3 1 w91 ms.length (jaq ms) n91:=by simpa using o91
      obtain ⟨p91,c91,rfl,_⟩:=o91.len
      refine jcb kdq rfl zq zA zA rfl (fun q96=>jap (jad ?_));rotate_left
      refine DrawT.leaf [Zp 0,Zp 2,Zp 4,Zp 6,Zp 7,Zp 8,Zr 1,Zr 9,Zk 3,Zk 10,Zk 5,Zk 11,Zk 12,Zk 13,Zp 14] zK ?_;refine Z5 ?_;refine ja1 rfl zq hcp zO zO ?_;refine Zs ?_;refine jaI rfl zq (rC2.iat j zO zO) ?_
      rw [←hv];refine jfa kdq rfl zq (fun q89=>jap (jad ?_));refine jcb kdq rfl zq zA zA rfl (fun q96=>jap (jad ?_));refine jcX rfl zq (OwnS.zero (q:=q89)) (rM.keeps hS).up (fun u hu=>jbf _ u hu) kdq zO zO (fun w91 n91 o91=>jad ?_);replace o91:OwnS 3 1 w91 ms.length (jaq ms) n91:=by simpa using o91
      obtain ⟨p91,c91,rfl,_⟩:=o91.len
      rotate_left
      refine DrawT.leaf [Zp 0,Zp 2,Zp 4,Zp 6,Zp 7,Zp 8,Zr 1,Zr 9,Zk 10,Zk 3,Zk 5,Zk 11,Zk 12,Zk 13,Zp 14] zK ?_;refine Z5 ?_;refine ja1 rfl zq hcp zO zO ?_;refine Zs ?_;refine jaI rfl zq (rC2.iat j zO zO) ?_
      rw [←hv];refine jcb kdq rfl zq zA zA rfl (fun q96=>jap (jad ?_));refine jfa kdq rfl zq (fun q89=>jap (jad ?_));refine jcX rfl zq (OwnS.zero (q:=q89)) (rM.keeps hS).up (fun u hu=>jbf _ u hu) kdq zO zO (fun w91 n91 o91=>jad ?_);replace o91:OwnS 3 1 w91 ms.length (jaq ms) n91:=by simpa using o91
      obtain ⟨p91,c91,rfl,_⟩:=o91.len
      all_goals
       refine ja2 rfl zq rfl o91 kdq zO zO (fun w97 n97 o97=>jad ?_);replace o97:OwnS 3 1 w97 (ms++[v]).length (jaq (ms++[v])) n97:=by rw [jaZ,gJ];exact o97
       obtain ⟨p97,c97,rfl,_⟩:=o97.len
       have r97:=o97.rd (B:=B) (gE _)
       refine jaJ rfl zq zK (Post:=fun v' new=>RdL B n97 new v' (jgV b (jab b) wr k (ms++[v]))) (fun H' hH=>IH k zO H' n97 (ms++[v]) wp p97 wc c97 (ra.keeps (sq hH)) (sq hH) (rW.keeps (sq hH)) r97 o97.cap (by rw [gJ,GX];omega) (by rw [gJ,GX];exact GJ (Nat.le_mul_of_pos_left _ zO) hpf)) ?_;rintro v' n98 ⟨p98,c98,vs98,rfl,h98⟩;refine jaG (jad ?_);refine jcX rfl zq how (h98 _ SubH.sub SubH.sub).1 (fun u hu=>(h98 (n97++n98) (gI _ _) (gM _ _)).2.ones u hu) kdq zO zO (fun w99 n99 o99=>jad ?_);replace o99:OwnS 26 1 w99 (goJ b (jab b) wr k ms (j+1)).length (vs++vs98) n99:=by rw [hgj,gJ];exact o99
       obtain ⟨p99,c99,rfl,_⟩:=o99.len
       refine Z8 ?_;refine m.weak (h':=h++[⟨true,q3,.cells (tbL b ps ns ks pw nw cw pb nb cb).toArray 25 (0,0)⟩]++n7++CC++n99++(Mi++n97++n98)) jpK ?_
       exact hnext1 _ _ _ zO ⟨j+1,p99,c99,vs++vs98,n99,Mi++n97++n98,rfl,by omega,o99,fun H2 s1 s2=>by
         rw [hgj];have t1:=(gI (Mi++n97) n98).trans s2
         exact rdE_app (hre H2 s1 ((gI Mi n97).trans t1)) (h98 H2 ((gM Mi n97).trans t1) ((gM (Mi++n97) n98).trans s2)).2,exU rfl,rfl⟩
   ·refine Z4 ?_
    have hje:j=(jev b (jab b) wr ms.length).length:=by omega
    subst hje
    rw [jrv] at how hre⊢
    refine Z5 ?_;refine jac (h++Mo++Mi) rfl Tryz.func107 rfl jaa ?_;refine Zs ?_
    exact ⟨Mo++Mi,by rw [gG],op,oc,vs,rfl,fun H2 s1 s2=>⟨(how.rd (B:=B) (gE _)).keeps ((gI _ _).trans s2),hre H2 s1 ((gM _ _).trans s2)⟩⟩
end
section
variable [LaidO B]
structure Bp where
 wr:List Int
 ms:List Int
 pw:Option Addr
 pm:Option Addr
 cw:Nat
 cm:Nat
 deriving Inhabited
abbrev bpL (x:Bp):List Value:=[.slice x.pw x.wr.length x.cw,.slice x.pm x.ms.length x.cm]
instance:Enc Bp 2 where
 enc:=bpL
 len:=fun _=>rfl
 one:=fun _=>jcL rfl
def BpE (B:Array Obj) (H:Hp) (bs:List Bp) (L:List (List Int×List Int)):Prop:=(bs.map fun x=>(x.wr,x.ms))=L∧ ∀x∈bs,RdS B H 1 (.slice x.pw x.wr.length x.cw) x.wr.length (jaq x.wr)∧RdS B H 1 (.slice x.pm x.ms.length x.cm) x.ms.length (jaq x.ms)
theorem BpE.keeps {H':Hp} {bs:List Bp} (e:BpE B H bs L) (s:H.Sublist H'):BpE B H' bs L:=⟨e.1,fun x hx=>⟨(e.2 x hx).1.keeps s,(e.2 x hx).2.keeps s⟩⟩
theorem BpE.nil:BpE B H [] []:=⟨rfl,fun x hx=>by cases hx⟩
theorem BpE.append {bs cs:List Bp} (e:BpE B H bs L) (f:BpE B H cs M):BpE B H (bs++cs) (L++M):=⟨by rw [GA,e.1,f.1],fun x hx=>(gQ.1 hx).elim (e.2 x) (f.2 x)⟩
theorem BpE.len {bs:List Bp} (e:BpE B H bs L):bs.length=L.length:=by rw [←e.1,gU]
def RdB (B:Array Obj) (S new:Hp) (v:Value) (L:List (List Int×List Int)):Prop:= ∃p c bs,v= .slice p L.length c∧ ∀H2:Hp,S.Sublist H2→new.Sublist H2→RdS B H2 2 (.slice p L.length c) L.length (jay bs)∧BpE B H2 bs L
theorem withT_le {b:Tb}:(jcU b wr).length≤jij b (jab b) wr (jab b).length 0:=jmZ b (jab b) wr (jab b).length []
def jqB (b:Tb) (wr:List Int) (k:Nat):List (List Int×List Int):=((jcU b wr).take k).map fun ms=>(wr,ms)
theorem joY {b:Tb} (h:k<(jcU b wr).length):jqB b wr (k+1)=jqB b wr k++[(wr,(jcU b wr).getD k [])]:=by
 rw [jqB,ja5 _ k h,GA];rfl
theorem f65_c (m:Md Tryz.prog B) (h S:Hp) {b:Tb} (ra:RawTb B h b ps ns ks pw nw cw pb nb cb) (ok:TbOk b) (hwr:wr.length≤100) {wc:Nat} (hS:S.Sublist h) (rW:RdS B S 1 (.slice wp wr.length wc) wr.length (jaq wr)) (hpf:jij b (jab b) wr (jab b).length 0≤1000000):FnC m 65 #[tbV b ps ns ks pw nw cw pb nb cb,.slice wp wr.length wc] h fun v h'=> ∃new,h'=h++new∧RdB B S new v ((jcU b wr).map fun ms=>(wr,ms)):=by
 refine jae Tryz.func65 rfl rfl (l:=[tbV b ps ns ks pw nw cw pb nb cb,.slice wp wr.length wc,undef,undef,undef,undef,undef,undef,undef,undef,undef,undef,undef,undef,undef,undef,undef,undef,undef,undef,undef,undef,undef,undef,undef,undef,undef]) rfl ?_
 intro cf cs K hK
 refine Z2 ?_
 refine jaF rfl zq (fun q2=>jap (jad ?_));refine Z10 ?_;refine jaJ rfl zq zK (Post:=fun v new=>RdL B [] new v (jcU b wr)) (fun H' hH=>f107_c m ok hwr (jab b).length H' [] [] wp none wc 0 (ra.keeps (sq hH)) (Ge _) ((rW.keeps hS).keeps (sq hH)) ⟨none,0,rfl,rfl,.inl ⟨rfl,rfl⟩⟩ (Vr _) zS hpf) ?_
 rintro v nL ⟨pL,cL,vsL,rfl,hL⟩;refine jaG (jad ?_);obtain ⟨rLv,rLe⟩:=hL nL (Ge _) (gE _)
 have hwl:=withT_le (b:=b) (wr:=wr)
 refine Z8 ?_
 refine jaf (fun nn l h'=> ∃(k:Nat) (op:Option Addr) (oc:Nat) (bs:List Bp) (Mo:Hp),nn=(jcU b wr).length-k∧(k≤(jcU b wr).length)∧(OwnS 105 2 (.slice op k oc) k (jay bs) Mo)∧(∀H2:Hp,S.Sublist H2→nL.Sublist H2→BpE B H2 bs (jqB b wr k))∧(∃U:Nat→Value,l=((tbV b ps ns ks pw nw cw pb nb cb)::(.slice wp wr.length wc)::(U 2)::(U 3)::(U 4)::(.slice op k oc)::(.slice pL (jcU b wr).length cL)::(.int .i64 (k:Int))::(U 8)::vw18 U 9 []))∧h++[⟨true,q2,.cells (tbL b ps ns ks pw nw cw pb nb cb).toArray 25 (0,0)⟩]++nL++Mo=h') _ ⟨0,none,0,[],[],rfl,by omega,OwnS.nil,fun _ _ _=>BpE.nil,exU rfl,zS⟩ ?_;rintro nn l h' ⟨k,op,oc,bs,Mo,rfl,hk,how,hbe,⟨U,rfl⟩,rfl⟩ hnext;refine Z6 ?_
 refine jak rfl zq (fun hc=>?_) (fun hc=>?_)
 ·refine Z5 ?_
  have hkl:k<(jcU b wr).length:=by omega
  obtain ⟨pk,ck,ek,rk⟩:=rLe.2 k hkl
  obtain ⟨bL,oL,hpL⟩:=rLv.ptr zO
  have rL2:=rLv
  rw [hpL] at rL2
  refine Z5 ?_;refine ja1 rfl zq hpL zO zO ?_;refine jaI (v:= .slice pk ((jcU b wr).getD k []).length ck) rfl zq (by rw [←ek];exact rL2.vat k zO zO) ?_;refine D39 ?_
  refine jcb kdq rfl zq zA zA rfl (fun q24=>jap (jad ?_));refine ja2 rfl zq rfl how kdq zO zO (fun w9 n9 o9=>jad ?_);replace o9:OwnS 105 2 w9 (k+1) (jay (bs++[⟨wr,(jcU b wr).getD k [],wp,pk,wc,ck⟩])) n9:=by rw [jaX];exact o9
  obtain ⟨p9,c9,rfl,_⟩:=o9.len
  refine Z8 ?_;refine m.weak (h':=h++[⟨true,q2,.cells (tbL b ps ns ks pw nw cw pb nb cb).toArray 25 (0,0)⟩]++nL++n9) jfM ?_
  exact hnext _ _ _ zO ⟨k+1,p9,c9,bs++[⟨wr,(jcU b wr).getD k [],wp,pk,wc,ck⟩],n9,rfl,by omega,o9,fun H2 s1 s2=>by
    rw [joY hkl];refine (hbe H2 s1 s2).append ⟨rfl,fun x hx=>?_⟩
    obtain rfl:=gr.1 hx
    exact ⟨rW.keeps s1,rk.keeps s2⟩,exU rfl,rfl⟩
 ·refine Z4 ?_
  obtain rfl:k=(jcU b wr).length:=by omega
  refine Z5 ?_;refine jac (h++nL++Mo) rfl Tryz.func65 rfl jaa ?_;refine Zs ?_
  exact ⟨nL++Mo,by rw [gG],op,oc,bs,by rw [gU],fun H2 s1 s2=>⟨by rw [gU];exact (how.rd (B:=B) (gE _)).keeps ((gM _ _).trans s2),by have:=hbe H2 s1 ((gI _ _).trans s2);rw [jqB,GQ] at this;exact this⟩⟩
end
section
variable [LaidO B]
theorem jlk (most:Nat): ∀n,(jar most n).length≤2^n
 |0=>gL _
 |n+1=>by
  have h:=jlk most n
  rw [jar,gJ,gU,Nat.pow_succ];have:=GU (fun l:List Int=>decide (l.length<most)) (jar most n)
  omega
theorem jkk (most:Nat) (h:n≤12):(jar most n).length≤4096:=GJ (jlk most n) (GV zA h)
theorem jk9 {h' F1 F2 F3:Hp} [a:Off h' Z F1] [b:Off F1 Y F2] [c:Off F2 X F3] [s:SubH H F3]:Weak B h' (H++X++(Y++Z)):=by
 rw [show H++X++(Y++Z)=H++X++Y++Z by simp only [gG]];exact jnl
def jhC (most i k:Nat):List (List Int):=jar most i++(((jar most i).take k).filter fun l=>decide (l.length<most)).map (· ++[(i:Int)])
theorem jll (most i:Nat):jhC most i 0=jar most i:=by simp [jhC]
theorem jkl (most i:Nat):jhC most i (jar most i).length=jar most (i+1):=by rw [jhC,GQ];rfl
theorem subK_le:(jhC most i k).length≤2*(jar most i).length:=by
 rw [jhC,gJ,gU];have h1:=GU (fun l:List Int=>decide (l.length<most)) ((jar most i).take k)
 have h2:((jar most i).take k).length≤(jar most i).length:=by rw [GH];omega
 omega
theorem subK_at (h:j<(jar most i).length):(jhC most i k).getD j []=(jar most i).getD j []:=by
 rw [jhC,gC,ge h,gC]
section
variable (hk:k<(jar most i).length)
include hk
theorem subK_yes (h:((jar most i).getD k []).length<most):jhC most i (k+1)=jhC most i k++[(jar most i).getD k []++[(i:Int)]]:=by
 rw [jhC,ja5 _ k hk,GG,GA,jhC,gG];congr 2
 show List.map _ (List.filter _ [(jar most i).getD k []])=_
 rw [vz (by simpa using h)];rfl
theorem subK_no (h: ¬((jar most i).getD k []).length<most):jhC most i (k+1)=jhC most i k:=by
 rw [jhC,ja5 _ k hk,GG,GA,jhC];show _++(_++List.map _ (List.filter _ [(jar most i).getD k []]))=_
 rw [vy (by simpa using h)];simp
end
def jd2 (b:Tb) (k:Nat):List (List Int×List Int):=((jar b.wrong.toNat (jab b).length).take k).flatMap fun wr=>(jcU b wr).map fun ms=>(wr,ms)
theorem jfI {b:Tb} (h:k<(jar b.wrong.toNat (jab b).length).length):jd2 b (k+1)=jd2 b k++((jcU b ((jar b.wrong.toNat (jab b).length).getD k [])).map fun ms=>((jar b.wrong.toNat (jab b).length).getD k [],ms)):=by
 rw [jd2,ja5 _ k h,Gd];show _++List.flatMap _ [(jar b.wrong.toNat (jab b).length).getD k []]=_
 rw [vW,List.flatMap_nil,gd];rfl
theorem jj7 (b:Tb):jd2 b (jar b.wrong.toNat (jab b).length).length=jaR b:=by rw [jd2,GQ];rfl
theorem jdo {b:Tb} (ok:TbOk b):(jaR b).length=(jah b).length:=by
 rw [(jdA b ok.wrong.1).length_eq,gU];rfl
theorem jr0 {b:Tb} (k:Nat):(jd2 b k).length≤(jaR b).length:=by
 rw [←jj7,jd2,jd2,GQ];obtain ⟨r,hr⟩: ∃r,jar b.wrong.toNat (jab b).length=(jar b.wrong.toNat (jab b).length).take k++r:=⟨_,(vA k _).symm⟩
 conv=>rhs;rw [hr,Gd,gJ]
 exact Nat.le_add_right _ _
theorem jpq {b:Tb} (ok:TbOk b):jaR b=[]↔jah b=[]:=by rw [←GO,jdo ok,GO]
theorem jnL {b:Tb} (wr:List Int): ∀(k n:Nat),n+k=(jab b).length→jij b (jab b) wr k n≤jet ((cdT b).drop n)
 |0,n,h=>by rw [jij,gS (by rw [jat];omega)];exact gL _
 |k+1,n,h=>by
  have hn:n<(cdT b).length:=by rw [jat];omega
  have ih:=jnL (b:=b) wr k (n+1) zO
  have e:(cdT b).drop n=dA (cdT b) n::(cdT b).drop (n+1):=by
   rw [dA,gC,gD hn,GB];exact vR hn
  rw [e,jij];rw [jet];rw [jrX zO];refine vt ?_ ih
  unfold jev
  split
  ·exact xG 1 _
  ·exact Vv 1 _
theorem jkz {b:Tb} (ok:TbOk b) (wr:List Int):jij b (jab b) wr (jab b).length 0≤1000000:=by
 have h1:=jnL (b:=b) wr (jab b).length 0 zO
 rw [List.drop_zero] at h1
 have:=jnK ok
 omega
theorem f63_c (m:Md Tryz.prog B) (h:Hp) {c:Nat} (rd:RdS B h 1 (.slice p n c) n (jaq (jbk n))) (hn:n≤12) (most:Nat) (hm:most≤1000):FnC m 63 #[.slice p n c,.int .i64 (most:Int)] h fun v h'=> ∃new,h'=h++new∧RdL B [] new v (jar most n):=by
 refine jae Tryz.func63 rfl rfl (l:=[.slice p n c,.int .i64 (most:Int),undef,undef,undef,undef,undef,undef,undef,undef,undef,undef,undef,undef,undef,undef,undef,undef,undef,undef,undef,undef,undef,undef,undef,undef,undef,undef,undef,undef,undef,undef,undef,undef,undef,undef,undef,undef,undef,undef,undef,undef,undef,undef,undef,undef]) rfl ?_
 intro cf cs K hK
 refine Z6 ?_
 refine jcb kdq rfl zq zA zA rfl (fun q9=>jap (jad ?_));refine Z8 ?_
 have o9:OwnS 26 1 (.slice (some ⟨q9,0,none⟩) 1 1) 1 [Value.slice none 0 0] [⟨true,q9,.cells [Value.slice none 0 0].toArray 26 (0,0)⟩]:=OwnS.full rfl
 have e9:RdE B [] [Value.slice none 0 0] [[]]:=RdE.snoc RdE.nil rfl ⟨none,0,rfl,rfl,.inl ⟨rfl,rfl⟩⟩ (gL 0)
 refine jaf (fun nn l h'=> ∃(i:Nat) (op:Option Addr) (oc:Nat) (vs:List Value) (Mo Mi:Hp),nn=n-i∧(i≤n)∧(OwnS 26 1 (.slice op (jar most i).length oc) (jar most i).length vs Mo)∧(RdE B Mi vs (jar most i))∧(∃U:Nat→Value,l=((.slice p n c)::(.int .i64 (most:Int))::(U 2)::(U 3)::(U 4)::(.slice op (jar most i).length oc)::(.int .i64 (i:Int))::vw39 U 7 []))∧h++Mo++Mi=h') _ ⟨0,some ⟨q9,0,none⟩,1,[Value.slice none 0 0],[⟨true,q9,.cells [Value.slice none 0 0].toArray 26 (0,0)⟩],[],rfl,by omega,o9,e9,exU rfl,zS⟩ ?_;rintro nn l h' ⟨i,op,oc,vs,Mo,Mi,rfl,hi,how,hre,⟨U,rfl⟩,rfl⟩ hnext1;refine Z6 ?_
 refine jak rfl zq (fun hc=>?_) (fun hc=>?_)
 ·refine Z6 ?_
  have hin:i<n:=by omega
  have hsl:=jkk most (n:=i) zO
  refine Z10 ?_
  rw [←jll] at how hre
  rw [show (.slice op (jar most i).length oc:Value)= .slice op (jhC most i 0).length oc by rw [jll]];refine jaf (fun nn l h'=> ∃(k:Nat) (op2:Option Addr) (oc2:Nat) (vs2:List Value) (Mo2 Mi2:Hp),nn=(jar most i).length-k∧(k≤(jar most i).length)∧(OwnS 26 1 (.slice op2 (jhC most i k).length oc2) (jhC most i k).length vs2 Mo2)∧(RdE B Mi2 vs2 (jhC most i k))∧(∃U:Nat→Value,l=((.slice p n c)::(.int .i64 (most:Int))::(U 2)::(U 3)::(U 4)::(.slice op2 (jhC most i k).length oc2)::(.int .i64 (i:Int))::(.int .i64 ((jar most i).length:Int))::(.int .i64 (k:Int))::vw37 U 9 []))∧h++Mo2++Mi2=h') _ ⟨0,op,oc,vs,Mo,Mi,rfl,by omega,how,hre,exU rfl,rfl⟩ ?_;rintro nn l h' ⟨k,op2,oc2,vs2,Mo2,Mi2,rfl,hk,how2,hre2,⟨U,rfl⟩,rfl⟩ hnext2;refine Z5 ?_
  refine jak rfl zq (fun hc=>?_) (fun hc=>?_)
  ·refine Z6 ?_
   have hkl:k<(jar most i).length:=by omega
   have hsl2:=subK_le (most:=most) (i:=i) (k:=k)
   have hkl2:k<(jhC most i k).length:=by rw [jhC,gJ];omega
   obtain ⟨pk,ck,ek,rk⟩:=hre2.2 k hkl2
   rw [subK_at hkl] at ek rk
   have rov:=how2.rd (B:=B) (gE _)
   obtain ⟨b5,o5,hp5⟩:=rov.ptr zO
   have ro2:=rov
   rw [hp5] at ro2
   have hlk:((jar most i).getD k []).length≤12:=by
    obtain ⟨_,h2,h3⟩:=jb9 (jal (l:=jar most i) hkl)
    exact GJ (ji6 (n:=i) h2 h3) zO
   refine Z3 ?_;refine ja1 rfl zq hp5 zO zO ?_;refine jaI (v:= .slice pk ((jar most i).getD k []).length ck) rfl zq (by rw [←ek];exact ro2.vat k zO zO) ?_;refine Z2 ?_
   refine jak rfl zq (fun hc=>?_) (fun hc=>?_)
   ·have hsk:=subK_yes hkl zO
    refine Z2 ?_
    obtain ⟨pb,po,hpp⟩:=rd.ptr zO
    have rd2:=rd
    rw [hpp] at rd2
    refine jbr (S:=h++Mi2) [0,1,2,3,4,5,6,7,8,9,10,11,12,13,14,15] zK zK SubH.sub ?_;refine DrawT.split 1 5 zA (DrawT.split 1 11 zA (DrawT.split 5 11 zA (DrawT.split 6 11 zA ?_ ?_) ?_) ?_) (DrawT.split 1 11 zA (DrawT.split 6 11 zA ?_ ?_) (DrawT.split 5 11 zA ?_ ?_))
    refine DrawT.leaf [Zp 0,Zp 2,Zp 3,Zp 4,Zp 7,Zp 8,Zp 9,Zr 10,Zk 1,Zk 5,Zk 6,Zk 11,Zk 12,Zk 13,Zk 14,Zp 15] zK ?_;refine Z3 ?_;refine ja1 rfl zq hp5 zO zO ?_;refine Z2 ?_;refine ja1 rfl zq hpp zO zO ?_;refine jaI rfl zq (rd2.iat i zO zO) ?_
    rw [jcY hin];refine jfa kdq rfl zq (fun q31=>jap (jad ?_));refine jaI (v:= .slice pk ((jar most i).getD k []).length ck) rfl zq (by rw [←ek];exact ro2.vat k zO zO) ?_;refine jcX rfl zq (OwnS.zero (q:=q31)) rk.up (fun u hu=>jbf _ u hu) kdq zO zO (fun w91 n91 o91=>jad ?_);replace o91:OwnS 3 1 w91 ((jar most i).getD k []).length (jaq ((jar most i).getD k [])) n91:=by simpa using o91
    obtain ⟨p91,c91,rfl,_⟩:=o91.len
    refine jcb kdq rfl zq zA zA rfl (fun q41=>jap (jad ?_));rotate_left
    refine DrawT.leaf [Zp 0,Zp 2,Zp 3,Zp 4,Zp 7,Zp 8,Zp 9,Zr 10,Zk 1,Zk 5,Zk 11,Zk 6,Zk 12,Zk 13,Zk 14,Zp 15] zK ?_;refine Z3 ?_;refine ja1 rfl zq hp5 zO zO ?_;refine Z2 ?_;refine ja1 rfl zq hpp zO zO ?_;refine jaI rfl zq (rd2.iat i zO zO) ?_
    rw [jcY hin];refine jfa kdq rfl zq (fun q31=>jap (jad ?_));refine jaI (v:= .slice pk ((jar most i).getD k []).length ck) rfl zq (by rw [←ek];exact ro2.vat k zO zO) ?_;refine jcb kdq rfl zq zA zA rfl (fun q41=>jap (jad ?_));refine jcX rfl zq (OwnS.zero (q:=q31)) rk.up (fun u hu=>jbf _ u hu) kdq zO zO (fun w91 n91 o91=>jad ?_);replace o91:OwnS 3 1 w91 ((jar most i).getD k []).length (jaq ((jar most i).getD k [])) n91:=by simpa using o91
    obtain ⟨p91,c91,rfl,_⟩:=o91.len
    rotate_left
    refine DrawT.leaf [Zp 0,Zp 2,Zp 3,Zp 4,Zp 7,Zp 8,Zp 9,Zr 10,Zk 1,Zk 11,Zk 5,Zk 6,Zk 12,Zk 13,Zk 14,Zp 15] zK ?_;refine Z3 ?_;refine ja1 rfl zq hp5 zO zO ?_;refine Z2 ?_;refine ja1 rfl zq hpp zO zO ?_;refine jaI rfl zq (rd2.iat i zO zO) ?_
    rw [jcY hin];refine jfa kdq rfl zq (fun q31=>jap (jad ?_));refine jcb kdq rfl zq zA zA rfl (fun q41=>jap (jad ?_));refine jaI (v:= .slice pk ((jar most i).getD k []).length ck) rfl zq (by rw [←ek];exact ro2.vat k zO zO) ?_;refine jcX rfl zq (OwnS.zero (q:=q31)) rk.up (fun u hu=>jbf _ u hu) kdq zO zO (fun w91 n91 o91=>jad ?_);replace o91:OwnS 3 1 w91 ((jar most i).getD k []).length (jaq ((jar most i).getD k [])) n91:=by simpa using o91
    obtain ⟨p91,c91,rfl,_⟩:=o91.len
    rotate_left
    refine DrawT.leaf [Zp 0,Zp 2,Zp 3,Zp 4,Zp 7,Zp 8,Zp 9,Zr 10,Zk 11,Zk 1,Zk 5,Zk 6,Zk 12,Zk 13,Zk 14,Zp 15] zK ?_;refine Z3 ?_;refine ja1 rfl zq hp5 zO zO ?_;refine Z2 ?_;refine ja1 rfl zq hpp zO zO ?_;refine jaI rfl zq (rd2.iat i zO zO) ?_
    rw [jcY hin];refine jcb kdq rfl zq zA zA rfl (fun q41=>jap (jad ?_));refine jfa kdq rfl zq (fun q31=>jap (jad ?_));refine jaI (v:= .slice pk ((jar most i).getD k []).length ck) rfl zq (by rw [←ek];exact ro2.vat k zO zO) ?_;refine jcX rfl zq (OwnS.zero (q:=q31)) rk.up (fun u hu=>jbf _ u hu) kdq zO zO (fun w91 n91 o91=>jad ?_);replace o91:OwnS 3 1 w91 ((jar most i).getD k []).length (jaq ((jar most i).getD k [])) n91:=by simpa using o91
    obtain ⟨p91,c91,rfl,_⟩:=o91.len
    rotate_left
    refine DrawT.leaf [Zp 0,Zp 2,Zp 3,Zp 4,Zp 7,Zp 8,Zp 9,Zr 10,Zk 5,Zk 1,Zk 6,Zk 11,Zk 12,Zk 13,Zk 14,Zp 15] zK ?_;refine Z3 ?_;refine ja1 rfl zq hp5 zO zO ?_;refine Z2 ?_;refine ja1 rfl zq hpp zO zO ?_;refine jaI rfl zq (rd2.iat i zO zO) ?_
    rw [jcY hin];refine jaI (v:= .slice pk ((jar most i).getD k []).length ck) rfl zq (by rw [←ek];exact ro2.vat k zO zO) ?_;refine jfa kdq rfl zq (fun q31=>jap (jad ?_));refine jcX rfl zq (OwnS.zero (q:=q31)) rk.up (fun u hu=>jbf _ u hu) kdq zO zO (fun w91 n91 o91=>jad ?_);replace o91:OwnS 3 1 w91 ((jar most i).getD k []).length (jaq ((jar most i).getD k [])) n91:=by simpa using o91
    obtain ⟨p91,c91,rfl,_⟩:=o91.len
    refine jcb kdq rfl zq zA zA rfl (fun q41=>jap (jad ?_));rotate_left
    refine DrawT.leaf [Zp 0,Zp 2,Zp 3,Zp 4,Zp 7,Zp 8,Zp 9,Zr 10,Zk 5,Zk 1,Zk 11,Zk 6,Zk 12,Zk 13,Zk 14,Zp 15] zK ?_;refine Z3 ?_;refine ja1 rfl zq hp5 zO zO ?_;refine Z2 ?_;refine ja1 rfl zq hpp zO zO ?_;refine jaI rfl zq (rd2.iat i zO zO) ?_
    rw [jcY hin];refine jaI (v:= .slice pk ((jar most i).getD k []).length ck) rfl zq (by rw [←ek];exact ro2.vat k zO zO) ?_;refine jfa kdq rfl zq (fun q31=>jap (jad ?_));refine jcb kdq rfl zq zA zA rfl (fun q41=>jap (jad ?_));refine jcX rfl zq (OwnS.zero (q:=q31)) rk.up (fun u hu=>jbf _ u hu) kdq zO zO (fun w91 n91 o91=>jad ?_);replace o91:OwnS 3 1 w91 ((jar most i).getD k []).length (jaq ((jar most i).getD k [])) n91:=by simpa using o91
    obtain ⟨p91,c91,rfl,_⟩:=o91.len
    rotate_left
    refine DrawT.leaf [Zp 0,Zp 2,Zp 3,Zp 4,Zp 7,Zp 8,Zp 9,Zr 10,Zk 5,Zk 11,Zk 1,Zk 6,Zk 12,Zk 13,Zk 14,Zp 15] zK ?_;refine Z3 ?_;refine ja1 rfl zq hp5 zO zO ?_;refine Z2 ?_;refine ja1 rfl zq hpp zO zO ?_;refine jaI rfl zq (rd2.iat i zO zO) ?_
    rw [jcY hin];refine jaI (v:= .slice pk ((jar most i).getD k []).length ck) rfl zq (by rw [←ek];exact ro2.vat k zO zO) ?_;refine jcb kdq rfl zq zA zA rfl (fun q41=>jap (jad ?_));refine jfa kdq rfl zq (fun q31=>jap (jad ?_));refine jcX rfl zq (OwnS.zero (q:=q31)) rk.up (fun u hu=>jbf _ u hu) kdq zO zO (fun w91 n91 o91=>jad ?_);replace o91:OwnS 3 1 w91 ((jar most i).getD k []).length (jaq ((jar most i).getD k [])) n91:=by simpa using o91
    obtain ⟨p91,c91,rfl,_⟩:=o91.len
    rotate_left
    refine DrawT.leaf [Zp 0,Zp 2,Zp 3,Zp 4,Zp 7,Zp 8,Zp 9,Zr 10,Zk 11,Zk 5,Zk 1,Zk 6,Zk 12,Zk 13,Zk 14,Zp 15] zK ?_;refine Z3 ?_;refine ja1 rfl zq hp5 zO zO ?_;refine Z2 ?_;refine ja1 rfl zq hpp zO zO ?_;refine jaI rfl zq (rd2.iat i zO zO) ?_
    rw [jcY hin];refine jcb kdq rfl zq zA zA rfl (fun q41=>jap (jad ?_));refine jaI (v:= .slice pk ((jar most i).getD k []).length ck) rfl zq (by rw [←ek];exact ro2.vat k zO zO) ?_;refine jfa kdq rfl zq (fun q31=>jap (jad ?_));refine jcX rfl zq (OwnS.zero (q:=q31)) rk.up (fun u hu=>jbf _ u hu) kdq zO zO (fun w91 n91 o91=>jad ?_);replace o91:OwnS 3 1 w91 ((jar most i).getD k []).length (jaq ((jar most i).getD k [])) n91:=by simpa using o91
    obtain ⟨p91,c91,rfl,_⟩:=o91.len
    all_goals
     refine ja2 rfl zq rfl o91 kdq zO zO (fun w97 n97 o97=>jad ?_);replace o97:OwnS 3 1 w97 (((jar most i).getD k []).length+1) (jaq ((jar most i).getD k []++[(i:Int)])) n97:=by rw [jaZ];exact o97
     obtain ⟨p97,c97,rfl,_⟩:=o97.len
     have r97:=o97.rd (B:=B) (gE _)
     refine jcb kdq rfl zq zA zA rfl (fun q43=>jap (jad ?_));refine ja2 rfl zq rfl how2 kdq zO zO (fun w99 n99 o99=>jad ?_);replace o99:OwnS 26 1 w99 (jhC most i (k+1)).length (vs2++[.slice p97 (((jar most i).getD k []).length+1) c97]) n99:=by rw [hsk,gJ];exact o99
     obtain ⟨p99,c99,rfl,_⟩:=o99.len
     refine Z8 ?_;refine m.weak (h':=h++n99++(Mi2++n97)) jk9 ?_
     exact hnext2 _ _ _ zO ⟨k+1,p99,c99,vs2++[.slice p97 (((jar most i).getD k []).length+1) c97],n99,Mi2++n97,rfl,by omega,o99,by rw [hsk];exact RdE.snoc (hre2.keeps (gI _ _)) (by rw [gJ];rfl) (r97.keeps (gM _ _)) o97.cap,exU rfl,rfl⟩
   ·have hsk:=subK_no hkl zO
    refine Z9 ?_
    rw [←hsk];exact m.weak jaa (hnext2 _ _ _ zO ⟨k+1,op2,oc2,vs2,Mo2,Mi2,rfl,by omega,by rw [hsk];exact how2,by rw [hsk];exact hre2,exU rfl,rfl⟩)
  ·refine Z4 ?_
   obtain rfl:k=(jar most i).length:=by omega
   refine Z5 ?_
   rw [jkl];exact m.weak jaa (hnext1 _ _ _ zO ⟨i+1,op2,oc2,vs2,Mo2,Mi2,rfl,by omega,by rw [←jkl];exact how2,by rw [←jkl];exact hre2,exU rfl,rfl⟩)
 ·refine Z4 ?_
  obtain rfl:i=n:=by omega
  refine Z5 ?_;refine jac (h++Mo++Mi) rfl Tryz.func63 rfl jaa ?_;refine Zs ?_
  exact ⟨Mo++Mi,by rw [gG],op,oc,vs,rfl,fun H2 _ s2=>⟨(how.rd (B:=B) (gE _)).keeps ((gI _ _).trans s2),hre.keeps ((gM _ _).trans s2)⟩⟩
end
section
variable [LaidO B]
theorem sub_12 {b:Tb} (ok:TbOk b) (hk:k<(jar b.wrong.toNat (jab b).length).length):((jar b.wrong.toNat (jab b).length).getD k []).length≤100:=by
 obtain ⟨h1,_,_⟩:=jb9 (jal (l:=jar b.wrong.toNat (jab b).length) hk)
 have h2:((jar b.wrong.toNat (jab b).length).getD k []).length≤b.wrong.toNat:=h1
 have:=ok.wrong
 omega
def jd3 (b:Tb) (th:Bool) (own:Int):Int:=if tbS b≠0 then tbS b else if th=false then 6 else if own≠0 then own else if jah b=[] then 9 else 0
theorem jnd {b:Tb} {own:Int}:jd3 b th own=jaO b (if th=false then 6 else own):=by
 unfold jd3 jaO
 cases th with
 |true=>simp
 |false=>simp
theorem f49_c (m:Md Tryz.prog B) (h:Hp) {b:Tb} (ra:RawTb B h b ps ns ks pw nw cw pb nb cb) (ok:TbOk b):FnC m 49 #[tbV b ps ns ks pw nw cw pb nb cb] h fun v h'=> ∃new,h'=h++new∧RdB B [] new v (jaR b):=by
 have rd:=ra.rd ok
 have h12:=jba ok
 have hs4:=jkk b.wrong.toNat h12
 have hwo:=ok.wrong
 have hwn:b.wrong=((b.wrong.toNat:Nat):Int):=by omega
 refine jae Tryz.func49 rfl rfl (l:=(tbV b ps ns ks pw nw cw pb nb cb)::uu27) rfl ?_
 intro cf cs K hK
 refine Z2 ?_
 refine jaF rfl zq (fun q1=>jap (jad ?_));refine Z7 ?_;refine jbr [0,1,2,3,4,5,6,7] zK zK (gE _) ?_;refine DrawT.leaf [Zp 4,Zr 0,Zr 5,Zk 1,Zp 2,Zk 3,Zk 6,Zp 7] zK ?_;refine Z3 ?_;refine jaJ rfl zq zK (Post:=fun w new=>OwnS 28 3 w (jab b).length (jay (jab b)) new) (fun H' hH=>f41_c _ H' (rd.keeps (sq hH))) ?_
 rintro w n7 o7;refine jaG (jad ?_);obtain ⟨p7,c7,rfl,hc7,r7⟩:=jas (B:=B) o7
 refine Zs ?_;refine jaJ rfl zq zK (Post:=fun w new=>OwnS 3 1 w (jab b).length (jaq (jbk (jab b).length)) new) (fun H' hH=>f62_c m H' (jab b).length zO) ?_
 rintro w nF oF;refine jaG (jad ?_);obtain ⟨pF,cF,rfl,_,rF⟩:=jas (B:=B) oF
 refine jaJ rfl zq zK (Post:=fun v new=>RdL B [] new v (jar b.wrong.toNat (jab b).length)) (fun H' hH=>by have:=f63_c m H' (rF.keeps (sq hH)) h12 b.wrong.toNat zO;rw [←hwn] at this;exact this) ?_;rintro v nS ⟨pS,cS,vsS,rfl,hSS⟩;refine jaG (jad ?_);obtain ⟨rSv,rSe⟩:=hSS nS (Ge _) (gE _)
 refine Z8 ?_;refine m.weak (h':=h++[⟨true,q1,.cells (tbL b ps ns ks pw nw cw pb nb cb).toArray 25 (0,0)⟩]++nS) jaa ?_
 refine jaf (fun nn l h'=> ∃(k:Nat) (op:Option Addr) (oc:Nat) (bs:List Bp) (Mo Mi:Hp),nn=(jar b.wrong.toNat (jab b).length).length-k∧(k≤(jar b.wrong.toNat (jab b).length).length)∧(OwnS 105 2 (.slice op (jd2 b k).length oc) (jd2 b k).length (jay bs) Mo)∧(BpE B (nS++Mi) bs (jd2 b k))∧(∃U:Nat→Value,l=((tbV b ps ns ks pw nw cw pb nb cb)::(.pointer (some ⟨q1,0,none⟩))::(U 2)::(.slice op (jd2 b k).length oc)::(.slice pS (jar b.wrong.toNat (jab b).length).length cS)::(.int .i64 (k:Int))::vw22 U 6 []))∧h++[⟨true,q1,.cells (tbL b ps ns ks pw nw cw pb nb cb).toArray 25 (0,0)⟩]++nS++Mo++Mi=h') _ ⟨0,none,0,[],[],[],rfl,by omega,OwnS.nil,BpE.nil,exU rfl,zS⟩ ?_;rintro nn l h' ⟨k,op,oc,bs,Mo,Mi,rfl,hk,how,hbe,⟨U,rfl⟩,rfl⟩ hnext;refine Z6 ?_
 refine jak rfl zq (fun hc=>?_) (fun hc=>?_)
 ·refine Z5 ?_
  have hkl:k<(jar b.wrong.toNat (jab b).length).length:=by omega
  obtain ⟨pk,ck,ek,rk⟩:=rSe.2 k hkl
  obtain ⟨b5,o5,hp5⟩:=rSv.ptr zO
  have rS2:=rSv
  rw [hp5] at rS2
  have hbl:=jdo ok
  have hbl2:=jbE ok
  have hk1:=jr0 (b:=b) (k+1)
  rw [jfI hkl,gJ] at hk1
  refine jbr (S:=h++[⟨true,q1,.cells (tbL b ps ns ks pw nw cw pb nb cb).toArray 25 (0,0)⟩]++nS++Mi) [0,1,2,3,4,5,6,7,8] zK zK SubH.sub ?_;refine DrawT.leaf [Zp 0,Zp 2,Zp 3,Zp 4,Zr 1,Zr 5,Zk 6,Zk 7,Zp 8] zK ?_;refine Z3 ?_;refine ja1 rfl zq hp5 zO zO ?_;refine Zs ?_;refine jaI (v:= .slice pk ((jar b.wrong.toNat (jab b).length).getD k []).length ck) rfl zq (by rw [←ek];exact rS2.vat k zO zO) ?_;refine jaJ rfl zq zK (Post:=fun v new=>RdB B nS new v ((jcU b ((jar b.wrong.toNat (jab b).length).getD k [])).map fun ms=>((jar b.wrong.toNat (jab b).length).getD k [],ms))) (fun H' hH=>f65_c m H' nS (ra.keeps (sq hH)) ok (sub_12 ok hkl) (sq hH) rk (jkz ok _)) ?_;rintro v n98 ⟨p98,c98,bs98,rfl,h98⟩;refine jaG (jad ?_);have rd98:=(h98 (nS++n98) (gI _ _) (gM _ _)).1
  have be98:=(h98 (nS++n98) (gI _ _) (gM _ _)).2
  refine jcX rfl zq how (h98 _ SubH.sub SubH.sub).1 (fun u hu=>jdJ _ u hu) kdq zO zO (fun w99 n99 o99=>jad ?_);replace o99:OwnS 105 2 w99 (jd2 b (k+1)).length (jay (bs++bs98)) n99:=by rw [jfI hkl,gJ,jaX];exact o99
  obtain ⟨p99,c99,rfl,_⟩:=o99.len
  refine Z8 ?_;refine m.weak (h':=h++[⟨true,q1,.cells (tbL b ps ns ks pw nw cw pb nb cb).toArray 25 (0,0)⟩]++nS++n99++(Mi++n98)) jk9 ?_
  exact hnext _ _ _ zO ⟨k+1,p99,c99,bs++bs98,n99,Mi++n98,rfl,by omega,o99,by
    rw [jfI hkl];refine (hbe.keeps (by rw [←gG];exact gI _ _)).append (h98 _ (gI _ _) (by rw [←gG];exact gM _ _)).2,exU rfl,rfl⟩
 ·refine Z4 ?_
  obtain rfl:k=(jar b.wrong.toNat (jab b).length).length:=by omega
  rw [jj7] at how hbe⊢
  refine Z5 ?_;refine jac (h++nS++Mo++Mi) rfl Tryz.func49 rfl jaa ?_;refine Zs ?_
  exact ⟨nS++Mo++Mi,by simp only [gG],op,oc,bs,rfl,fun H2 _ s2=>⟨(how.rd (B:=B) (gE _)).keeps (((gM nS Mo).trans (gI _ Mi)).trans s2),hbe.keeps ((List.Sublist.append_right (gI nS Mo) Mi).trans s2)⟩⟩
theorem f54_c (m:Md Tryz.prog B) (h:Hp) {b:Tb} (ra:RawTb B h b ps ns ks pw nw cw pb nb cb) (th:Bool) (own:Int):FnC m 54 #[tbV b ps ns ks pw nw cw pb nb cb,.bool th,.int .i64 own] h fun v h'=> ∃new,h'=h++new∧ ∃w,v= .tuple [w,.int .i64 (jd3 b th own)].toArray∧(jd3 b th own=0→RdB B [] new w (jaR b)):=by
 refine jae Tryz.func54 rfl rfl (l:=(tbV b ps ns ks pw nw cw pb nb cb)::(.bool th)::(.int .i64 own)::uu23) rfl ?_
 intro cf cs K hK
 refine Z2 ?_
 refine jaF rfl zq (fun q1=>jap (jad ?_));refine Z7 ?_;refine jag (Post:=fun v=>v= .int .i64 (tbS b)) rfl zq zK (fun H' hH=>f40_r m H' (ra.keeps (sq hH))) ?_
 rintro v rfl;refine Z6 ?_
 refine jaP rfl zq (fun hc=>?_) (fun hc=>?_)
 ·refine Z9 ?_;refine jac (h) rfl Tryz.func54 rfl jaa ?_;refine Zs ?_
  have ha:jd3 b th own=tbS b:=by rw [jd3,if_pos zO]
  exact ⟨[],by simp,_,by rw [ha],fun e=>absurd (ha▸e) zO⟩
 ·refine Z5 ?_
  have hz:tbS b=0:=by omega
  have ok:=jdL hz
  have ha:jd3 b th own=if th=false then 6 else if own≠0 then own else if jah b=[] then 9 else 0:=by rw [jd3,if_neg (fun e=>e hz)]
  cases th
  ·refine Z11 ?_;refine jac (h) rfl Tryz.func54 rfl jaa ?_;refine Zs ?_
   have ha2:jd3 b false own=6:=by rw [ha,if_pos rfl]
   exact ⟨[],by simp,_,by rw [ha2],fun e=>absurd (ha2▸e) zA⟩
  ·refine Z10 ?_
   refine jaP rfl zq (fun hc=>?_) (fun hc=>?_)
   ·refine Z9 ?_;refine jac (h) rfl Tryz.func54 rfl jaa ?_;refine Zs ?_
    have ha2:jd3 b true own=own:=by rw [ha,if_neg zA,if_pos zO]
    exact ⟨[],by simp,_,by rw [ha2],fun e=>absurd (ha2▸e) zO⟩
   ·refine Z6 ?_;refine jaJ rfl zq zK (Post:=fun v new=>RdB B [] new v (jaR b)) (fun H' hH=>f49_c m H' (ra.keeps (sq hH)) ok) ?_
    rintro v nB ⟨pB,cB,bs,rfl,hB⟩;refine jaG (jad ?_);have hbl:=jdo ok
    refine Z7 ?_
    refine jaA rfl zq (fun hc=>?_) (fun hc=>?_)
    ·refine Z8 ?_;refine jac (h) rfl Tryz.func54 rfl jaa ?_;refine Zs ?_
     have hn:jah b=[]:=GO.1 zO
     have ha2:jd3 b true own=9:=by rw [ha,if_neg zA,if_neg zO,if_pos hn]
     exact ⟨[],by simp,_,by rw [ha2],fun e=>absurd (ha2▸e) zA⟩
    ·refine Z10 ?_;refine jac (h++nB) rfl Tryz.func54 rfl jaa ?_;refine Zs ?_
     have hn: ¬jah b=[]:=fun e=>by
      have h0:(jaR b).length=0:=by rw [(jpq ok).2 e];rfl
      omega
     have ha2:jd3 b true own=0:=by rw [ha,if_neg zA,if_neg zO,if_neg hn]
     exact ⟨nB,rfl,_,by rw [ha2],fun _=>⟨pB,cB,bs,rfl,hB⟩⟩
end
section
variable [LaidO B]
theorem jmm {x:Bo} (h:x.length=n):boOf n (jbF x) (jcH x)=x:=by
 refine vE (by rw [jk2,h]) fun i h1 h2=>?_
 rw [jk2] at h1
 have e:=jmx (wr:=jbF x) (ms:=jcH x) h1
 rw [xA,gC,gD (by rw [jk2];exact h1),GB] at e
 rw [e];have hx:xA x i=x[i]:=by rw [xA,gC,gD h2];rfl
 by_cases hw:(i:Int)∈jbF x
 ·obtain ⟨j,e1,e2,e3⟩:=jcn.1 hw
  obtain rfl:i=j:=by omega
  rw [if_pos hw,←hx,e3]
 ·rw [if_neg hw,←hx];cases hv:xA x i with
  |none=>exact absurd (jcn.2 ⟨i,rfl,h2,hv⟩) hw
  |some v=>
   rw [jcH,gC,ga,gD h2,←hx,hv];rfl
theorem jj6 {b:Tb} (ok:TbOk b) {q:List Int×List Int} (h:q∈jaR b):q.2.length=(jab b).length∧q.1.length≤12:=by
 obtain ⟨x,hx,rfl⟩:=gP.1 ((jdA b ok.wrong.1).mem_iff.1 h)
 have hl:=jgM hx
 rw [jat] at hl
 refine ⟨by show (jcH x).length=_;rw [jcH,gU,hl],?_⟩
 show (jbF x).length≤12
 rw [jbF,gU];have h1:=GU (fun i=>(xA x i).isNone) (List.range x.length)
 rw [List.length_range] at h1
 have:=jba ok
 omega
end
section
variable [LaidO B]
theorem jro {b:Tb} {c:Ce}:0≤idxC (jab b) c↔c∈jab b:=by
 rw [←jfX,idxC,plN];split
 ·rename_i h
  exact ⟨fun _=>h,fun _=>by omega⟩
 ·rename_i h
  exact ⟨fun e=>absurd e zA,fun e=>absurd e h⟩
theorem idx_pl {b:Tb} {c:Ce} (h:c∈jab b):idxC (jab b) c=(plN b c:Int):=by
 have h1:=jfX.2 h
 unfold plN at h1⊢
 rw [idxC,if_pos h1]
theorem jpI (b:Tb):0<((jcU b []).map fun ms=>(([]:List Int),ms)).length↔jbP (cdT b)=true:=by
 have e:jcU b []=(jfg (cdT b) (jdl 0 (jab b).length)).map jcH:=jhS (jib (l:=[]) (fun z hz=>by cases hz) _)
 rw [gU,e,gU,vX];exact jh4 b
theorem jfZ {b:Tb} {c:Ce} (h:th=true↔(tbS b=0∧c∈jab b)):jd3 b th 0=jaO b (jdN b c):=by
 rw [jnd];by_cases hz:tbS b=0
 ·by_cases hm:c∈jab b
  ·have:th=true:=h.2 ⟨hz,hm⟩
   rw [this,if_neg zA,jdN,if_pos hm]
  ·have:th=false:=by
    cases th with
    |false=>rfl
    |true=>exact absurd (h.1 rfl).2 hm
   rw [this,if_pos rfl,jdN,if_neg hm]
 ·unfold jaO
  rw [if_pos hz,if_pos hz]
theorem jip {b:Tb} {c:Ce} (h:jaO b (jdN b c)=0):TbOk b∧c∈jab b∧jah b≠[]:=by
 obtain ⟨h1,h2,h3⟩:=jdm h
 refine ⟨jdL h1,?_,h3⟩
 unfold jdN at h2
 split at h2
 ·assumption
 ·cases h2
def wrK (b:Tb) (k i:Nat):Nat:=((jaR b).take i).countP fun q=>decide ((k:Int)∈q.1)
theorem wrK_succ {b:Tb} (h:i<(jaR b).length):wrK b k (i+1)=wrK b k i+if (k:Int)∈((jaR b).getD i default).1 then 1 else 0:=by
 rw [wrK,ja5 _ i h,VD,Vz,wrK];by_cases e:(k:Int)∈((jaR b).getD i default).1
 ·rw [if_pos e,if_pos (decide_eq_true e)]
 ·rw [if_neg e,if_neg (by simpa using e)]
theorem wrK_all {b:Tb} (ok:TbOk b) (hk:k<(jab b).length):wrK b k (jaR b).length=jew (jah b) k:=by
 rw [wrK,GQ,(jdA b ok.wrong.1).countP_eq,Va,jew];refine VK fun x hx=>?_
 have hl:=jbZ hx
 show decide ((k:Int)∈jbF x)=true↔_
 rw [decide_eq_true_eq,jcn,Gh];constructor
 ·rintro ⟨i,e,_,h⟩;obtain rfl:k=i:=by omega
  exact h
 ·intro h
  exact ⟨k,rfl,by omega,h⟩
theorem wrK_le (b:Tb) (k i:Nat):wrK b k i≤(jaR b).length:=GJ vJ (by rw [GH];omega)
def jkF (b:Tb) (k i:Nat):List Int:=(((jaR b).take i).filter fun q=>decide ((k:Int)∉q.1)).map fun q=>q.2.getD k 0
theorem mesK_yes {b:Tb} (h:i<(jaR b).length) (e:(k:Int)∉((jaR b).getD i default).1):jkF b k (i+1)=jkF b k i++[((jaR b).getD i default).2.getD k 0]:=by
 rw [jkF,ja5 _ i h,GG,GA,jkF];congr 1
 show List.map _ (List.filter _ [(jaR b).getD i default])=_
 rw [vz (by simpa using e)];rfl
theorem mesK_no {b:Tb} (h:i<(jaR b).length) (e:(k:Int)∈((jaR b).getD i default).1):jkF b k (i+1)=jkF b k i:=by
 rw [jkF,ja5 _ i h,GG,GA,jkF];show _++List.map _ (List.filter _ [(jaR b).getD i default])=_
 rw [vy (by simpa using e)];simp
theorem jqV (b:Tb) (k i:Nat):(jkF b k i).length≤(jaR b).length:=by
 rw [jkF,gU];exact GJ (GU _ _) (by rw [GH];omega)
theorem mesK_mem {b:Tb} (ok:TbOk b) (hk:k<(jab b).length):v∈jkF b k (jaR b).length↔v∈jnb (cdT b) (jah b) k:=by
 have hm:v∈jnb (cdT b) (jah b) k↔ ∃x∈jah b,xA x k=some v:=jjj
 rw [hm,jkF,GQ,gP];constructor
 ·rintro ⟨q,hq,rfl⟩;obtain ⟨h1,h2⟩:=gV.1 hq
  obtain ⟨x,hx,rfl⟩:=gP.1 ((jdA b ok.wrong.1).mem_iff.1 h1)
  have hl:x.length=(jab b).length:=jbZ hx
  refine ⟨x,hx,?_⟩
  have h3:=of_decide_eq_true h2
  have e:=congrArg (fun y=>xA y k) (jmm hl)
  replace e:xA (boOf (jab b).length (jbF x) (jcH x)) k=xA x k:=e
  rw [←e,jmx hk,if_neg h3]
 ·rintro ⟨x,hx,e⟩;have hl:x.length=(jab b).length:=jbZ hx
  have hnw:(k:Int)∉jbF x:=fun h=>by
   obtain ⟨i,e1,_,h⟩:=jcn.1 h
   obtain rfl:k=i:=by omega
   rw [e] at h
   cases h
  refine ⟨(jbF x,jcH x),gV.2 ⟨(jdA b ok.wrong.1).mem_iff.2 (gP.2 ⟨x,hx,rfl⟩),decide_eq_true hnw⟩,?_⟩
  have e2:=congrArg (fun y=>xA y k) (jmm hl)
  replace e2:xA (boOf (jab b).length (jbF x) (jcH x)) k=xA x k:=e2
  rw [jmx hk,if_neg hnw,e] at e2
  exact gF e2
theorem f55_c (m:Md Tryz.prog B) (h:Hp) {b:Tb} (ra:RawTb B h b ps ns ks pw nw cw pb nb cb) (c:Ce):FnC m 55 #[tbV b ps ns ks pw nw cw pb nb cb,cV c.butt c.line c.st] h fun v h'=>h'=h∧IsB (tbS b=0∧c∈jab b) v:=by
 refine jae Tryz.func55 rfl rfl (l:=(tbV b ps ns ks pw nw cw pb nb cb)::(cV c.butt c.line c.st)::uu12) rfl ?_
 intro cf cs K hK
 refine Z2 ?_
 refine jaF rfl zq (fun q2=>jap (jad ?_));refine jaF rfl zq (fun q3=>jap (jad ?_));refine Z5 ?_;refine jag (Post:=fun v=>v= .int .i64 (tbS b)) rfl zq zK (fun H' hH=>f40_r m H' (ra.keeps (sq hH))) ?_
 rintro v rfl;refine Zs ?_
 refine jaA rfl zq (fun hc=>?_) (fun hc=>?_)
 ·refine Zs ?_;refine jhx rfl rfl ?_;refine jhx rfl rfl ?_
  have hz:tbS b=0:=by omega
  refine jag (Post:=fun v=>v= .int .i64 (idxC (jab b) c)) rfl rfl zK (fun H' hH=>f56_c m H' ((ra.rd (jdL hz)).keeps (sq hH)) c) ?_;rintro v rfl;refine Zs ?_
  refine jbG rfl rfl (fun hc=>?_) (fun hc=>?_);have him:=jro.1 hc
  rotate_left
  have him:c∉jab b:=fun e=>by have:=jro.2 e;omega
  all_goals
   refine Z4 ?_;refine jac (h) rfl Tryz.func55 rfl jaa ?_;refine Zs ?_
   first
    |exact ⟨rfl,IsB.yes ⟨hz,him⟩⟩
    |exact ⟨rfl,IsB.no fun e=>him e.2⟩
    |exact ⟨rfl,IsB.no fun e=>absurd e.1 zO⟩
 ·refine Z9 ?_;refine jac (h) rfl Tryz.func55 rfl jaa ?_;refine Zs ?_
  first
   |exact ⟨rfl,IsB.yes ⟨hz,him⟩⟩
   |exact ⟨rfl,IsB.no fun e=>him e.2⟩
   |exact ⟨rfl,IsB.no fun e=>absurd e.1 zO⟩
theorem f9_c (m:Md Tryz.prog B) (h:Hp) {b:Tb} (ra:RawTb B h b ps ns ks pw nw cw pb nb cb):FnC m 9 #[tbV b ps ns ks pw nw cw pb nb cb] h fun v h'=>h'=h∧v= .tuple [.int .i64 (if tbS b=0 then ((jah b).length:Int) else 0),.int .i64 (tbS b)].toArray:=by
 refine jae Tryz.func9 rfl rfl (l:=(tbV b ps ns ks pw nw cw pb nb cb)::uu12) rfl ?_
 intro cf cs K hK
 refine Z2 ?_
 refine jaF rfl zq (fun q1=>jap (jad ?_));refine Z7 ?_;refine jag (Post:=fun v=>v= .int .i64 (tbS b)) rfl zq zK (fun H' hH=>f40_r m H' (ra.keeps (sq hH))) ?_
 rintro v rfl;refine Z6 ?_
 refine jaP rfl zq (fun hc=>?_) (fun hc=>?_);refine Z5 ?_
 rotate_left
 refine Z6 ?_
 have hz:tbS b=0:=by omega
 refine jaJ rfl zq zK (Post:=fun v new=>RdB B [] new v (jaR b)) (fun H' hH=>f49_c m H' (ra.keeps (sq hH)) (jdL hz)) ?_;rintro v nB ⟨pB,cB,bs,rfl,hB⟩;refine jaG (jad ?_);have hbl:=jdo (jdL hz)
 refine Zs ?_
 all_goals
  refine Z4 ?_;refine jac (h) rfl Tryz.func9 rfl jaa ?_;refine Zs ?_
 ·exact ⟨rfl,by rw [if_pos hz,hz,hbl]⟩
 ·exact ⟨rfl,by rw [if_neg zO]⟩
theorem f60_c (m:Md Tryz.prog B) (h:Hp) {b:Tb} (ra:RawTb B h b ps ns ks pw nw cw pb nb cb) (ok:TbOk b):FnC m 60 #[tbV b ps ns ks pw nw cw pb nb cb] h fun v h'=>h'=h∧IsB (jbP (cdT b)=true) v:=by
 refine jae Tryz.func60 rfl rfl (l:=(tbV b ps ns ks pw nw cw pb nb cb)::uu6) rfl ?_
 intro cf cs K hK
 refine Z2 ?_
 refine jaF rfl zq (fun q1=>jap (jad ?_));refine Z5 ?_;refine jaJ rfl zq zK (Post:=fun v new=>RdB B [] new v ((jcU b []).map fun ms=>(([]:List Int),ms))) (fun H' hH=>f65_c m H' [] (ra.keeps (sq hH)) ok (wr:=[]) zS (wp:=none) (wc:=0) (Ge _) ⟨none,0,rfl,rfl,.inl ⟨rfl,rfl⟩⟩ (jkz ok _)) ?_
 rintro v nB ⟨pB,cB,bs,rfl,hB⟩;refine jaG (jad ?_);have hsd:=jpI b
 refine Zs ?_
 refine jaz rfl zq (fun hc=>?_) (fun hc=>?_);all_goals
  refine Z3 ?_;refine jac (h) rfl Tryz.func60 rfl jaa ?_;refine Zs ?_
  first
   |exact ⟨rfl,IsB.yes (hsd.1 zO)⟩
   |exact ⟨rfl,IsB.no fun e=>by have:=hsd.2 e;omega⟩
theorem f16_c (m:Md Tryz.prog B) (h:Hp) {b:Tb} (ra:RawTb B h b ps ns ks pw nw cw pb nb cb):FnC m 16 #[tbV b ps ns ks pw nw cw pb nb cb] h fun v h'=>h'=h∧ ∃w,v= .tuple [w,.int .i64 (tbS b)].toArray∧IsB (tbS b=0∧jbP (cdT b)=true) w:=by
 refine jae Tryz.func16 rfl rfl (l:=(tbV b ps ns ks pw nw cw pb nb cb)::uu11) rfl ?_
 intro cf cs K hK
 refine Z2 ?_
 refine jaF rfl zq (fun q1=>jap (jad ?_));refine Z7 ?_;refine jag (Post:=fun v=>v= .int .i64 (tbS b)) rfl zq zK (fun H' hH=>f40_r m H' (ra.keeps (sq hH))) ?_
 rintro v rfl;refine Z6 ?_
 refine jaP rfl zq (fun hc=>?_) (fun hc=>?_);refine Z5 ?_
 rotate_left
 refine Z6 ?_
 have hz:tbS b=0:=by omega
 refine jag (Post:=fun v=>IsB (jbP (cdT b)=true) v) rfl zq zK (fun H' hH=>f60_c m H' (ra.keeps (sq hH)) (jdL hz)) ?_;rintro w hw;refine Zs ?_
 all_goals
  refine Z4 ?_;refine jac (h) rfl Tryz.func16 rfl jaa ?_;refine Zs ?_
 ·exact ⟨rfl,w,by rw [hz],jn6 hw ⟨fun e=>⟨hz,e⟩,fun e=>e.2⟩⟩
 ·exact ⟨rfl,_,rfl,IsB.no fun e=>absurd e.1 zO⟩
theorem f14_c (m:Md Tryz.prog B) (h:Hp) {b:Tb} (ra:RawTb B h b ps ns ks pw nw cw pb nb cb) (c:Ce):FnC m 14 #[tbV b ps ns ks pw nw cw pb nb cb,cV c.butt c.line c.st] h fun v h'=>h'=h∧v= .tuple [.int .i64 (if jaO b (jdN b c)=0 then jfo (jew (jah b) (plN b c)) (jah b).length else 0),.int .i64 (jaO b (jdN b c))].toArray:=by
 refine jae Tryz.func14 rfl rfl (l:=[tbV b ps ns ks pw nw cw pb nb cb,cV c.butt c.line c.st,undef,undef,undef,undef,undef,undef,undef,undef,undef,undef,undef,undef,undef,undef,undef,undef,undef,undef,undef,undef,undef,undef,undef,undef,undef,undef,undef,undef,undef,undef,undef,undef,undef,undef,undef,undef,undef,undef,undef,undef,undef,undef]) rfl ?_
 intro cf cs K hK
 refine Z2 ?_
 refine jaF rfl zq (fun q2=>jap (jad ?_));refine jaF rfl zq (fun q3=>jap (jad ?_));refine Z4 ?_;refine jan [Zr 0,Zr 1,Zr 2,Zk 3,Zk 4,Zp 5,Zp 6,Zp 7,Zp 8,Zp 9] zK zK (gE _) ?_;refine Z3 ?_;refine jag (Post:=fun v=>IsB _ v) rfl zq zK (fun H' hH=>f55_c m H' (ra.keeps (sq hH)) c) ?_
 rintro v (⟨hc,rfl⟩|⟨hc,rfl⟩);refine Zs ?_
 have hsx:=jfZ (b:=b) (c:=c) (th:=true) ⟨fun _=>hc,fun _=>rfl⟩
 rotate_left
 refine Zs ?_
 have hsx:=jfZ (b:=b) (c:=c) (th:=false) ⟨fun e=>(by cases e),fun e=>absurd e hc⟩
 all_goals
  refine jaJ rfl zq zK (Post:=fun v new=> ∃w,v= .tuple [w,.int .i64 (jaO b (jdN b c))].toArray∧(jaO b (jdN b c)=0→RdB B [] new w (jaR b))) (fun H' hH=>(f54_c m H' (ra.keeps (sq hH)) _ _).mono fun v h' ⟨new,e1,w,e2,e3⟩=>by rw [hsx] at e2 e3;exact ⟨new,e1,w,e2,e3⟩) ?_;rintro v nB ⟨w11,rfl,hB⟩;refine jaG (jad ?_);refine Z10 ?_
  refine jaP rfl zq (fun hc=>?_) (fun hc=>?_)
  ·refine Z9 ?_;refine jac (h) rfl Tryz.func14 rfl jaa ?_;refine Zs ?_
   first
    |exact ⟨rfl,by rw [if_pos hz0,hz0]⟩
    |exact ⟨rfl,by rw [if_neg zO]⟩
  ·refine Z4 ?_
   have hz0:jaO b (jdN b c)=0:=by omega
   obtain ⟨pl,cl2,bs,rfl,hBB⟩:=hB hz0
   obtain ⟨rB,eB⟩:=hBB nB (Ge _) (gE _)
   obtain ⟨ok,hcm,hne⟩:=jip hz0
   have hbl:=jdo ok
   have hbl2:=jbE ok
   have hel:=eB.len
   have hkl2:=jfX.2 hcm
   have h12:=jba ok
   have hbe: ∀i,i<(jaR b).length→((jaR b).getD i default)=((bs.getD i default).wr,(bs.getD i default).ms):=fun i hi=>by
    rw [←eB.1,gC,ga,gD (show i<bs.length by omega),gC,gD (show i<bs.length by omega)];rfl
   refine Z3 ?_;refine jag (Post:=fun v=>v= .int .i64 (plN b c:Int)) rfl zq zK (fun H' hH=>by have:=f56_c m H' ((ra.rd ok).keeps (sq hH)) c;rw [idx_pl hcm] at this;exact this) ?_
   rintro v rfl;refine Z10 ?_
   refine jaf (fun nn l h'=> ∃(i:Nat),nn=(jaR b).length-i∧(i≤(jaR b).length)∧(∃U:Nat→Value,l=((tbV b ps ns ks pw nw cw pb nb cb)::(cV c.butt c.line c.st)::vw4 U 2 ((.slice pl (jaR b).length cl2)::(U 7)::(.int .i64 (plN b c:Int))::(.int .i64 (wrK b (plN b c) i:Int))::(.int .i64 (i:Int))::vw33 U 11 [])))∧h++[⟨true,q2,.cells (tbL b ps ns ks pw nw cw pb nb cb).toArray 25 (0,0)⟩,⟨true,q3,.cells [.bool c.butt,.int .i64 c.line,.int .i64 c.st].toArray 28 (0,0)⟩]++nB=h') _ ⟨0,rfl,by omega,exU rfl,(by rfl)⟩ ?_;rintro nn l h' ⟨i,rfl,hi,⟨U,rfl⟩,rfl⟩ hnext;refine Z6 ?_
   refine jak rfl zq (fun hc=>?_) (fun hc=>?_)
   ·refine Z6 ?_
    have hil:i<(jaR b).length:=by omega
    obtain ⟨bb,bo,hpb⟩:=rB.ptr zO
    have rB2:=rB
    rw [hpb] at rB2
    obtain ⟨y,hy⟩: ∃y,y=bs.getD i default:=⟨_,rfl⟩
    have hym:y∈bs:=hy▸jal zO
    have hyq:=hbe i hil
    rw [←hy] at hyq
    have hqm:=jj6 ok (jal (l:=jaR b) hil)
    rw [hyq] at hqm
    obtain ⟨rY1,rY2⟩:=eB.2 y hym
    have hw1:y.wr.length≤12:=hqm.2
    have hm1:y.ms.length=(jab b).length:=hqm.1
    have hws:=wrK_succ (k:=plN b c) hil
    rw [hyq] at hws
    have hwl:=wrK_le b (plN b c) i
    refine Z3 ?_;refine ja1 rfl zq hpb zO zO ?_;refine Zs ?_;refine jaI (v:= .slice y.pw y.wr.length y.cw) rfl zq (hy▸rB2.fat i 0 zO zO rfl) ?_;refine Zs ?_;refine jag (Post:=fun v=>IsB _ v) rfl zq zK (fun H' hH=>f44_c m H' _ (rY1.keeps (sq hH)) zO) ?_
    rintro v (⟨hc,rfl⟩|⟨hc,rfl⟩);refine Zs ?_
    rw [if_pos hc] at hws
    refine Z7 ?_
    rotate_left
    refine Zs ?_
    rw [if_neg hc] at hws
    refine Z3 ?_
    all_goals
     refine Z6 ?_
    ·rw [show (wrK b (plN b c) i)=wrK b (plN b c) (i+1) by rw [hws,vg]];exact E38
    ·rw [show ((wrK b (plN b c) i:Nat):Int)+1=(wrK b (plN b c) (i+1):Nat) by rw [hws];rfl];exact E38
   ·refine Z4 ?_
    obtain rfl:i=(jaR b).length:=by omega
    rw [wrK_all ok hkl2];refine Z4 ?_;refine jag (Post:=fun v=>v= .int .i64 (jfo (jew (jah b) (plN b c)) (jah b).length)) rfl zq zK (fun H' hH=>by have:=f58_c m H' (jew (jah b) (plN b c):Int) ((jaR b).length:Int);rw [hbl,told_eq] at this;rw [hbl];exact this) ?_
    rintro v rfl;refine Z5 ?_;refine jac (h) rfl Tryz.func14 rfl jaa ?_;refine Zs ?_
    first
     |exact ⟨rfl,by rw [if_pos hz0,hz0]⟩
     |exact ⟨rfl,by rw [if_neg zO]⟩
end
section
variable [LaidO B]
theorem fewW {b:Tb} (hl: ∀z∈l,0≤z):0<((jcU b l).map fun ms=>(l,ms)).length↔jm2 b (jbe l)=true:=by
 have e:jcU b l=(jfg (cdT b) (jdl (jbe l) (jab b).length)).map jcH:=jhS (jib hl _)
 rw [gU,e,gU,vX,jgl]
theorem jpi (n:Nat):Asc (jbk n):=by
 unfold Asc jbk
 rw [Gy];exact vf.imp fun h=>by omega
theorem jjW: ∀z∈jbk n,0≤z∧z<(n:Int):=fun z hz=>by
 obtain ⟨i,hi,rfl⟩:=gP.1 hz
 have:=gT.1 hi
 omega
theorem jph (n:Nat):(jbk n).length=n:=by simp [jbk]
theorem jpk (b:Tb):jm2 b (jbe (jbk (jab b).length))=true:=by
 rw [jgl];have hp:((jdl (jbe (jbk (jab b).length)) (jab b).length)).length=(cdT b).length:=by rw [jbT,jat]
 refine List.ne_nil_of_mem (a:=List.replicate (jab b).length none) ((jhF hp).2 ⟨jfz.2 ⟨by simp [jat],fun i v e=>?_,fun i j v u _ e _=>?_⟩,?_⟩)
 ·rw [xA,gC,Vn] at e
  split at e<;>cases e
 ·rw [xA,gC,Vn] at e
  split at e<;>cases e
 ·refine vE (by simp [jcE,jdl]) fun i h1 h2=>?_
  have hi:i<(jab b).length:=by simpa [jdl] using h2
  simp only [jcE,jdl,vw,List.getElem_range,List.getElem_replicate,jbn fun z hz=>(jjW z hz).1]
  exact (decide_eq_true (gP.2 ⟨i,gT.2 hi,rfl⟩)).symm
structure BestI (b:Tb) (i:Nat) (g:List Int):Prop where
 asc:Asc g
 rng: ∀z∈g,0≤z∧z<((jab b).length:Int)
 few:jm2 b (jbe g)=true
 least: ∀j,j<i→jm2 b (jbe ((jar (jab b).length (jab b).length).getD j []))=true→ ¬jdf ((jar (jab b).length (jab b).length).getD j []) g
theorem jps (b:Tb):BestI b 0 (jbk (jab b).length):=⟨jpi _,jjW,jpk b,fun j hj=>by omega⟩
section
variable {b:Tb} {i:Nat} {g:List Int} (hqq:BestI b i g)
include hqq
theorem BestI.keep (hn: ¬(jdf ((jar (jab b).length (jab b).length).getD i []) g∧jm2 b (jbe ((jar (jab b).length (jab b).length).getD i []))=true)):BestI b (i+1) g:=⟨hqq.asc,hqq.rng,hqq.few,fun j hj hp hf=>by
 by_cases e:j<i
 ·exact hqq.least j e hp hf
 ·obtain rfl:j=i:=by omega
  exact hn ⟨hf,hp⟩⟩
theorem BestI.take (hi:i<(jar (jab b).length (jab b).length).length) (h1:jdf ((jar (jab b).length (jab b).length).getD i []) g) (h2:jm2 b (jbe ((jar (jab b).length (jab b).length).getD i []))=true):BestI b (i+1) ((jar (jab b).length (jab b).length).getD i []):=by
 obtain ⟨_,a1,a2⟩:=jb9 (jal (l:=jar (jab b).length (jab b).length) hi)
 exact ⟨a1,a2,h2,fun j hj hp hf=>by
  by_cases e:j<i
  ·exact hqq.least j e hp (jfE hf h1)
  ·obtain rfl:j=i:=by omega
   exact jhm _ hf⟩
end
theorem BestI.all {b:Tb} {g:List Int} (h:BestI b (jar (jab b).length (jab b).length).length g):jd5 (fun l=>jm2 b (jbe l)=true) (jab b).length g:=⟨h.asc,h.rng,h.few,fun xs ha hr hp hf=>by
 obtain ⟨j,hj,e⟩:=GE.1 (jfR (most:=(jab b).length) (ji6 ha hr) ha hr)
 have e2:(jar (jab b).length (jab b).length).getD j []=xs:=by rw [gC,gD hj];exact e
 exact h.least j hj (by rw [e2];exact hp) (by rw [e2];exact hf)⟩
theorem f11_c (m:Md Tryz.prog B) (h:Hp) {b:Tb} (ra:RawTb B h b ps ns ks pw nw cw pb nb cb) (c:Ce):FnC m 11 #[tbV b ps ns ks pw nw cw pb nb cb,cV c.butt c.line c.st] h fun v h'=> ∃new,h'=h++new∧ ∃w,v= .tuple [w,.int .i64 (jaO b (jdN b c))].toArray∧RdI B new w (jj4 b c):=by
 refine jae Tryz.func11 rfl rfl (l:=[tbV b ps ns ks pw nw cw pb nb cb,cV c.butt c.line c.st,undef,undef,undef,undef,undef,undef,undef,undef,undef,undef,undef,undef,undef,undef,undef,undef,undef,undef,undef,undef,undef,undef,undef,undef,undef,undef,undef,undef,undef,undef,undef,undef,undef,undef,undef,undef,undef,undef,undef,undef,undef,undef,undef,undef,undef,undef,undef,undef,undef,undef]) rfl ?_
 intro cf cs K hK
 refine Z2 ?_
 refine jaF rfl zq (fun q2=>jap (jad ?_));refine jaF rfl zq (fun q3=>jap (jad ?_));refine Z4 ?_;refine jan [Zr 0,Zr 1,Zr 2,Zk 3,Zk 4,Zp 5,Zp 6,Zp 7,Zp 8,Zp 9] zK zK (gE _) ?_;refine Z3 ?_;refine jag (Post:=fun v=>IsB _ v) rfl zq zK (fun H' hH=>f55_c m H' (ra.keeps (sq hH)) c) ?_
 rintro v (⟨hc,rfl⟩|⟨hc,rfl⟩);refine Zs ?_
 have hsx:=jfZ (b:=b) (c:=c) (th:=true) ⟨fun _=>hc,fun _=>rfl⟩
 rotate_left
 refine Zs ?_
 have hsx:=jfZ (b:=b) (c:=c) (th:=false) ⟨fun e=>(by cases e),fun e=>absurd e hc⟩
 all_goals
  refine jaJ rfl zq zK (Post:=fun v new=> ∃w,v= .tuple [w,.int .i64 (jaO b (jdN b c))].toArray∧(jaO b (jdN b c)=0→RdB B [] new w (jaR b))) (fun H' hH=>(f54_c m H' (ra.keeps (sq hH)) _ _).mono fun v h' ⟨new,e1,w,e2,e3⟩=>by rw [hsx] at e2 e3;exact ⟨new,e1,w,e2,e3⟩) ?_;rintro v nB ⟨w11,rfl,hB⟩;refine jaG (jad ?_);refine Z10 ?_
  refine jaP rfl zq (fun hc=>?_) (fun hc=>?_)
  ·refine Z9 ?_;refine jac (h) rfl Tryz.func11 rfl jaa ?_;refine Zs ?_
   exact ⟨[],by simp,_,rfl,by rw [jj4,if_neg zO];exact ⟨none,0,rfl,none,0,rfl,rfl,.inl ⟨rfl,rfl⟩⟩⟩
  ·refine Z4 ?_
   have hz0:jaO b (jdN b c)=0:=by omega
   obtain ⟨pl,cl2,bs,rfl,hBB⟩:=hB hz0
   obtain ⟨rB,eB⟩:=hBB nB (Ge _) (gE _)
   obtain ⟨ok,hcm,hne⟩:=jip hz0
   have hbl:=jdo ok
   have hbl2:=jbE ok
   have hel:=eB.len
   have hkl2:=jfX.2 hcm
   have h12:=jba ok
   have hbe: ∀i,i<(jaR b).length→((jaR b).getD i default)=((bs.getD i default).wr,(bs.getD i default).ms):=fun i hi=>by
    rw [←eB.1,gC,ga,gD (show i<bs.length by omega),gC,gD (show i<bs.length by omega)];rfl
   refine Z3 ?_;refine jag (Post:=fun v=>v= .int .i64 (plN b c:Int)) rfl zq zK (fun H' hH=>by have:=f56_c m H' ((ra.rd ok).keeps (sq hH)) c;rw [idx_pl hcm] at this;exact this) ?_
   rintro v rfl;refine Z13 ?_
   refine jaf (fun nn l h'=> ∃(i:Nat) (op:Option Addr) (oc:Nat) (Mo:Hp),nn=(jaR b).length-i∧(i≤(jaR b).length)∧(OwnS 3 1 (.slice op (jkF b (plN b c) i).length oc) (jkF b (plN b c) i).length (jaq (jkF b (plN b c) i)) Mo)∧(∃U:Nat→Value,l=((tbV b ps ns ks pw nw cw pb nb cb)::(cV c.butt c.line c.st)::(.pointer (some ⟨q2,0,none⟩))::(.pointer (some ⟨q3,0,none⟩))::(U 4)::(U 5)::(.slice pl (jaR b).length cl2)::(U 7)::(.int .i64 (plN b c:Int))::(.slice op (jkF b (plN b c) i).length oc)::(.int .i64 (i:Int))::vw41 U 11 []))∧h++[⟨true,q2,.cells (tbL b ps ns ks pw nw cw pb nb cb).toArray 25 (0,0)⟩,⟨true,q3,.cells [.bool c.butt,.int .i64 c.line,.int .i64 c.st].toArray 28 (0,0)⟩]++nB++Mo=h') _ ⟨0,none,0,[],rfl,by omega,OwnS.nil,exU rfl,zS⟩ ?_;rintro nn l h' ⟨i,op,oc,Mo,rfl,hi,how,⟨U,rfl⟩,rfl⟩ hnext;refine Z6 ?_
   refine jak rfl zq (fun hc=>?_) (fun hc=>?_)
   ·refine Z6 ?_
    have hil:i<(jaR b).length:=by omega
    obtain ⟨bb,bo,hpb⟩:=rB.ptr zO
    have rB2:=rB
    rw [hpb] at rB2
    obtain ⟨y,hy⟩: ∃y,y=bs.getD i default:=⟨_,rfl⟩
    have hym:y∈bs:=hy▸jal zO
    have hyq:=hbe i hil
    rw [←hy] at hyq
    have hqm:=jj6 ok (jal (l:=jaR b) hil)
    rw [hyq] at hqm
    obtain ⟨rY1,rY2⟩:=eB.2 y hym
    have hw1:y.wr.length≤12:=hqm.2
    have hm1:y.ms.length=(jab b).length:=hqm.1
    have hwl:=jqV b (plN b c) i
    refine Z3 ?_;refine ja1 rfl zq hpb zO zO ?_;refine Zs ?_;refine jaI (v:= .slice y.pw y.wr.length y.cw) rfl zq (hy▸rB2.fat i 0 zO zO rfl) ?_;refine Zs ?_;refine jag (Post:=fun v=>IsB _ v) rfl zq zK (fun H' hH=>f44_c m H' _ (rY1.keeps (sq hH)) zO) ?_
    rintro v (⟨hc,rfl⟩|⟨hc,rfl⟩);refine Zs ?_
    have hms:=mesK_no (b:=b) (k:=plN b c) hil (by rw [hyq];exact hc)
    refine Z4 ?_
    rotate_left
    refine Zs ?_
    have hms:=mesK_yes (b:=b) (k:=plN b c) hil (by rw [hyq];exact hc)
    rw [hyq] at hms
    obtain ⟨mb,mo,hmp⟩:=rY2.ptr zO
    have rM2:=rY2
    rw [hmp] at rM2
    refine Z3 ?_;refine D60 ?_;refine Z3 ?_;refine ja1 rfl zq hpb zO zO ?_;refine Zs ?_;refine jaI (v:= .slice y.pm y.ms.length y.cm) rfl zq (hy▸rB2.fat i 1 zO zO rfl) ?_;refine Zs ?_;refine ja1 rfl zq hmp zO zO ?_;refine jaI rfl zq (rM2.iat (plN b c) zO zO) ?_
    refine jcb kdq rfl zq zA zA rfl (fun q48=>jap (jad ?_));refine ja2 rfl zq rfl how kdq zO zO (fun w9 n9 o9=>jad ?_);replace o9:OwnS 3 1 w9 (jkF b (plN b c) (i+1)).length (jaq (jkF b (plN b c) (i+1))) n9:=by rw [hms,jaZ,gJ];exact o9
    obtain ⟨p9,c9,rfl,_⟩:=o9.len
    refine Z2 ?_
    all_goals
     refine Z6 ?_
    ·refine m.weak (h':=h++[⟨true,q2,.cells (tbL b ps ns ks pw nw cw pb nb cb).toArray 25 (0,0)⟩,⟨true,q3,.cells [.bool c.butt,.int .i64 c.line,.int .i64 c.st].toArray 28 (0,0)⟩]++nB++n9) jfM ?_
     exact hnext _ _ _ zO ⟨i+1,p9,c9,n9,rfl,by omega,o9,exU rfl,rfl⟩
    ·rw [←hms];exact m.weak jaa (hnext _ _ _ zO ⟨i+1,op,oc,Mo,rfl,by omega,by rw [hms];exact how,exU rfl,rfl⟩)
   ·refine Z4 ?_
    obtain rfl:i=(jaR b).length:=by omega
    have rO:=how.rd (B:=B) (gE _)
    have hwl:=jqV b (plN b c) (jaR b).length
    refine Z2 ?_;refine jaJ rfl zq zK (Post:=fun v new=> ∃ys,Asc ys∧(∀z,z∈ys↔z∈jkF b (plN b c) (jaR b).length)∧OwnS 3 1 v ys.length (jaq ys) new) (fun H' hH=>f57_c m H' (rO.keeps (sq hH)) zO) ?_
    rintro w nY ⟨ys,hya,hym,oY⟩;refine jaG (jad ?_);have hyc:ys=jj4 b c:=by
     rw [jj4,if_pos hz0];exact jop hya (joq hkl2) fun z=>(hym z).trans (mesK_mem ok hkl2)
    refine Z4 ?_;refine jac (h++nY) rfl Tryz.func11 rfl jaa ?_;refine Zs ?_
    exact ⟨nY,rfl,w,by rw [hz0],by rw [←hyc];exact OwnS.rdI oY⟩
theorem f18_c (m:Md Tryz.prog B) (h:Hp) {b:Tb} (ra:RawTb B h b ps ns ks pw nw cw pb nb cb):FnC m 18 #[tbV b ps ns ks pw nw cw pb nb cb] h fun v h'=> ∃new,h'=h++new∧ ∃w g,v= .tuple [w,.int .i64 (tbS b)].toArray∧RdI B new w g∧(tbS b≠0→g=[])∧(tbS b=0→jd5 (fun l=>jm2 b (jbe l)=true) (jab b).length g):=by
 refine jae Tryz.func18 rfl rfl (l:=(tbV b ps ns ks pw nw cw pb nb cb)::uu47) rfl ?_
 intro cf cs K hK
 refine Z2 ?_
 refine jaF rfl zq (fun q1=>jap (jad ?_));refine Z7 ?_;refine jag (Post:=fun v=>v= .int .i64 (tbS b)) rfl zq zK (fun H' hH=>f40_r m H' (ra.keeps (sq hH))) ?_
 rintro v rfl;refine Z6 ?_
 refine jaP rfl zq (fun hc=>?_) (fun hc=>?_)
 ·refine Z9 ?_;refine jac (h) rfl Tryz.func18 rfl jaa ?_;refine Zs ?_
  exact ⟨[],by simp,_,[],rfl,⟨none,0,rfl,none,0,rfl,rfl,.inl ⟨rfl,rfl⟩⟩,fun _=>rfl,fun e=>absurd e zO⟩
 ·refine Z4 ?_
  have hz:tbS b=0:=by omega
  have ok:=jdL hz
  have h12:=jba ok
  have rd:=ra.rd ok
  refine Z2 ?_;refine jaJ rfl zq zK (Post:=fun w new=>OwnS 28 3 w (jab b).length (jay (jab b)) new) (fun H' hH=>f41_c _ H' (rd.keeps (sq hH))) ?_
  rintro w n7 o7;refine jaG (jad ?_);obtain ⟨p7,c7,rfl,hc7,r7⟩:=jas (B:=B) o7
  refine Zs ?_;refine jaJ rfl zq zK (Post:=fun w new=>OwnS 3 1 w (jab b).length (jaq (jbk (jab b).length)) new) (fun H' hH=>f62_c m H' (jab b).length zO) ?_
  rintro w nF oF;refine jaG (jad ?_);obtain ⟨pF,cF,rfl,_,rF⟩:=jas (B:=B) oF
  refine Z7 ?_;refine jaJ rfl zq zK (Post:=fun v new=>RdL B [] new v (jar (jab b).length (jab b).length)) (fun H' hH=>f63_c m H' (rF.keeps (sq hH)) h12 (jab b).length zO) ?_
  rintro v nS ⟨pS,cS,vsS,rfl,hSS⟩;refine jaG (jad ?_);obtain ⟨rSv,rSe⟩:=hSS nS (Ge _) (gE _)
  have hs4:=jkk (jab b).length h12
  refine Z8 ?_;refine m.weak (h':=h++[⟨true,q1,.cells (tbL b ps ns ks pw nw cw pb nb cb).toArray 25 (0,0)⟩]++nF++nS) jaa ?_
  have hfl:=jph (jab b).length
  rw [show (.slice pF (jab b).length cF:Value)= .slice pF (jbk (jab b).length).length cF by rw [hfl]];refine jaf (fun nn l h'=> ∃(i:Nat) (gg:List Int) (pg:Option Addr) (cg:Nat),nn=(jar (jab b).length (jab b).length).length-i∧(i≤(jar (jab b).length (jab b).length).length)∧(BestI b i gg)∧(RdS B (nF++nS) 1 (.slice pg gg.length cg) gg.length (jaq gg))∧(∃U:Nat→Value,l=((tbV b ps ns ks pw nw cw pb nb cb)::(.pointer (some ⟨q1,0,none⟩))::(U 2)::(U 3)::(U 4)::(.slice pg gg.length cg)::(.slice pS (jar (jab b).length (jab b).length).length cS)::(.int .i64 (i:Int))::vw40 U 8 []))∧h++[⟨true,q1,.cells (tbL b ps ns ks pw nw cw pb nb cb).toArray 25 (0,0)⟩]++nF++nS=h') _ ⟨0,jbk (jab b).length,pF,cF,rfl,by omega,jps b,by rw [hfl];exact rF.keeps (gI _ _),exU rfl,rfl⟩ ?_;rintro nn l h' ⟨i,gg,pg,cg,rfl,hi,hB,rg,⟨U,rfl⟩,rfl⟩ hnext;refine Z6 ?_
  refine jak rfl zq (fun hc=>?_) (fun hc=>?_)
  ·refine Z6 ?_
   have hil:i<(jar (jab b).length (jab b).length).length:=by omega
   obtain ⟨pk,ck,ek,rk⟩:=rSe.2 i hil
   obtain ⟨b5,o5,hp5⟩:=rSv.ptr zO
   have rS2:=rSv
   rw [hp5] at rS2
   obtain ⟨hlk,hak,hrk⟩:=jb9 (jal (l:=(jar (jab b).length (jab b).length)) hil)
   replace hlk:((jar (jab b).length (jab b).length).getD i []).length≤(jab b).length:=hlk
   replace hrk: ∀z∈(jar (jab b).length (jab b).length).getD i [],0≤z∧z<((jab b).length:Int):=hrk
   have hgl:=ji6 hB.asc hB.rng
   have hww:=fewW (b:=b) (l:=(jar (jab b).length (jab b).length).getD i []) fun z hz=>(hrk z hz).1
   refine jan [Zp 0,Zp 1,Zp 2,Zp 4,Zr 3,Zk 5,Zp 6,Zp 8,Zp 9,Zp 10,Zr 7,Zr 11,Zk 12,Zp 13,Zp 14,Zp 15] zK zK (gE _) ?_;refine Z2 ?_;refine ja1 rfl zq hp5 zO zO ?_;refine Zs ?_;refine jaI (v:= .slice pk ((jar (jab b).length (jab b).length).getD i []).length ck) rfl zq (by rw [←ek];exact rS2.vat i zO zO) ?_;refine jag (Post:=fun v=>IsB _ v) rfl zq zK (fun H' hH=>f64_c m H' (rk.keeps (sq hH)) zO (rg.keeps (sq hH))) ?_;rintro v (⟨hc,rfl⟩|⟨hc,rfl⟩)
   ·refine Zs ?_
    have hfw:=hc
    refine Z3 ?_;refine ja1 rfl rfl hp5 zO zO ?_;refine jhx rfl rfl ?_;refine jaI (v:= .slice pk ((jar (jab b).length (jab b).length).getD i []).length ck) rfl rfl (by rw [←ek];exact rS2.vat i zO zO) ?_;refine jaJ rfl rfl zK (Post:=fun v new=>RdB B nS new v ((jcU b ((jar (jab b).length (jab b).length).getD i [])).map fun ms=>((jar (jab b).length (jab b).length).getD i [],ms))) (fun H' hH=>f65_c m H' nS (ra.keeps (sq hH)) ok zO (sq hH) rk (jkz ok _)) ?_
    rintro v n98 ⟨p98,c98,bs98,rfl,h98⟩;refine jaG (jad ?_);refine jhw rfl rfl ?_;refine jaz rfl rfl (fun hc=>?_) (fun hc=>?_);refine Z6 ?_;refine ja1 rfl zq hp5 zO zO ?_;refine jaI (v:= .slice pk ((jar (jab b).length (jab b).length).getD i []).length ck) rfl zq (by rw [←ek];exact rS2.vat i zO zO) ?_;refine Z2 ?_
    rotate_left
    refine Z4 ?_
    all_goals
     refine Z6 ?_
    ·exact m.weak jaa (hnext _ _ _ zO ⟨i+1,gg,pg,cg,rfl,by omega,hB.keep fun e=>by have:=hww.2 e.2;omega,rg,exU rfl,rfl⟩)
    ·exact m.weak jaa (hnext _ _ _ zO ⟨i+1,(jar (jab b).length (jab b).length).getD i [],pk,ck,rfl,by omega,hB.take hil hfw (hww.1 zO),rk.keeps (gM _ _),exU rfl,rfl⟩)
   ·refine Zs ?_
    have hnf:=hc
    refine Z19 ?_
    exact m.weak jaa (hnext _ _ _ zO ⟨i+1,gg,pg,cg,rfl,by omega,hB.keep fun e=>hnf e.1,rg,exU rfl,rfl⟩)
  ·refine Z4 ?_
   obtain rfl:i=(jar (jab b).length (jab b).length).length:=by omega
   refine Z6 ?_;refine jac (h++nF++nS) rfl Tryz.func18 rfl jaa ?_;refine Zs ?_
   exact ⟨nF++nS,by rw [gG],_,gg,by rw [hz],⟨pg,cg,rfl,rg⟩,fun e=>absurd hz e,fun _=>hB.all⟩
end
section
variable [LaidO B]
theorem callB36:jbM Tryz.prog 36=true:=by kernel_rfl
end
section
variable [LaidO B]
def jdT (l:List Int) (N:Int) (i:Nat):Int:=if¬(0≤l.getD i 0∧l.getD i 0≤N-1) then 6 else if 0<i∧l.getD i 0≤l.getD (i-1) 0 then 7 else 0
def jgD (l:List Int) (N:Int):Int:=(((List.range l.length).map (jdT l N)).find? fun z=>decide (z≠0)).getD 0
theorem jhE (h0: ∀j,j<i→jdT l N j=0) (hi:i<l.length) (h:jdT l N i≠0):jgD l N=jdT l N i:=by
 have e:(List.range l.length)=(List.range i)++(List.range (l.length-i)).map (i+ ·):=by rw [←List.range_add];congr 1;omega
 obtain ⟨m,hm⟩: ∃m,l.length-i=m+1:=⟨l.length-i-1,by omega⟩
 rw [jgD,e,hm,GA,List.find?_append,List.range_succ_eq_map];have h1:((List.range i).map (jdT l N)).find? (fun z=>decide (z≠0))=none:=List.find?_eq_none.2 fun z hz=>by
  obtain ⟨j,hj,rfl⟩:=gP.1 hz
  rw [h0 j (gT.1 hj)];decide
 rw [h1,gu,gu,vg,List.find?_cons_of_pos (by simpa using h)];rfl
theorem jnC (h0: ∀j,j<l.length→jdT l N j=0):jgD l N=0:=by
 have h1:((List.range l.length).map (jdT l N)).find? (fun z=>decide (z≠0))=none:=List.find?_eq_none.2 fun z hz=>by
  obtain ⟨j,hj,rfl⟩:=gP.1 hz
  rw [h0 j (gT.1 hj)];decide
 rw [jgD,h1];rfl
theorem jp2 (h: ¬(0≤l.getD i 0∧l.getD i 0≤N-1)):jdT l N i=6:=by rw [jdT,if_pos h]
theorem jp1 (h:0≤l.getD i 0∧l.getD i 0≤N-1) (h2:0<i∧l.getD i 0≤l.getD (i-1) 0):jdT l N i=7:=by rw [jdT,if_neg (fun e=>e h),if_pos h2]
theorem jkm (h:0≤l.getD i 0∧l.getD i 0≤N-1) (h2: ¬(0<i∧l.getD i 0≤l.getD (i-1) 0)):jdT l N i=0:=by rw [jdT,if_neg (fun e=>e h),if_neg h2]
theorem jjA (h:jdT l N i=0):(0≤l.getD i 0∧l.getD i 0≤N-1)∧ ¬(0<i∧l.getD i 0≤l.getD (i-1) 0):=by
 unfold jdT at h
 split at h
 ·cases h
 ·split at h
  ·cases h
  ·rename_i h1 h2
   exact ⟨Gq.1 h1,h2⟩
theorem jf2 (h0: ∀j,j<i→jdT l N j=0) (h:jdT l N i=0): ∀j,j<i+1→jdT l N j=0:=fun j hj=>by
 by_cases e:j<i
 ·exact h0 j e
 ·obtain rfl:j=i:=by omega
  exact h
def jk4 (b:Tb) (wr ms:List Int):Int:=if tbS b≠0 then tbS b else if jgD wr (jab b).length≠0 then jgD wr (jab b).length else if ms.length≠(jab b).length then 2 else if∃j,j<ms.length∧ ¬(0≤ms.getD j 0∧ms.getD j 0≤959) then 1 else 0
theorem f42_g (m:Md Tryz.prog B) (h:Hp) {c:Nat} (rd:RdS B h 1 (.slice p n c) n (jaq xs)) (hn:n≤1000) (hN:0≤N∧N≤1000):FnC m 42 #[.slice p n c,.int .i64 N] h fun v h'=>h'=h∧v= .int .i64 (jgD xs N):=by
 have hxl:=jej rd
 refine jae Tryz.func42 rfl rfl (l:=(.slice p n c)::(.int .i64 N)::uu32) rfl ?_
 intro cf cs K hK
 refine Z10 ?_
 refine jaf (fun nn l h'=> ∃(i:Nat),nn=n-i∧(i≤n)∧(∀j,j<i→jdT xs N j=0)∧(∃U:Nat→Value,l=((.slice p n c)::(.int .i64 N)::(U 2)::(U 3)::(U 4)::(.int .i64 (i:Int))::vw28 U 6 []))∧h=h') _ ⟨0,rfl,by omega,fun j hj=>by omega,exU rfl,rfl⟩ ?_;rintro nn l h' ⟨i,rfl,hi,h0,⟨U,rfl⟩,rfl⟩ hnext;refine Z6 ?_
 refine jak rfl zq (fun hc=>?_) (fun hc=>?_)
 ·refine Z7 ?_
  have hin:i<xs.length:=by omega
  obtain ⟨pb,po,hxp⟩:=rd.ptr zO
  have rd2:=rd
  rw [hxp] at rd2
  refine Z3 ?_;refine ja1 rfl zq hxp zO zO ?_;refine jaI rfl zq (rd2.iat i zO zO) ?_;refine Z2 ?_;refine D63 ?_
  rintro v (⟨hc,rfl⟩|⟨hc,rfl⟩)
  ·refine Zs ?_
   have hin2:=hc
   refine Z5 ?_;refine jan [Zp 0,Zp 1,Zp 2,Zp 3,Zp 4,Zp 5,Zp 7,Zp 8,Zp 9,Zp 10,Zr 6,Zr 11,Zp 12,Zp 13] zK zK (gE _) ?_;refine Zs ?_
   refine jaz rfl zq (fun hc=>?_) (fun hc=>?_)
   ·obtain ⟨i1,hi1⟩: ∃i1,i=i1+1:=⟨i-1,by omega⟩
    refine Z3 ?_;refine ja1 rfl rfl hxp zO zO ?_;refine Z2 ?_;refine D100 ?_;refine ja1 rfl rfl hxp zO zO ?_;refine jaI rfl rfl (rd2.iat i zO zO) ?_;refine jaI rfl rfl (rd2.iat (i-1) zO zO) ?_
    refine jbK rfl rfl (fun hc=>?_) (fun hc=>?_)
    ·have hs7:=jp1 hin2 ⟨by omega,hc⟩
     refine Z8 ?_;refine jac (h) rfl Tryz.func42 rfl jaa ?_;refine Zs ?_
     exact ⟨rfl,by rw [jhE h0 hin (by rw [hs7];decide),hs7]⟩
    ·have hs0:=jkm hin2 fun e=>by omega
     refine Z10 ?_
     exact m.weak jaa (hnext _ _ _ zO ⟨i+1,rfl,by omega,jf2 h0 hs0,exU rfl,rfl⟩)
   ·have hs0:=jkm hin2 fun e=>by omega
    refine Z21 ?_
    exact m.weak jaa (hnext _ _ _ zO ⟨i+1,rfl,by omega,jf2 h0 hs0,exU rfl,rfl⟩)
  ·refine Zs ?_
   have hs6:=jp2 (l:=xs) (N:=N) (i:=i) hc
   refine Z8 ?_;refine jac (h) rfl Tryz.func42 rfl jaa ?_;refine Zs ?_
   exact ⟨rfl,by rw [jhE h0 hin (by rw [hs6];decide),hs6]⟩
 ·refine Z8 ?_;refine jac (h) rfl Tryz.func42 rfl jaa ?_;refine Zs ?_
  exact ⟨rfl,by rw [jnC fun j hj=>h0 j zO]⟩
end
section
variable [LaidO B]
def okK (b:Tb) (wr ms:List Int) (k:Nat):Prop:= ∀j,j<k→(j:Int)∉wr→ms.getD j 0∈jdw (jcG b ((jab b).getD j default))∧ ∀i:Nat,i<j→(i:Int)∉wr→jaS b ((jab b).getD i default) ((jab b).getD j default) (ms.getD i 0) (ms.getD j 0)=true
theorem okK_zero (b:Tb) (wr ms:List Int):okK b wr ms 0:=fun j hj=>by omega
theorem okK_no {b:Tb} (h:(k:Int)∈wr):okK b wr ms (k+1)↔okK b wr ms k:=⟨fun o j hj=>o j zO,fun o j hj hw=>by
 by_cases e:j<k
 ·exact o j e hw
 ·obtain rfl:j=k:=by omega
  exact absurd h hw⟩
theorem jkB {b:Tb} (h:(k:Int)∉wr):okK b wr ms (k+1)↔okK b wr ms k∧ms.getD k 0∈jdw (jcG b ((jab b).getD k default))∧ ∀i:Nat,i<k→(i:Int)∉wr→jaS b ((jab b).getD i default) ((jab b).getD k default) (ms.getD i 0) (ms.getD k 0)=true:=
 ⟨fun o=>⟨fun j hj=>o j zO,o k zO h⟩,fun ⟨o,o2⟩ j hj hw=>by
  by_cases e:j<k
  ·exact o j e hw
  ·obtain rfl:j=k:=by omega
   exact o2⟩
theorem okK_all {b:Tb}:okK b wr ms (jab b).length↔jjl b wr ms:=⟨fun o=>⟨fun i hi hw=>(o i hi hw).1,fun i j hij hj wi wj=>(o j hj wj).2 i hij wi⟩,fun o j hj hw=>⟨o.1 j hj hw,fun i hij wi=>o.2 i j hij hj wi hw⟩⟩
theorem jrA {b:Tb} (hr: ∀x∈wr,0≤x) (h12:(jab b).length≤12) (hk:k<(jab b).length) (hw:(k:Int)∉wr):fitsN (cdT b) (jbe wr) (msK wr ms (k+1)) k k↔ ∀i:Nat,i<k→(i:Int)∉wr→jaS b ((jab b).getD i default) ((jab b).getD k default) (ms.getD i 0) (ms.getD k 0)=true:=by
 have e: ∀i,i<k→(i:Int)∉wr→riC (dA (cdT b) i) (dA (cdT b) k) ((msK wr ms (k+1)).getD i 0) ((msK wr ms (k+1)).getD k 0)=jaS b ((jab b).getD i default) ((jab b).getD k default) (ms.getD i 0) (ms.getD k 0):=fun i hi hiw=>by
  rw [msK_at zO,msK_at zO,if_pos ⟨by omega,hiw⟩,if_pos ⟨by omega,hw⟩,jav b zO,jav b hk,jqo]
 constructor
 ·intro h i hi hiw
  rw [←e i hi hiw];exact h i hi (by rw [jbn hr,decide_eq_false hiw])
 ·intro h i hi hb
  rw [jbn hr,decide_eq_false_iff_not] at hb
  rw [e i hi hb];exact h i hi hb
theorem jrn {b:Tb} (h:tbS b≠0):jk4 b wr ms=tbS b:=by rw [jk4,if_pos h]
section
variable {b:Tb} (hz:tbS b=0)
include hz
theorem jiD (h:jgD wr (jab b).length≠0):jk4 b wr ms=jgD wr (jab b).length:=by rw [jk4,if_neg (fun e=>e hz),if_pos h]
variable (h0:jgD wr (jab b).length=0)
include h0
theorem isbS_2 (h:ms.length≠(jab b).length):jk4 b wr ms=2:=by rw [jk4,if_neg (fun e=>e hz),if_neg (fun e=>e h0),if_pos h]
variable (hm:ms.length=(jab b).length)
include hm
theorem isbS_1 (h: ∃j,j<ms.length∧ ¬(0≤ms.getD j 0∧ms.getD j 0≤959)):jk4 b wr ms=1:=by rw [jk4,if_neg (fun e=>e hz),if_neg (fun e=>e h0),if_neg (fun e=>e hm),if_pos h]
theorem isbS_0 (h: ¬ ∃j,j<ms.length∧ ¬(0≤ms.getD j 0∧ms.getD j 0≤959)):jk4 b wr ms=0:=by rw [jk4,if_neg (fun e=>e hz),if_neg (fun e=>e h0),if_neg (fun e=>e hm),if_neg h]
end
theorem f6_c (m:Md Tryz.prog B) (h:Hp) {b:Tb} (ra:RawTb B h b ps ns ks pw nw cw pb nb cb) {pW:Option Addr} (rW:RdS B h 1 (.slice pW nW cW) nW (jaq wr)) (rM:RdS B h 1 (.slice pM nM cM) nM (jaq ms)) (hnW:nW≤1000) (hnM:nM≤1000):FnC m 6 #[tbV b ps ns ks pw nw cw pb nb cb,.slice pW nW cW,.slice pM nM cM] h fun v h'=>h'=h∧ ∃w,v= .tuple [w,.int .i64 (jk4 b wr ms)].toArray∧IsB (jk4 b wr ms=0∧(wr.length:Int)≤b.wrong∧jjl b wr ms) w:=by
 have hwl:=jej rW
 have hmlen:=jej rM
 refine jae Tryz.func6 rfl rfl (l:=[tbV b ps ns ks pw nw cw pb nb cb,.slice pW nW cW,.slice pM nM cM,undef,undef,undef,undef,undef,undef,undef,undef,undef,undef,undef,undef,undef,undef,undef,undef,undef,undef,undef,undef,undef,undef,undef,undef,undef,undef,undef,undef,undef,undef,undef,undef,undef,undef,undef,undef,undef,undef,undef,undef,undef,undef,undef,undef,undef,undef,undef,undef,undef,undef,undef,undef,undef,undef,undef,undef,undef,undef,undef,undef,undef,undef,undef,undef,undef,undef,undef,undef,undef,undef,undef,undef,undef,undef,undef,undef,undef,undef,undef,undef,undef,undef,undef,undef,undef,undef,undef,undef,undef,undef,undef,undef,undef,undef,undef,undef,undef,undef,undef,undef,undef,undef,undef,undef,undef,undef,undef]) rfl ?_
 intro cf cs K hK
 refine Z2 ?_
 refine jaF rfl zq (fun q3=>jap (jad ?_));refine Z7 ?_;refine jag (Post:=fun v=>v= .int .i64 (tbS b)) rfl zq zK (fun H' hH=>f31_r m H' (ra.keeps (sq hH))) ?_
 rintro v rfl;refine Z6 ?_
 refine jaP rfl zq (fun hc=>?_) (fun hc=>?_)
 ·have hzn:tbS b≠0:=hc
  refine Z9 ?_;refine jac (h) rfl Tryz.func6 rfl jaa ?_;refine Zs ?_
  have hs:=jrn (wr:=wr) (ms:=ms) hzn
  exact ⟨rfl,_,by rw [hs],IsB.no fun e=>by rw [hs] at e;exact hzn e.1⟩
 ·have hz:tbS b=0:=by omega
  have ok:=jdL hz
  have h12:=jba ok
  have hwo:=ok.wrong
  refine Z6 ?_;refine jaJ rfl zq zK (Post:=fun v new=> ∃q,v= .pointer (some ⟨q,0,none⟩)∧Sheet B new b q (tbL b ps ns ks pw nw cw pb nb cb)) (fun H' hH=>f32_r m H' (ra.keeps (sq hH)) ok) ?_
  rintro v nS ⟨qs,rfl,sh⟩;refine jaG (jad ?_);obtain ⟨pc,cc,hcv,hcc,hcr⟩:=sh.cells
  refine Z4 ?_
  refine jaB rfl zq (fun qb=>jap (jad ?_));refine Z9 ?_
  refine jaf (fun nn l h'=> ∃(i:Nat),nn=nW-i∧(i≤nW)∧(∀j,j<i→jdT wr (jab b).length j=0)∧(∃U:Nat→Value,l=((tbV b ps ns ks pw nw cw pb nb cb)::(.slice pW nW cW)::(.slice pM nM cM)::(.pointer (some ⟨q3,0,none⟩))::vw5 U 4 ((.pointer (some ⟨qs,0,none⟩))::(.pointer (some ⟨qb,0,none⟩))::vw12 U 11 ((.slice pW nW cW)::(.int .i64 (nW:Int))::(.int .i64 (i:Int))::vw84 U 26 []))))∧h++[⟨true,q3,.cells (tbL b ps ns ks pw nw cw pb nb cb).toArray 25 (0,0)⟩]++nS++[⟨true,qb,.cells (btL (jbe (wr.take i)) (List.replicate 12 0)).toArray 68 (0,0)⟩]=h') _ ⟨0,rfl,by omega,fun j hj=>by omega,exU rfl,(by rfl)⟩ ?_;rintro nn l h' ⟨i,rfl,hi,h0,⟨U,rfl⟩,rfl⟩ hnext1;refine Z2 ?_
  refine jak rfl zq (fun hc=>?_) (fun hc=>?_)
  ·refine Z7 ?_
   have hin:i<wr.length:=by omega
   obtain ⟨wb,wo,hwp⟩:=rW.ptr zO
   have rW2:=rW
   rw [hwp] at rW2
   have htk: ∀z∈wr.take i,0≤z∧z<12:=fun z hz=>by
    obtain ⟨j,hj,rfl⟩:=jcx.1 hz
    rw [GH] at hj
    have:=(jjA (h0 j zO)).1
    rw [show (wr.take i).getD j 0=wr.getD j 0 by rw [gC,GZ,if_pos zO,gC]];omega
   have hsw:=jia htk
   refine Z2 ?_;refine ja1 rfl zq hwp zO zO ?_;refine jaI rfl zq (rW2.iat i zO zO) ?_;refine Z11 ?_;refine D70 ?_;refine Z2 ?_;refine D21 ?_
   rintro v (⟨hc,rfl⟩|⟨hc,rfl⟩)
   ·refine Zs ?_
    have hin2:=hc
    obtain ⟨wn,hwn⟩: ∃wn:Nat,wr.getD i 0=(wn:Int):=⟨(wr.getD i 0).toNat,by omega⟩
    have hsn:jbe (wr.take i)|||2^wn=jbe (wr.take (i+1)):=by
     rw [ja5 wr i zO,joM,show wr.getD i default=wr.getD i 0 from rfl,hwn,gb]
    refine Z5 ?_;refine D60 ?_;refine Zs ?_
    refine jaz rfl zq (fun hc=>?_) (fun hc=>?_)
    ·obtain ⟨i1,hi1⟩: ∃i1,i=i1+1:=⟨i-1,by omega⟩
     refine Z4 ?_;refine D100 ?_;refine ja1 rfl rfl hwp zO zO ?_;refine jaI rfl rfl (rW2.iat (i-1) zO zO) ?_
     refine jbK rfl rfl (fun hc=>?_) (fun hc=>?_)
     ·have hs7:=jp1 hin2 ⟨by omega,hc⟩
      refine Z10 ?_;refine jac (h) rfl Tryz.func6 rfl jaa ?_;refine Zs ?_
      have hr7:=jhE h0 hin (by rw [hs7];decide)
      rw [hs7] at hr7
      have hs:=jiD (ms:=ms) hz (by rw [hr7];decide)
      rw [hr7] at hs
      exact ⟨rfl,_,by rw [hs],IsB.no fun e=>by rw [hs] at e;exact absurd e.1 zA⟩
     ·have hs0:=jkm hin2 fun e=>by omega
      refine Z6 ?_
      rw [hwn];refine Z4 ?_;refine jag (Post:=fun v=>v= .int .u64 ((jbe (wr.take _)|||2^wn:Nat):Int)) rfl zq zK (fun H' hH=>f34_c m H' (jbe (wr.take _)) wn hsw zO) ?_
      rintro v rfl;refine Z2 ?_
      haveI hsg:=fun s:Nat=>jon (s:=s) (z:=s|||2^wn) (ms:=(List.replicate 12 0))
      refine D9 ?_;refine Z6 ?_
      rw [hsn];exact m.weak jaa (hnext1 _ _ _ zO ⟨i+1,rfl,by omega,jf2 h0 hs0,exU rfl,rfl⟩)
    ·have hs0:=jkm hin2 fun e=>by omega
     refine Z14 ?_
     rw [hwn];refine Z4 ?_;refine jag (Post:=fun v=>v= .int .u64 ((jbe (wr.take _)|||2^wn:Nat):Int)) rfl zq zK (fun H' hH=>f34_c m H' (jbe (wr.take _)) wn hsw zO) ?_
     rintro v rfl;refine Z2 ?_
     haveI hsg:=fun s:Nat=>jon (s:=s) (z:=s|||2^wn) (ms:=(List.replicate 12 0))
     refine D9 ?_;refine Z6 ?_
     rw [hsn];exact m.weak jaa (hnext1 _ _ _ zO ⟨i+1,rfl,by omega,jf2 h0 hs0,exU rfl,rfl⟩)
   ·refine Zs ?_
    have hs6:=jp2 (l:=wr) (N:=(jab b).length) (i:=i) hc
    refine Z10 ?_;refine jac (h) rfl Tryz.func6 rfl jaa ?_;refine Zs ?_
    have hr6:=jhE h0 hin (by rw [hs6];decide)
    rw [hs6] at hr6
    have hs:=jiD (ms:=ms) hz (by rw [hr6];decide)
    rw [hr6] at hs
    exact ⟨rfl,_,by rw [hs],IsB.no fun e=>by rw [hs] at e;exact absurd e.1 zA⟩
  ·refine Z7 ?_
   obtain rfl:i=nW:=by omega
   have hrz:=jnC (l:=wr) (N:=(jab b).length) fun j hj=>h0 j zO
   have hr: ∀x∈wr,0≤x∧x<((jab b).length:Int):=fun x hx=>by
    obtain ⟨j,hj,rfl⟩:=jcx.1 hx
    have:=(jjA (h0 j zO)).1
    omega
   rw [gh zO];have hsw:=jia (l:=wr) fun z hz=>by have:=hr z hz;omega
   have hr0: ∀z∈wr,0≤z:=fun z hz=>(hr z hz).1
   refine Z6 ?_;refine D70 ?_;refine Zs ?_
   refine jaP rfl zq (fun hc=>?_) (fun hc=>?_)
   ·have hs2:=isbS_2 hz hrz (ms:=ms) zO
    refine Z9 ?_;refine jac (h) rfl Tryz.func6 rfl jaa ?_;refine Zs ?_
    exact ⟨rfl,_,by rw [hs2],IsB.no fun e=>by rw [hs2] at e;exact absurd e.1 zA⟩
   ·have hmN:ms.length=(jab b).length:=by omega
    refine Z6 ?_;refine jag (Post:=fun v=>IsB _ v) rfl zq zK (fun H' hH=>f35_c m H' (rM.keeps (sq hH)) zO (fid:=36) (fc:= #[]) (cp:= #[]) (pr:=fun j=> ¬(0≤ms.getD j 0∧ms.getD j 0≤959)) callB36 (fun j hj H2 _=>f36_c m H2 _)) ?_
    rintro v (⟨hc,rfl⟩|⟨hc,rfl⟩)
    ·refine Zs ?_
     have hs1:=isbS_1 hz hrz hmN (by rw [hmlen];exact hc)
     refine Z9 ?_;refine jac (h) rfl Tryz.func6 rfl jaa ?_;refine Zs ?_
     exact ⟨rfl,_,by rw [hs1],IsB.no fun e=>by rw [hs1] at e;exact absurd e.1 zA⟩
    ·refine Zs ?_
     have hsz:=isbS_0 hz hrz hmN (by rw [hmlen];exact hc)
     refine Z11 ?_;refine k_leq rfl zq ?_;refine Z10 ?_
     refine jaf (fun nn l h'=> ∃(k:Nat) (q:Bool),nn=nM-k∧(k≤nM)∧(q=true↔((wr.length:Int)≤b.wrong∧okK b wr ms k))∧(∃U:Nat→Value,l=((tbV b ps ns ks pw nw cw pb nb cb)::(.slice pW i cW)::(.slice pM nM cM)::(.pointer (some ⟨q3,0,none⟩))::vw5 U 4 ((.pointer (some ⟨qs,0,none⟩))::(.pointer (some ⟨qb,0,none⟩))::(U 11)::(U 12)::(.bool q)::(U 14)::(U 15)::(U 16)::(U 17)::vw57 U 18 ((.slice pM nM cM)::(.int .i64 (nM:Int))::(.int .i64 (k:Int))::vw32 U 78 []))))∧h++[⟨true,q3,.cells (tbL b ps ns ks pw nw cw pb nb cb).toArray 25 (0,0)⟩]++nS++[⟨true,qb,.cells (btL (jbe wr) (msK wr ms k)).toArray 68 (0,0)⟩]=h') _ ⟨0,decide ((i:Int)≤b.wrong),rfl,by omega,by rw [decide_eq_true_eq,hwl];exact ⟨fun e=>⟨e,okK_zero _ _ _⟩,fun e=>e.1⟩,exU rfl,(by rw [msK_zero])⟩ ?_;rintro nn l h' ⟨k,q,rfl,hk,hq,⟨U,rfl⟩,rfl⟩ hnext2;refine Z2 ?_
     refine jak rfl zq (fun hc=>?_) (fun hc=>?_)
     ·refine Z7 ?_
      have hkn:k<(jab b).length:=by omega
      have hk12:k<12:=by omega
      obtain ⟨mb,mo,hmp⟩:=rM.ptr zO
      have rM2:=rM
      rw [hmp] at rM2
      obtain ⟨cp,ck,hcan,hccl,hcr2⟩:=sh.can k hkn
      have h960:=jna b hkn
      have hcan2:Rd B nS ⟨qs,18+(k:Int).toNat*1,none⟩ (.slice cp (dA (cdT b) k).can.length ck):=by rw [gb,GK];exact hcan
      refine Z2 ?_;refine ja1 rfl zq hmp zO zO ?_;refine jaI rfl zq (rM2.iat k zO zO) ?_;refine Z8 ?_;refine jag (Post:=fun v=>IsB _ v) rfl zq zK (fun H' hH=>f37_b m H' (jbe wr) k hsw hk12) ?_
      rintro v (⟨hc,rfl⟩|⟨hc,rfl⟩)
      ·refine Zs ?_
       have hkw:=(jjD hr0).1 hc
       refine Z9 ?_
       rw [←msK_no hkw];exact m.weak jaa (hnext2 _ _ _ zO ⟨k+1,q,rfl,by omega,by rw [okK_no hkw];exact hq,exU rfl,rfl⟩)
      ·refine Zs ?_
       have hkw:(k:Int)∉wr:=fun e=>hc ((jjD hr0).2 e)
       have hfit:=jrA (ms:=ms) hr0 h12 hkn hkw
       refine Z9 ?_
       haveI hss:=bt_meas (s:=jbe wr) (ms:=msK wr ms k) (k:=k) (v:=ms.getD k 0) (by rw [jgJ];omega)
       refine D9 ?_;refine Zs ?_
       rw [←msK_yes hk12 hkw];haveI:=seg_btL (s:=jbe wr) (jgJ wr ms (k+1))
       haveI:=len_btL (s:=jbe wr) (jgJ wr ms (k+1))
       cases q
       all_goals
        refine jbC [Zf 0,Zf 1,Zf 2,Zf 3,Zf 4,Zf 5,Zf 6,Zf 7,Zf 8,Zf 9,Zf 10,Zf 11,Zf 12,Zf 13,Zf 14,Zf 15,Zf 16,Zf 17] zK zK ?_;refine Z2 ?_
       ·refine Z22 ?_
        exact m.weak jaa (hnext2 _ _ _ zO ⟨k+1,false,rfl,by omega,by rw [jkB hkw];exact ⟨fun e=>(by cases e),fun e=>hq.2 ⟨e.1,e.2.1⟩⟩,exU rfl,rfl⟩)
       ·refine Z5 ?_;refine jaI rfl rfl (hcan2.keeps SubH.sub) ?_;refine Zs ?_;refine jag (Post:=fun v=>IsB _ v) rfl rfl zK (fun H' hH=>f38_c m H' (hcr2.keeps (sq hH)) zO _) ?_
        rintro v (⟨hc,rfl⟩|⟨hc,rfl⟩)
        ·refine Zs ?_
         have hmem:=hc
         rw [jrX hkn] at hmem
         refine Z3 ?_;refine jhx rfl rfl ?_;refine Zs ?_;refine jag (Post:=fun v=>IsB _ v) rfl rfl zK (fun H' hH=>f39_c m H' (sh.keeps (sq hH)) hkn (jbe wr) hsw (ms:=msK wr ms (k+1)) (jgJ _ _ _)) ?_
         rintro v (⟨hc,rfl⟩|⟨hc,rfl⟩);all_goals
          refine Z9 ?_
         ·exact m.weak jaa (hnext2 _ _ _ zO ⟨k+1,true,rfl,by omega,by rw [jkB hkw];exact ⟨fun _=>⟨(hq.1 rfl).1,(hq.1 rfl).2,hmem,hfit.1 hc⟩,fun _=>rfl⟩,exU rfl,rfl⟩)
         ·exact m.weak jaa (hnext2 _ _ _ zO ⟨k+1,false,rfl,by omega,by rw [jkB hkw];exact ⟨fun e=>(by cases e),fun e=>absurd (hfit.2 e.2.2.2) hc⟩,exU rfl,rfl⟩)
        ·refine Zs ?_
         have hmem:=hc
         rw [jrX hkn] at hmem
         refine Z14 ?_
         exact m.weak jaa (hnext2 _ _ _ zO ⟨k+1,false,rfl,by omega,by rw [jkB hkw];exact ⟨fun e=>(by cases e),fun e=>absurd e.2.2.1 hmem⟩,exU rfl,rfl⟩)
     ·refine Z11 ?_;refine jac (h) rfl Tryz.func6 rfl jaa ?_;refine Zs ?_
      obtain rfl:k=nM:=by omega
      have hka:okK b wr ms k↔jjl b wr ms:=by rw [show k=(jab b).length by omega];exact okK_all
      exact ⟨rfl,.bool q,by rw [hsz],jn6 (jn7 rfl) ⟨fun e=>⟨hsz,(hq.1 e).1,hka.1 (hq.1 e).2⟩,fun e=>hq.2 ⟨e.2.1,hka.2 e.2.2⟩⟩⟩
end
section
variable [LaidO B]
structure KeepI (b:Tb) (k:Nat) (wr ms:List Int) (js:List Nat):Prop where
 kup:js.Pairwise (· < ·)
 kin: ∀j,j∈js↔j<k∧(j:Int)∉wr
 can: ∀j,j<k→(j:Int)∉wr→ms.getD j 0∈jdw (jcG b ((jab b).getD j default))
theorem jo7 {b:Tb}:KeepI b 0 wr ms []:=⟨List.Pairwise.nil,fun j=>⟨fun h=>(by cases h),fun h=>by omega⟩,fun j hj=>by omega⟩
theorem KeepI.wrong {b:Tb} (r:KeepI b k wr ms js) (h:(k:Int)∈wr):KeepI b (k+1) wr ms js:=⟨r.kup,fun j=>by
 rw [r.kin];refine ⟨fun e=>⟨by omega,e.2⟩,fun e=>⟨?_,e.2⟩⟩
 have:j≠k:=fun x=>e.2 (by rw [x];exact h)
 omega,fun j hj hw=>by
 have:j≠k:=fun x=>hw (by rw [x];exact h)
 exact r.can j zO hw⟩
theorem KeepI.keep {b:Tb} (r:KeepI b k wr ms js) (h:(k:Int)∉wr) (hc:ms.getD k 0∈jdw (jcG b ((jab b).getD k default))):KeepI b (k+1) wr ms (js++[k]):=⟨gq.2 ⟨r.kup,List.pairwise_singleton _ _,fun x hx y hy=>by
  obtain rfl:y=k:=by simpa using hy
  exact ((r.kin x).1 hx).1⟩,fun j=>by
 rw [gQ,r.kin,gr];constructor
 ·rintro (⟨h1,h2⟩|rfl)
  ·exact ⟨by omega,h2⟩
  ·exact ⟨by omega,h⟩
 ·rintro ⟨h1,h2⟩;by_cases e:j<k
  ·exact .inl ⟨e,h2⟩
  ·exact .inr zO,fun j hj hw=>by
 by_cases e:j<k
 ·exact r.can j e hw
 ·obtain rfl:j=k:=by omega
  exact hc⟩
theorem KeepI.len {b:Tb} (r:KeepI b k wr ms js):js.length≤k:=by
 have ha:Asc (js.map fun (j:Nat)=>(j:Int)):=by
  unfold Asc
  rw [Gy];exact r.kup.imp fun h=>by omega
 have:=ji6 (n:=k) ha fun x hx=>by
  obtain ⟨j,hj,rfl⟩:=gP.1 hx
  have:=((r.kin j).1 hj).1
  omega
 rwa [gU] at this
theorem KeepI.lies {b:Tb} (r:KeepI b (jab b).length wr ms js):(∀a i:Nat,a<i→i<js.length→jaS b ((jpB b js).getD a default) ((jpB b js).getD i default) ((nowK ms js).getD a 0) ((nowK ms js).getD i 0)=true)↔jjl b wr ms:=by
 constructor
 ·intro h
  refine ⟨fun i hi hw=>r.can i hi hw,fun i j hij hj wi wj=>?_⟩
  obtain ⟨a,ha,ea⟩:=GE.1 ((r.kin i).2 ⟨by omega,wi⟩)
  obtain ⟨c,hc,ec⟩:=GE.1 ((r.kin j).2 ⟨hj,wj⟩)
  have hac:a<c:=by
   refine Nat.lt_of_not_le fun e=>?_
   rcases Nat.lt_or_eq_of_le e with e|e
   ·have:=List.pairwise_iff_getElem.1 r.kup c a hc ha e
    omega
   ·subst e
    omega
  have:=h a c hac hc
  rw [jpB,nowK,jhr ha,jhr hc,jhr ha,jhr hc] at this
  rw [gC (l:=js),gD ha,gC (l:=js),gD hc,GB,GB,ea,ec] at this
  exact this
 ·intro h a i hai hi
  have ha:a<js.length:=by omega
  rw [jpB,nowK,jhr ha,jhr hi,jhr ha,jhr hi];have e1:js.getD a 0=js[a]:=by rw [gC,gD ha];rfl
  have e2:js.getD i 0=js[i]:=by rw [gC,gD hi];rfl
  rw [e1,e2];have h1:=(r.kin js[a]).1 (Gn ha)
  have h2:=(r.kin js[i]).1 (Gn hi)
  exact h.2 _ _ (List.pairwise_iff_getElem.1 r.kup a i ha hi hai) h2.1 h1.2 h2.2
theorem jqQ:nowK ms (js++[k])=nowK ms js++[ms.getD k 0]:=by rw [nowK,GA];rfl
theorem f7_c (m:Md Tryz.prog B) (h:Hp) {b:Tb} (ra:RawTb B h b ps ns ks pw nw cw pb nb cb) {pW:Option Addr} (rW:RdS B h 1 (.slice pW nW cW) nW (jaq wr)) (rM:RdS B h 1 (.slice pM nM cM) nM (jaq ms)) (hnW:nW≤1000) (hnM:nM≤1000):FnC m 7 #[tbV b ps ns ks pw nw cw pb nb cb,.slice pW nW cW,.slice pM nM cM] h fun v h'=>h'=h∧ ∃w,v= .tuple [w,.int .i64 (jk4 b wr ms)].toArray∧IsB (jk4 b wr ms=0∧(wr.length:Int)≤b.wrong∧jjl b wr ms) w:=by
 have hwl:=jej rW
 have hmlen:=jej rM
 refine jae Tryz.func7 rfl rfl (l:=(tbV b ps ns ks pw nw cw pb nb cb)::(.slice pW nW cW)::(.slice pM nM cM)::uu94) rfl ?_
 intro cf cs K hK
 refine Z2 ?_
 refine jaF rfl zq (fun q3=>jap (jad ?_));refine Z7 ?_;refine jag (Post:=fun v=>v= .int .i64 (tbS b)) rfl zq zK (fun H' hH=>f40_r m H' (ra.keeps (sq hH))) ?_
 rintro v rfl;refine Z6 ?_
 refine jaP rfl zq (fun hc=>?_) (fun hc=>?_)
 ·have hzn:tbS b≠0:=hc
  refine Z9 ?_;refine jac (h) rfl Tryz.func7 rfl jaa ?_;refine Zs ?_
  have hs:=jrn (wr:=wr) (ms:=ms) hzn
  exact ⟨rfl,_,by rw [hs],IsB.no fun e=>by rw [hs] at e;exact hzn e.1⟩
 ·have hz:tbS b=0:=by omega
  have ok:=jdL hz
  have h12:=jba ok
  have rd:=ra.rd ok
  refine Z6 ?_;refine jaJ rfl zq zK (Post:=fun w new=>OwnS 28 3 w (jab b).length (jay (jab b)) new) (fun H' hH=>f41_c _ H' (rd.keeps (sq hH))) ?_
  rintro w n9 o9;refine jaG (jad ?_);obtain ⟨p9,c9,rfl,hc9,r9⟩:=jas (B:=B) o9
  refine Z8 ?_;refine jag (Post:=fun v=>v= .int .i64 (jgD wr (jab b).length)) rfl zq zK (fun H' hH=>f42_g m H' (rW.keeps (sq hH)) hnW ⟨by omega,by omega⟩) ?_
  rintro v rfl;refine Z6 ?_
  refine jaP rfl zq (fun hc=>?_) (fun hc=>?_)
  ·have hs:=jiD (ms:=ms) hz (by omega:jgD wr (jab b).length≠0)
   refine Z9 ?_;refine jac (h) rfl Tryz.func7 rfl jaa ?_;refine Zs ?_
   exact ⟨rfl,_,by rw [hs],IsB.no fun e=>by rw [hs] at e;omega⟩
  ·have hrz:jgD wr (jab b).length=0:=by omega
   refine Z10 ?_
   refine jaP rfl zq (fun hc=>?_) (fun hc=>?_)
   ·have hs2:=isbS_2 hz hrz (ms:=ms) zO
    refine Z8 ?_;refine jac (h) rfl Tryz.func7 rfl jaa ?_;refine Zs ?_
    exact ⟨rfl,_,by rw [hs2],IsB.no fun e=>by rw [hs2] at e;exact absurd e.1 zA⟩
   ·have hmN:ms.length=(jab b).length:=by omega
    refine Z9 ?_
    refine jaf (fun nn l h'=> ∃(i:Nat),nn=nM-i∧(i≤nM)∧(∀j,j<i→0≤ms.getD j 0∧ms.getD j 0≤959)∧(∃U:Nat→Value,l=((tbV b ps ns ks pw nw cw pb nb cb)::(.slice pW nW cW)::(.slice pM nM cM)::(.pointer (some ⟨q3,0,none⟩))::vw5 U 4 ((.slice p9 (jab b).length c9)::(U 10)::(.int .i64 (i:Int))::vw85 U 12 [])))∧h++[⟨true,q3,.cells (tbL b ps ns ks pw nw cw pb nb cb).toArray 25 (0,0)⟩]++n9=h') _ ⟨0,rfl,by omega,fun j hj=>by omega,exU rfl,rfl⟩ ?_;rintro nn l h' ⟨i,rfl,hi,hall,⟨U,rfl⟩,rfl⟩ hnext1;refine Z6 ?_
    refine jak rfl zq (fun hc=>?_) (fun hc=>?_)
    ·refine Z6 ?_
     obtain ⟨mb,mo,hmp⟩:=rM.ptr zO
     have rM2:=rM
     rw [hmp] at rM2
     refine Z3 ?_;refine ja1 rfl zq hmp zO zO ?_;refine jaI rfl zq (rM2.iat i zO zO) ?_;refine D63 ?_
     rintro v (⟨hc,rfl⟩|⟨hc,rfl⟩)
     ·refine Zs ?_
      have hrg:=hc
      refine Z10 ?_
      exact m.weak jaa (hnext1 _ _ _ zO ⟨i+1,rfl,by omega,fun j hj=>by
        by_cases e:j<i
        ·exact hall j e
        ·obtain rfl:j=i:=by omega
         exact hrg,exU rfl,rfl⟩)
     ·refine Zs ?_
      have hs1:=isbS_1 hz hrz hmN ⟨i,by omega,hc⟩
      refine Z9 ?_;refine jac (h) rfl Tryz.func7 rfl jaa ?_;refine Zs ?_
      exact ⟨rfl,_,by rw [hs1],IsB.no fun e=>by rw [hs1] at e;exact absurd e.1 zA⟩
    ·refine Z5 ?_
     obtain rfl:i=nM:=by omega
     have hsz:=isbS_0 hz hrz hmN fun ⟨j,hj,e⟩=>e (hall j zO)
     refine Z5 ?_
     refine jaz rfl zq (fun hc=>?_) (fun hc=>?_)
     ·refine Z8 ?_;refine jac (h) rfl Tryz.func7 rfl jaa ?_;refine Zs ?_
      exact ⟨rfl,_,by rw [hsz],IsB.no fun e=>by omega⟩
     ·refine Z17 ?_
      refine jaf (fun nn l h'=> ∃(k:Nat) (js:List Nat) (lp np:Option Addr) (lc nc:Nat) (Ml Mn:Hp),nn=(jab b).length-k∧(k≤(jab b).length)∧(KeepI b k wr ms js)∧(OwnS 28 3 (.slice lp js.length lc) js.length (jay (jpB b js)) Ml)∧(OwnS 3 1 (.slice np js.length nc) js.length (jaq (nowK ms js)) Mn)∧(∃U:Nat→Value,l=((tbV b ps ns ks pw nw cw pb nb cb)::(.slice pW nW cW)::(.slice pM i cM)::(.pointer (some ⟨q3,0,none⟩))::vw5 U 4 ((.slice p9 (jab b).length c9)::(U 10)::(U 11)::(.slice lp js.length lc)::(.slice np js.length nc)::(.int .i64 (k:Int))::(U 15)::(U 16)::(U 17)::(U 18)::(U 19)::(U 20)::(U 21)::(U 22)::vw74 U 23 [])))∧h++[⟨true,q3,.cells (tbL b ps ns ks pw nw cw pb nb cb).toArray 25 (0,0)⟩]++n9++Ml++Mn=h') _ ⟨0,[],none,none,0,0,[],[],rfl,by omega,jo7,OwnS.nil,OwnS.nil,exU rfl,zS⟩ ?_;rintro nn l h' ⟨k,js,lp,np,lc,nc,Ml,Mn,rfl,hk,hR,hol,hon,⟨U,rfl⟩,rfl⟩ hnext2;refine Z6 ?_
      refine jak rfl zq (fun hc=>?_) (fun hc=>?_)
      ·refine Z7 ?_
       have hkn:k<(jab b).length:=by omega
       have hjl:=hR.len
       obtain ⟨b9,o9_,hp9⟩:=r9.ptr zO
       have r9b:=r9
       rw [hp9] at r9b
       obtain ⟨mb,mo,hmp⟩:=rM.ptr zO
       have rM2:=rM
       rw [hmp] at rM2
       obtain ⟨c,hcx⟩: ∃c,c=(jab b).getD k default:=⟨_,rfl⟩
       have hht:jeu b c=true:=hcx▸(jiY hkn).1
       refine Z3 ?_;refine jag (Post:=fun v=>IsB _ v) rfl zq zK (fun H' hH=>f44_c m H' _ (rW.keeps (sq hH)) zO) ?_
       rintro v (⟨hc,rfl⟩|⟨hc,rfl⟩)
       ·refine Zs ?_
        have hkw:=hc
        refine Z8 ?_
        exact m.weak jaa (hnext2 _ _ _ zO ⟨k+1,js,lp,np,lc,nc,Ml,Mn,rfl,by omega,hR.wrong hkw,hol,hon,exU rfl,rfl⟩)
       ·refine Zs ?_
        have hkw:=hc
        refine Z4 ?_;refine jan [Zp 1,Zp 2,Zp 3,Zr 0,Zr 4,Zk 5,Zp 6,Zp 7,Zp 8,Zp 9,Zp 10] zK zK (gE _) ?_;refine Z2 ?_;refine ja1 rfl zq hp9 zO zO ?_;refine Zs ?_;refine jca (vs:=[.bool ((jab b).getD k default).butt,.int .i64 ((jab b).getD k default).line,.int .i64 ((jab b).getD k default).st]) rfl zq rfl (r9b.eat k zO zO) ?_
        rw [←hcx];refine jag (Post:=fun v=>v= .tuple [str (jcG b c),.bool true].toArray) rfl zq zK (fun H' hH=>by have:=f45_c m H' (rd.keeps (sq hH)) (bt:=c.butt) (li:=c.line) (st:=c.st);rw [show jeu b ⟨c.butt,c.line,c.st⟩=true from hht,if_pos rfl] at this;exact this) ?_;rintro v rfl;refine Z9 ?_;refine jbr [0,1,2,3,4,5,6,7] zK zK (gE _) ?_;refine DrawT.leaf [Zp 0,Zp 2,Zp 3,Zp 4,Zr 5,Zk 1,Zk 6,Zp 7] zK ?_;refine Z3 ?_;refine ja1 rfl zq hmp zO zO ?_;refine jaI rfl zq (rM2.iat k zO zO) ?_;refine jaJ rfl zq zK (Post:=fun w new=>OwnS 3 1 w (jdw (jcG b c)).length (jaq (jdw (jcG b c))) new) (fun H' hH=>f46_c _ H' (jcG b c) (fig_sm ra.sm ok hht)) ?_
        rintro w nL oL;refine jaG (jad ?_);obtain ⟨pL,cL,rfl,hcL,rL⟩:=jas (B:=B) oL
        have h960:=jkI (jcG b c)
        refine jag (Post:=fun v=>IsB _ v) rfl zq zK (fun H' hH=>f44_c m H' _ (rL.keeps (sq hH)) zO) ?_;rintro v (⟨hc,rfl⟩|⟨hc,rfl⟩)
        ·refine Zs ?_
         have hcm:=hc
         rw [hcx] at hcm
         refine Z4 ?_;refine jbr (S:=h++[⟨true,q3,.cells (tbL b ps ns ks pw nw cw pb nb cb).toArray 25 (0,0)⟩]++n9) [0,1,2,3,4,5,6,7,8,9,10,11,12,13,14,15] zK zK SubH.sub ?_
         refine DrawT.split 5 12 zA (DrawT.split 6 12 zA ?_ ?_) ?_
         refine DrawT.leaf [Zp 0,Zp 1,Zp 2,Zp 3,Zp 7,Zp 8,Zp 9,Zp 10,Zr 4,Zr 11,Zk 5,Zk 6,Zk 12,Zk 13,Zp 14,Zp 15] zK ?_;refine Z3 ?_;refine ja1 rfl zq hp9 zO zO ?_;refine Z3 ?_;refine ja1 rfl zq hmp zO zO ?_;refine jca (vs:=[.bool ((jab b).getD k default).butt,.int .i64 ((jab b).getD k default).line,.int .i64 ((jab b).getD k default).st]) rfl zq rfl (r9b.eat k zO zO) ?_;refine jaI rfl zq (rM2.iat k zO zO) ?_
         refine jcb kdq rfl zq zA zA rfl (fun q76=>jap (jad ?_));refine ja2 rfl zq rfl hol kdq zO zO (fun w9 n9l o9l=>jad ?_);replace o9l:OwnS 28 3 w9 (js++[k]).length (jay (jpB b js++[(jab b).getD k default])) n9l:=by rw [jaX,gJ];exact o9l
         obtain ⟨p9l,c9l,rfl,_⟩:=o9l.len
         refine jcb kdq rfl zq zA zA rfl (fun q80=>jap (jad ?_));rotate_left
         refine DrawT.leaf [Zp 0,Zp 1,Zp 2,Zp 3,Zp 7,Zp 8,Zp 9,Zp 10,Zr 4,Zr 11,Zk 5,Zk 12,Zk 6,Zk 13,Zp 14,Zp 15] zK ?_;refine Z3 ?_;refine ja1 rfl zq hp9 zO zO ?_;refine Z3 ?_;refine ja1 rfl zq hmp zO zO ?_;refine jca (vs:=[.bool ((jab b).getD k default).butt,.int .i64 ((jab b).getD k default).line,.int .i64 ((jab b).getD k default).st]) rfl zq rfl (r9b.eat k zO zO) ?_;refine jaI rfl zq (rM2.iat k zO zO) ?_
         refine jcb kdq rfl zq zA zA rfl (fun q76=>jap (jad ?_));refine jcb kdq rfl zq zA zA rfl (fun q80=>jap (jad ?_));refine ja2 rfl zq rfl hol kdq zO zO (fun w9 n9l o9l=>jad ?_);replace o9l:OwnS 28 3 w9 (js++[k]).length (jay (jpB b js++[(jab b).getD k default])) n9l:=by rw [jaX,gJ];exact o9l
         obtain ⟨p9l,c9l,rfl,_⟩:=o9l.len
         rotate_left
         refine DrawT.leaf [Zp 0,Zp 1,Zp 2,Zp 3,Zp 7,Zp 8,Zp 9,Zp 10,Zr 4,Zr 11,Zk 12,Zk 5,Zk 6,Zk 13,Zp 14,Zp 15] zK ?_;refine Z3 ?_;refine ja1 rfl zq hp9 zO zO ?_;refine Z3 ?_;refine ja1 rfl zq hmp zO zO ?_;refine jca (vs:=[.bool ((jab b).getD k default).butt,.int .i64 ((jab b).getD k default).line,.int .i64 ((jab b).getD k default).st]) rfl zq rfl (r9b.eat k zO zO) ?_;refine jaI rfl zq (rM2.iat k zO zO) ?_
         refine jcb kdq rfl zq zA zA rfl (fun q80=>jap (jad ?_));refine jcb kdq rfl zq zA zA rfl (fun q76=>jap (jad ?_));refine ja2 rfl zq rfl hol kdq zO zO (fun w9 n9l o9l=>jad ?_);replace o9l:OwnS 28 3 w9 (js++[k]).length (jay (jpB b js++[(jab b).getD k default])) n9l:=by rw [jaX,gJ];exact o9l
         obtain ⟨p9l,c9l,rfl,_⟩:=o9l.len
         all_goals
          refine ja2 rfl zq rfl hon kdq zO zO (fun w9 n9n o9n=>jad ?_);replace o9n:OwnS 3 1 w9 (js++[k]).length (jaq (nowK ms js++[ms.getD k 0])) n9n:=by rw [jaZ,gJ];exact o9n
          obtain ⟨p9n,c9n,rfl,_⟩:=o9n.len
          refine Z9 ?_;refine m.weak (h':=h++[⟨true,q3,.cells (tbL b ps ns ks pw nw cw pb nb cb).toArray 25 (0,0)⟩]++n9++n9l++n9n) jd6 ?_
          exact hnext2 _ _ _ zO ⟨k+1,js++[k],p9l,p9n,c9l,c9n,n9l,n9n,rfl,by omega,hR.keep hkw hcm,by rw [celK_new];exact o9l,by rw [jqQ];exact o9n,exU rfl,rfl⟩
        ·refine Zs ?_
         have hnl: ¬jjl b wr ms:=fun e=>hc (by rw [hcx];exact e.1 k hkn hkw)
         refine Z9 ?_;refine jac (h) rfl Tryz.func7 rfl jaa ?_;refine Zs ?_
         exact ⟨rfl,_,by rw [hsz],IsB.no fun e=>hnl e.2.2⟩
      ·refine Z4 ?_
       obtain rfl:k=(jab b).length:=by omega
       have rO3:=hol.rd (B:=B) (gE _)
       have rO4:=hon.rd (B:=B) (gE _)
       have hjl:=hR.len
       have hcs: ∀c∈jpB b js,jeu b c=true:=fun c hc=>by
        obtain ⟨j,hj,rfl⟩:=gP.1 hc
        exact (jiY ((hR.kin j).1 hj).1).1
       refine Z4 ?_;refine jag (Post:=fun v=>IsB (jjl b wr ms) v) rfl zq zK (fun H' hH=>(f47_c m H' (rd.keeps (sq hH)) (rO3.keeps (sq hH)) (rO4.keeps (sq hH)) zO hcs).mono fun v h' e=>⟨e.1,jn6 e.2 hR.lies⟩) ?_
       rintro bb hbb;refine Z5 ?_;refine jac (h) rfl Tryz.func7 rfl jaa ?_;refine Zs ?_
       exact ⟨rfl,bb,by rw [hsz],jn6 hbb ⟨fun e=>⟨hsz,by omega,e⟩,fun e=>e.2.2⟩⟩
end
section
variable [LaidO B]
theorem canL_le (b:Tb) (c:Ce):(jj4 b c).length≤960:=by
 unfold jj4
 split
 ·rename_i h
  obtain ⟨_,hm,_⟩:=jip h
  have h1:=canS_sub (D:=cdT b) (L:=jah b) (k:=plN b c)
  have h2:=jna b (jfX.2 hm)
  omega
 ·exact Vr _
theorem f3_t (h:Hp) {b:Tb} (rds:RdS B h 1 (.slice ps ns ks) ns (jay b.sts)) (hcs:ns≤ks) (rdw:RdLn B h (.slice pw nw cw) nw b.waters) (rdb:RdLn B h (.slice pb nb cb) nb b.butts) {pW:Option Addr} (rW:RdS B h 1 (.slice pW nW cW) nW (jaq wr)) (rM:RdS B h 1 (.slice pM nM cM) nM (jaq ms)) (c:Ce):(Md.starC Tryz.prog B).R (jnh Tryz.prog B fun v _=>v= .bool true) (G (Frame.enter Tryz.prog 3 #[tbV b ps ns ks pw nw cw pb nb cb,.slice pW nW cW,.slice pM nM cM,cV c.butt c.line c.st] .normal) []) h:=by
 refine jpY Tryz.func3 rfl rfl (l:=[tbV b ps ns ks pw nw cw pb nb cb,.slice pW nW cW,.slice pM nM cM,cV c.butt c.line c.st,undef,undef,undef,undef,undef,undef,undef,undef,undef,undef,undef,undef,undef,undef,undef,undef,undef,undef,undef,undef,undef,undef,undef,undef,undef,undef,undef,undef,undef,undef,undef,undef,undef,undef,undef,undef,undef,undef,undef,undef,undef,undef,undef,undef,undef,undef,undef,undef,undef,undef,undef,undef,undef,undef,undef,undef,undef,undef,undef,undef,undef,undef,undef,undef,undef,undef,undef,undef,undef,undef,undef,undef,undef,undef,undef,undef,undef,undef,undef,undef,undef,undef,undef,undef,undef,undef,undef,undef,undef,undef,undef,undef,undef,undef,undef,undef,undef,undef,undef,undef,undef,undef,undef,undef,undef,undef,undef,undef,undef,undef,undef,undef,undef,undef,undef,undef,undef,undef,undef,undef,undef,undef,undef,undef,undef,undef,undef,undef,undef,undef,undef,undef,undef,undef,undef,undef,undef,undef,undef,undef,undef,undef,undef,undef,undef,undef,undef,undef]) rfl ?_;refine Z2 ?_
 refine jaF rfl zq (fun q1=>jap (jad ?_));refine jaF rfl zq (fun q2=>jap (jad ?_));refine Z4 ?_;refine D60 ?_;refine Zs ?_;refine jag (Post:=fun v=>IsB _ v) rfl zq zK (fun H' hH=>f4_c _ H' (rds.keeps (sq hH)) hcs (rdw.keeps (sq hH)) (rdb.keeps (sq hH))) ?_
 rintro v (⟨hc,rfl⟩|⟨hc,rfl⟩)
 ·refine Z15 ?_;refine jbt rfl zq zK (f5_c _) ?_
  rintro v h' ⟨nF,rfl,rfl⟩;refine Z4 ?_;refine jku rfl Tryz.func3 zK rfl ?_
  rfl
 ·refine Zs ?_
  have ra:=raw_of rds hcs rdw rdb hc
  refine Z2 ?_;refine jhw rfl rfl ?_
  refine jaz rfl rfl (fun hc=>?_) (fun hc=>?_)
  ·refine Z10 ?_;refine jbt rfl zq zK (f5_c _) ?_
   rintro v h' ⟨nF,rfl,rfl⟩;refine Z4 ?_;refine jku rfl Tryz.func3 zK rfl ?_
   rfl
  ·have hnW:nW≤20:=by omega
   refine Z3 ?_;refine jhw rfl rfl ?_
   refine jaz rfl rfl (fun hc=>?_) (fun hc=>?_)
   ·refine Z5 ?_;refine jbt rfl zq zK (f5_c _) ?_
    rintro v h' ⟨nF,rfl,rfl⟩;refine Z4 ?_;refine jku rfl Tryz.func3 zK rfl ?_
    rfl
   ·have hnM:nM≤20:=by omega
    refine Z9 ?_;refine jag (Post:=fun v=> ∃w,v= .tuple [w,.int .i64 (jk4 b wr ms)].toArray∧IsB (jk4 b wr ms=0∧(wr.length:Int)≤b.wrong∧jjl b wr ms) w) rfl zq zK (fun H' hH=>f6_c (Md.starC Tryz.prog B) H' (ra.keeps (sq hH)) (rW.keeps (sq hH)) (rM.keeps (sq hH)) zO zO) ?_
    rintro v ⟨w77,rfl,hw77⟩;refine Zs ?_
    obtain ⟨q77,rfl⟩:=jn8 hw77
    refine Z11 ?_;refine jag (Post:=fun v=> ∃w,v= .tuple [w,.int .i64 (jk4 b wr ms)].toArray∧IsB (jk4 b wr ms=0∧(wr.length:Int)≤b.wrong∧jjl b wr ms) w) rfl zq zK (fun H' hH=>f7_c (Md.starC Tryz.prog B) H' (ra.keeps (sq hH)) (rW.keeps (sq hH)) (rM.keeps (sq hH)) zO zO) ?_
    rintro v ⟨w78,rfl,hw78⟩;refine Zs ?_
    obtain rfl:=jn5 hw78 hw77
    refine Z11 ?_;refine jra rfl zq zK rfl ?_;refine Z3 ?_;refine jfj rfl rfl rfl ?_;refine Z7 ?_;refine jag (Post:=fun v=>v= .tuple [.int .i64 (if tbS b=0 then ((jah b).length:Int) else 0),.int .i64 (tbS b)].toArray) rfl zq zK (fun H' hH=>f8_c (Md.starC Tryz.prog B) H' (ra.keeps (sq hH))) ?_
    rintro v rfl;refine Z10 ?_;refine jag (Post:=fun v=>v= .tuple [.int .i64 (if tbS b=0 then ((jah b).length:Int) else 0),.int .i64 (tbS b)].toArray) rfl zq zK (fun H' hH=>f9_c (Md.starC Tryz.prog B) H' (ra.keeps (sq hH))) ?_
    rintro v rfl;refine Z12 ?_;refine jfj rfl zq rfl ?_;refine Z3 ?_;refine jfj rfl rfl rfl ?_;refine Z8 ?_;refine jaJ rfl zq zK (Post:=fun v nw=> ∃w,v= .tuple [w,.int .i64 (jaO b (jdN b c))].toArray∧RdI B nw w (jj4 b c)) (fun H' hH=>f10_c (Md.starC Tryz.prog B) H' (ra.keeps (sq hH)) c) ?_
    rintro v nP ⟨wP,rfl,pP,cP,rfl,rP⟩;refine jaG (jad ?_);refine Z10 ?_;refine jaJ rfl zq zK (Post:=fun v nw=> ∃w,v= .tuple [w,.int .i64 (jaO b (jdN b c))].toArray∧RdI B nw w (jj4 b c)) (fun H' hH=>f11_c (Md.starC Tryz.prog B) H' (ra.keeps (sq hH)) c) ?_
    rintro v nQ ⟨wQ,rfl,pQ,cQ,rfl,rQ⟩;refine jaG (jad ?_);have hcsm:=canL_le b c
    refine Z11 ?_;refine jag (Post:=fun v=>IsB _ v) rfl zq zK (fun H' hH=>f12_c _ H' (rP.keeps (sq hH)) zO (rQ.keeps (sq hH))) ?_
    rintro v (⟨hc,rfl⟩|⟨hc,rfl⟩)
    ·refine Z5 ?_;refine jfj rfl rfl rfl ?_;refine Z8 ?_;refine jag (Post:=fun v=>v= .tuple [.int .i64 (if jaO b (jdN b c)=0 then jfo (jew (jah b) (plN b c)) (jah b).length else 0),.int .i64 (jaO b (jdN b c))].toArray) rfl zq zK (fun H' hH=>f13_c (Md.starC Tryz.prog B) H' (ra.keeps (sq hH)) c) ?_
     rintro v rfl;refine Z11 ?_;refine jag (Post:=fun v=>v= .tuple [.int .i64 (if jaO b (jdN b c)=0 then jfo (jew (jah b) (plN b c)) (jah b).length else 0),.int .i64 (jaO b (jdN b c))].toArray) rfl zq zK (fun H' hH=>f14_c (Md.starC Tryz.prog B) H' (ra.keeps (sq hH)) c) ?_
     rintro v rfl;refine Z12 ?_;refine jfj rfl zq rfl ?_;refine Z3 ?_;refine jfj rfl rfl rfl ?_;refine Z7 ?_;refine jag (Post:=fun v=> ∃w,v= .tuple [w,.int .i64 (tbS b)].toArray∧IsB (tbS b=0∧jbP (cdT b)=true) w) rfl zq zK (fun H' hH=>f15_c (Md.starC Tryz.prog B) H' (ra.keeps (sq hH))) ?_
     rintro v ⟨w45,rfl,hw45⟩;refine Zs ?_
     obtain ⟨q45,rfl⟩:=jn8 hw45
     refine Z9 ?_;refine jag (Post:=fun v=> ∃w,v= .tuple [w,.int .i64 (tbS b)].toArray∧IsB (tbS b=0∧jbP (cdT b)=true) w) rfl zq zK (fun H' hH=>f16_c (Md.starC Tryz.prog B) H' (ra.keeps (sq hH))) ?_
     rintro v ⟨w82,rfl,hw82⟩;refine Zs ?_
     obtain rfl:=jn5 hw82 hw45
     refine Z11 ?_;refine jra rfl zq zK rfl ?_;refine Z3 ?_;refine jfj rfl rfl rfl ?_;refine Z7 ?_;refine jbt rfl zq zK (f17_c _ (ra.keeps SubH.sub)) ?_
     rintro v h' ⟨nA,wA,gA,rfl,rfl,rgA,hgA,hlA⟩;refine Zs ?_
     obtain ⟨pA,cA,rfl,rdA⟩:=rgA
     simp only [jg9,joQ,jgC,jjI]
     simp only [jg9,joQ,jgC,jjI] at rdA
     have raR:=ra.ro
     refine Z9 ?_;refine jaJ rfl zq zK (Post:=fun v nw=> ∃w g,v= .tuple [w,.int .i64 (tbS b)].toArray∧RdI B nw w g∧(tbS b≠0→g=[])∧(tbS b=0→jd5 (fun l=>jm2 b (jbe l)=true) (jab b).length g)) (fun H' hH=>f18_c (Md.starC Tryz.prog B) H' (raR.keeps (sq hH))) ?_
     rintro v nB ⟨wB,gB,rfl,⟨pB,cB,rfl,rdB⟩,hgB,hlB⟩;refine jaG (jad ?_);obtain rfl:gA=gB:=by
      by_cases hz:tbS b=0
      ·exact jgN (hlA hz) (hlB hz)
      ·rw [hgA hz,hgB hz]
     have hgl:gA.length≤1000:=by
      by_cases hz:tbS b=0
      ·have:=ji6 (hlA hz).1 (hlA hz).2.1
       have:=jba (jdL hz)
       omega
      ·rw [hgA hz];exact Vr _
     refine Z7 ?_;refine D60 ?_;refine Z2 ?_;refine jag (Post:=fun v=>IsB _ v) rfl zq zK (fun H' hH=>f12_c _ H' (rdA.keeps (sq hH)) zO (rdB.keeps (sq hH))) ?_
     rintro v (⟨hc,rfl⟩|⟨hc,rfl⟩)
     ·refine Z4 ?_;refine jfk rfl rfl rfl ?_;refine Z2 ?_;refine jbt rfl rfl zK (f5_c _) ?_
      rintro v h' ⟨nF,rfl,rfl⟩;refine Z5 ?_;refine jku rfl Tryz.func3 zK rfl ?_
      rfl
     ·refine Zs ?_
      exact absurd rfl hc
    ·refine Zs ?_
     exact absurd rfl hc
end
end Go.Proofs
