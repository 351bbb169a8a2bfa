/- A part of the proof of a law. Condition of each theorem: as its statement says. -/
import Derived.Test.YtggpepeiedkbbaaGreatDoorVK9
import Derived.Test.YtggpepeiedkbbaaGreatDoorProg
set_option linter.all false
variable {B:Array Go.Obj} {h h' H X Y Z:Go.Lo.Hp} {i ns ks nw cw nb cb n k j most:Nat} {d:Go.Lo.Cd} {t ma mc p st:Int} {b:Go.Lo.Tb} {f:Go.Lo.Bo→Int×Int} {L M:List (List Int×List Int)} {ps pw pb wp:Option Go.Addr} {s:Int×Int} {wr ms:List Int} {bt:Bool}
set_option maxHeartbeats 4000000
set_option maxRecDepth 100000
set_option synthInstance.maxHeartbeats 1000000
set_option synthInstance.maxSize 100000
namespace Go.Proofs
open Go.Lo
instance:AggT Tryz.prog 102 2:=⟨by kernel_rfl⟩
end Go.Proofs
namespace Go.Proofs
open Go.Lo
open Go.Conc (G)
section
variable {P:Program} {m:Md P B} {ops:Array Oper} {l l':List Value} {S h h' H:Hp} {C:List Value→Hp→Prop} {kd:Kd} {r:List (Nat×Kd)} {d:Option Tmp} {ty:TypeId} {pos:String} {af:Array Edge} {g:Option (Nat×Bool)}
theorem k_neq2F {t u:TypeId} {x y:Operand} {a b a' b':Int} (ho:ops[i]?=some ⟨d,.binOp .neq t x y u,ty,pos,af,g⟩) (hw:Wt ops l g) [kh:KHeap kd S h H] [ex:OpV l x (.agg [.int .i64 a,.int .i64 b].toArray)] [ey:OpV l y (.agg [.int .i64 a',.int .i64 b'].toArray)] [KeyT P t]
  (hg:P.eqGuardType P.depth t=false) (e:a=a'∧b=b') [pf:PutV l d (.bool false) l'] (q:RegK m S ops r l' h C):RegK m S ops ((i,kd)::r) l h C:=by
 have he:=jlO (P:=P) (B:=B) (h:=H) 9998 (t:=t) a b a' b'
 have e2:(a==a'&&b==b')=true:=by simp [e]
 rw [e2] at he
 haveI:PutV l d (.bool !true) l':=pf
 exact jl7 ho hw hg he q
end
end Go.Proofs
namespace Go.Lo
theorem jkt (f:Bo→Int×Int): ∀(L:List Bo) (s:Int×Int) (t:Int),(t≤(L.foldl (fun s x=>(min s.1 (f x).1,max s.2 (f x).2)) s).1↔t≤s.1∧ ∀x∈L,t≤(f x).1)∧((L.foldl (fun s x=>(min s.1 (f x).1,max s.2 (f x).2)) s).2≤t↔s.2≤t∧ ∀x∈L,(f x).2≤t)
 |[],s,t=>by simp
 |a::L,s,t=>by
  rw [vU];obtain ⟨h1,h2⟩:=jkt f L (min s.1 (f a).1,max s.2 (f a).2) t
  rw [h1,h2];simp only [List.forall_mem_cons]
  constructor
  ·constructor
   ·rintro ⟨a1,a2⟩;exact ⟨by omega,by omega,a2⟩
   ·rintro ⟨a1,a2,a3⟩;exact ⟨by omega,a3⟩
  ·constructor
   ·rintro ⟨a1,a2⟩;exact ⟨by omega,by omega,a2⟩
   ·rintro ⟨a1,a2,a3⟩;exact ⟨by omega,a3⟩
theorem jmV {L:List Bo}:t≤(spB f L).1↔t≤959∧ ∀x∈L,t≤(f x).1:=(jkt f L (959,0) t).1
theorem jks {L:List Bo}:(spB f L).2≤t↔0≤t∧ ∀x∈L,(f x).2≤t:=(jkt f L (959,0) t).2
theorem spB_in {g:Bo→Int×Int} {L M:List Bo} (h: ∀x∈L,∃y∈M,(g y).1≤(f x).1∧(f x).2≤(g y).2):(spB g M).1≤(spB f L).1∧(spB f L).2≤(spB g M).2:=by
 constructor
 ·refine jmV.2 ⟨(jmV.1 (vd _)).1,fun x hx=>?_⟩
  obtain ⟨y,hy,h1,_⟩:=h x hx
  exact Int.le_trans ((jmV.1 (vd _)).2 y hy) h1
 ·refine jks.2 ⟨(jks.1 (vd _)).1,fun x hx=>?_⟩
  obtain ⟨y,hy,_,h2⟩:=h x hx
  exact Int.le_trans h2 ((jks.1 (vd _)).2 y hy)
theorem spB_perm {L M:List Bo} (h:L.Perm M):spB f L=spB f M:=by
 have a:=spB_in (f:=f) (g:=f) (L:=L) (M:=M) fun x hx=>⟨x,h.mem_iff.1 hx,vd _,vd _⟩
 have b:=spB_in (f:=f) (g:=f) (L:=M) (M:=L) fun x hx=>⟨x,h.mem_iff.2 hx,vd _,vd _⟩
 exact Prod.ext zO zO
end Go.Lo
namespace Go.Proofs
open Go.Lo
open Go.Conc (G)
section
variable [LaidO B]
theorem has_in {c:Ce} (h:jcn b c=true):0≤c.line∧c.line<(jaO b c.butt).length:=by
 have:=(jgw (b:=b) (bt:=c.butt) (li:=c.line) (st:=c.st)).1 h
 omega
theorem risesL_iff {la lc:Int}:jlL la lc ma mc=true↔la=lc∨(ma≤mc↔la<lc)∨ma=mc:=by
 unfold jlL
 by_cases h1:la=lc<;>by_cases h2:ma≤mc<;>by_cases h3:la<lc<;>by_cases h4:ma=mc<;>simp [h1,h2,h3,h4]<;>omega
theorem risesX_iff {la lc:Int}:jjN la lc ma mc=true↔(mc<la∧ma≥lc)∨(¬mc<la∧(mc=la∨ma≤lc)):=by
 unfold jjN
 split
 ·simp
  omega
 ·simp
  omega
theorem f177n_c (m:Md Tryz.prog B) (h:Hp) (rd:RdTb B h b ps ns ks pw nw cw pb nb cb) {a c:Ce} (ha:jcn b a=true) (hcc:jcn b c=true) (hn:a.butt=c.butt∨a.butt=false) (ma mc:Int):FnC m 177 #[tbV b ps ns ks pw nw cw pb nb cb,cV a.butt a.line a.st,cV c.butt c.line c.st,.int .i64 ma,.int .i64 mc] h fun v h'=>h'=h∧v= .bool (jaw b a c ma mc):=by
 have ha0:=has_in ha
 have hc0:=has_in hcc
 refine jae Tryz.func177 rfl rfl (l:=[tbV b ps ns ks pw nw cw pb nb cb,cV a.butt a.line a.st,cV c.butt c.line c.st,.int .i64 ma,.int .i64 mc,undef,undef,undef,undef,undef,undef,undef,undef,undef,undef,undef,undef,undef,undef,undef,undef,undef,undef,undef,undef,undef,undef,undef,undef,undef,undef,undef,undef,undef,undef,undef,undef,undef,undef,undef,undef,undef,undef,undef,undef,undef,undef,undef,undef,undef,undef,undef,undef,undef,undef,undef,undef,undef,undef,undef,undef,undef,undef,undef,undef,undef,undef,undef,undef,undef]) rfl ?_
 intro cf cs K hK
 refine Z2 ?_
 refine jaA rfl zq (fun q5=>jao (jad ?_));refine jaA rfl zq (fun q6=>jao (jad ?_));refine jaA rfl zq (fun q7=>jao (jad ?_));refine Z9 ?_
 refine jaI rfl zq (fun hc=>?_) (fun hc=>?_)
 ·refine Z7 ?_;refine jac (h) rfl Tryz.func177 rfl jab ?_;refine Zs ?_
  refine ⟨rfl,congrArg Value.bool ?_⟩
  first
   |exact absurd hbb zA
   |(rw [jaw,if_pos zD];done)
   |(rw [jaw,if_neg (fun e=>e zD)]
     first
      |(rw [if_pos (show a.butt=c.butt from hbt),←hx1,←hx2];exact E58)
      |(rw [if_neg (show¬a.butt=c.butt from hbt),if_neg (gY.1 zD),←hx1,←hx2];exact E60))
 ·refine Z4 ?_;refine jaq [Zr 0,Zr 1,Zr 4,Zr 5,Zk 2,Zp 3,Zk 6,Zp 7,Zp 8,Zp 9] zK zK (gE _) ?_;refine Z4 ?_;refine jaf (Post:=fun v=> ∃x:Lp,v=lpV x∧x.ln=jbg b a) rfl zq zK (fun H' hH=>CallF.mono (f94_c m (sq hH) rd (st:=a.st) (has_in ha).1 (has_in ha).2) fun v h' ⟨e,x,e1,e2,_⟩=>⟨e,x,e1,e2⟩) ?_
  rintro v ⟨x1,rfl,hx1⟩;refine Zs ?_;refine jhK rfl zq ?_;refine jaf (Post:=fun v=> ∃x:Lp,v=lpV x∧x.ln=jbg b c) rfl zq zK (fun H' hH=>CallF.mono (f94_c m (sq hH) rd (st:=c.st) (has_in hcc).1 (has_in hcc).2) fun v h' ⟨e,x,e1,e2,_⟩=>⟨e,x,e1,e2⟩) ?_
  rintro v ⟨x2,rfl,hx2⟩;refine Zs ?_;refine jhK rfl zq ?_;refine Z10 ?_
  refine jdS rfl zq zK (fun hbt=>?_) (fun hbt=>?_)
  ·refine Z3 ?_;refine jbm [Zf 0,Zf 1,Zf 2,Zf 3,Zf 4,Zf 5,Zf 6,Zf 7,Zf 8,Zf 9,Zf 10,Zf 11,Zf 12,Zf 13,Zf 14,Zf 15,Zf 16,Zf 17] zK zK ?_;refine Z2 ?_
   refine jaE rfl zq (fun hc=>?_) (fun hc=>?_)
   ·refine Z17 ?_;refine jac (h) rfl Tryz.func177 rfl jab ?_;refine Zs ?_
    refine ⟨rfl,congrArg Value.bool ?_⟩
    first
     |exact absurd hbb zA
     |(rw [jaw,if_pos zD];done)
     |(rw [jaw,if_neg (fun e=>e zD)]
       first
        |(rw [if_pos (show a.butt=c.butt from hbt),←hx1,←hx2];exact E58)
        |(rw [if_neg (show¬a.butt=c.butt from hbt),if_neg (gY.1 zD),←hx1,←hx2];exact E60))
   ·refine Z3 ?_
    refine jcB rfl rfl (fun hc=>?_) (fun hc=>?_);all_goals
     refine Z2 ?_
     refine jam rfl rfl (fun hc=>?_) (fun hc=>?_);all_goals
      refine jdS rfl rfl zK (fun hbb=>?_) (fun hbb=>?_)
      ·refine Z9 ?_;refine jac (h) rfl Tryz.func177 rfl jab ?_;refine Zs ?_
       refine ⟨rfl,congrArg Value.bool ?_⟩
       first
        |exact absurd hbb zA
        |(rw [jaw,if_pos zD];done)
        |(rw [jaw,if_neg (fun e=>e zD)]
          first
           |(rw [if_pos (show a.butt=c.butt from hbt),←hx1,←hx2];exact E58)
           |(rw [if_neg (show¬a.butt=c.butt from hbt),if_neg (gY.1 zD),←hx1,←hx2];exact E60))
      ·refine Z4 ?_
       refine jaE rfl rfl (fun hc=>?_) (fun hc=>?_);all_goals
        refine Z4 ?_;refine jac (h) rfl Tryz.func177 rfl jab ?_;refine Zs ?_
        refine ⟨rfl,congrArg Value.bool ?_⟩
        first
         |exact absurd hbb zA
         |(rw [jaw,if_pos zD];done)
         |(rw [jaw,if_neg (fun e=>e zD)]
           first
            |(rw [if_pos (show a.butt=c.butt from hbt),←hx1,←hx2];exact E58)
            |(rw [if_neg (show¬a.butt=c.butt from hbt),if_neg (gY.1 zD),←hx1,←hx2];exact E60))
  ·refine Z9 ?_
   refine jcl (fun hc=>?_) (fun hc=>?_)
   ·first|replace hc:=of_decide_eq_true hc|replace hc:=of_decide_eq_false hc|skip
    refine Zs ?_
    exact E37
   ·first|replace hc:=of_decide_eq_true hc|replace hc:=of_decide_eq_false hc|skip
    refine Z6 ?_
    refine jam rfl zq (fun hc=>?_) (fun hc=>?_)
    ·refine Z6 ?_
     refine jdH rfl zq (fun hc=>?_) (fun hc=>?_);all_goals
      refine Z3 ?_;refine jac (h) rfl Tryz.func177 rfl jab ?_;refine Zs ?_
      refine ⟨rfl,congrArg Value.bool ?_⟩
      first
       |exact absurd hbb zA
       |(rw [jaw,if_pos zD];done)
       |(rw [jaw,if_neg (fun e=>e zD)]
         first
          |(rw [if_pos (show a.butt=c.butt from hbt),←hx1,←hx2];exact E58)
          |(rw [if_neg (show¬a.butt=c.butt from hbt),if_neg (gY.1 zD),←hx1,←hx2];exact E60))
    ·refine Z7 ?_
     refine jaE rfl zq (fun hc=>?_) (fun hc=>?_)
     ·refine Z8 ?_;refine jac (h) rfl Tryz.func177 rfl jab ?_;refine Zs ?_
      refine ⟨rfl,congrArg Value.bool ?_⟩
      first
       |exact absurd hbb zA
       |(rw [jaw,if_pos zD];done)
       |(rw [jaw,if_neg (fun e=>e zD)]
         first
          |(rw [if_pos (show a.butt=c.butt from hbt),←hx1,←hx2];exact E58)
          |(rw [if_neg (show¬a.butt=c.butt from hbt),if_neg (gY.1 zD),←hx1,←hx2];exact E60))
     ·refine Z3 ?_
      refine jcB rfl rfl (fun hc=>?_) (fun hc=>?_);all_goals
       refine Z4 ?_;refine jac (h) rfl Tryz.func177 rfl jab ?_;refine Zs ?_
       refine ⟨rfl,congrArg Value.bool ?_⟩
       first
        |exact absurd hbb zA
        |(rw [jaw,if_pos zD];done)
        |(rw [jaw,if_neg (fun e=>e zD)]
          first
           |(rw [if_pos (show a.butt=c.butt from hbt),←hx1,←hx2];exact E58)
           |(rw [if_neg (show¬a.butt=c.butt from hbt),if_neg (gY.1 zD),←hx1,←hx2];exact E60))
theorem rises_turn {a c:Ce} (hst:a.st=c.st) (hbt:a.butt≠c.butt) (ha:a.butt=true):jaw b c a mc ma=jaw b a c ma mc:=by
 have hc:c.butt=false:=by cases e:c.butt;rfl;rw [ha,e] at hbt;exact absurd rfl hbt
 simp [jaw,hst,ha,hc]
theorem f177_c (m:Md Tryz.prog B) (h:Hp) (rd:RdTb B h b ps ns ks pw nw cw pb nb cb) {a c:Ce} (ha:jcn b a=true) (hcc:jcn b c=true) (ma mc:Int):FnC m 177 #[tbV b ps ns ks pw nw cw pb nb cb,cV a.butt a.line a.st,cV c.butt c.line c.st,.int .i64 ma,.int .i64 mc] h fun v h'=>h'=h∧v= .bool (jaw b a c ma mc):=by
 have ha0:=has_in ha
 have hc0:=has_in hcc
 refine jae Tryz.func177 rfl rfl (l:=[tbV b ps ns ks pw nw cw pb nb cb,cV a.butt a.line a.st,cV c.butt c.line c.st,.int .i64 ma,.int .i64 mc,undef,undef,undef,undef,undef,undef,undef,undef,undef,undef,undef,undef,undef,undef,undef,undef,undef,undef,undef,undef,undef,undef,undef,undef,undef,undef,undef,undef,undef,undef,undef,undef,undef,undef,undef,undef,undef,undef,undef,undef,undef,undef,undef,undef,undef,undef,undef,undef,undef,undef,undef,undef,undef,undef,undef,undef,undef,undef,undef,undef,undef,undef,undef,undef,undef]) rfl ?_
 intro cf cs K hK
 refine Z2 ?_
 refine jaA rfl zq (fun q5=>jao (jad ?_));refine jaA rfl zq (fun q6=>jao (jad ?_));refine jaA rfl zq (fun q7=>jao (jad ?_));refine Z9 ?_
 refine jaI rfl zq (fun hc=>?_) (fun hc=>?_)
 ·refine Z7 ?_;refine jac (h) rfl Tryz.func177 rfl jab ?_;refine Zs ?_
  first
   |exact E62
   |(refine ⟨rfl,congrArg Value.bool ?_⟩
     first
      |exact absurd hbb zA
      |(rw [jaw,if_pos zD];done)
      |(rw [jaw,if_neg (fun e=>e zD)]
        first
         |(rw [if_pos (show a.butt=c.butt from hbt),←hx1,←hx2];exact E58)
         |(rw [if_neg (show¬a.butt=c.butt from hbt),if_neg (gY.1 zD),←hx1,←hx2];exact E60)))
 ·refine Z4 ?_;refine jaq [Zr 0,Zr 1,Zr 4,Zr 5,Zk 2,Zp 3,Zk 6,Zp 7,Zp 8,Zp 9] zK zK (gE _) ?_;refine Z4 ?_;refine jaf (Post:=fun v=> ∃x:Lp,v=lpV x∧x.ln=jbg b a) rfl zq zK (fun H' hH=>CallF.mono (f94_c m (sq hH) rd (st:=a.st) (has_in ha).1 (has_in ha).2) fun v h' ⟨e,x,e1,e2,_⟩=>⟨e,x,e1,e2⟩) ?_
  rintro v ⟨x1,rfl,hx1⟩;refine Zs ?_;refine jhK rfl zq ?_;refine jaf (Post:=fun v=> ∃x:Lp,v=lpV x∧x.ln=jbg b c) rfl zq zK (fun H' hH=>CallF.mono (f94_c m (sq hH) rd (st:=c.st) (has_in hcc).1 (has_in hcc).2) fun v h' ⟨e,x,e1,e2,_⟩=>⟨e,x,e1,e2⟩) ?_
  rintro v ⟨x2,rfl,hx2⟩;refine Zs ?_;refine jhK rfl zq ?_;refine Z10 ?_
  refine jdS rfl zq zK (fun hbt=>?_) (fun hbt=>?_)
  ·refine Z3 ?_;refine jbm [Zf 0,Zf 1,Zf 2,Zf 3,Zf 4,Zf 5,Zf 6,Zf 7,Zf 8,Zf 9,Zf 10,Zf 11,Zf 12,Zf 13,Zf 14,Zf 15,Zf 16,Zf 17] zK zK ?_;refine Z2 ?_
   refine jaE rfl zq (fun hc=>?_) (fun hc=>?_)
   ·refine Z17 ?_;refine jac (h) rfl Tryz.func177 rfl jab ?_;refine Zs ?_
    first
     |exact E62
     |(refine ⟨rfl,congrArg Value.bool ?_⟩
       first
        |exact absurd hbb zA
        |(rw [jaw,if_pos zD];done)
        |(rw [jaw,if_neg (fun e=>e zD)]
          first
           |(rw [if_pos (show a.butt=c.butt from hbt),←hx1,←hx2];exact E58)
           |(rw [if_neg (show¬a.butt=c.butt from hbt),if_neg (gY.1 zD),←hx1,←hx2];exact E60)))
   ·refine Z3 ?_
    refine jcB rfl rfl (fun hc=>?_) (fun hc=>?_);all_goals
     refine Z2 ?_
     refine jam rfl rfl (fun hc=>?_) (fun hc=>?_);all_goals
      refine jdS rfl rfl zK (fun hbb=>?_) (fun hbb=>?_)
      ·refine Z9 ?_;refine jac (h) rfl Tryz.func177 rfl jab ?_;refine Zs ?_
       first
        |exact E62
        |(refine ⟨rfl,congrArg Value.bool ?_⟩
          first
           |exact absurd hbb zA
           |(rw [jaw,if_pos zD];done)
           |(rw [jaw,if_neg (fun e=>e zD)]
             first
              |(rw [if_pos (show a.butt=c.butt from hbt),←hx1,←hx2];exact E58)
              |(rw [if_neg (show¬a.butt=c.butt from hbt),if_neg (gY.1 zD),←hx1,←hx2];exact E60)))
      ·refine Z4 ?_
       refine jaE rfl rfl (fun hc=>?_) (fun hc=>?_);all_goals
        refine Z4 ?_;refine jac (h) rfl Tryz.func177 rfl jab ?_;refine Zs ?_
        first
         |exact E62
         |(refine ⟨rfl,congrArg Value.bool ?_⟩
           first
            |exact absurd hbb zA
            |(rw [jaw,if_pos zD];done)
            |(rw [jaw,if_neg (fun e=>e zD)]
              first
               |(rw [if_pos (show a.butt=c.butt from hbt),←hx1,←hx2];exact E58)
               |(rw [if_neg (show¬a.butt=c.butt from hbt),if_neg (gY.1 zD),←hx1,←hx2];exact E60)))
  ·refine Z9 ?_
   refine jcl (fun hc=>?_) (fun hc=>?_)
   ·first|replace hc:=of_decide_eq_true hc|replace hc:=of_decide_eq_false hc|skip
    refine Zs ?_
    have hab:=hc
    refine Z6 ?_;refine jaf (Post:=fun v=>v= .bool (jaw b c a mc ma)) rfl zq zK (fun H' hH=>f177n_c m H' (rd.keeps (sq hH)) hcc ha (.inr (by cases e:c.butt;rfl;rw [hab,e] at hbt;exact absurd rfl hbt)) mc ma) ?_
    rintro v rfl;refine Z4 ?_;refine jac (h) rfl Tryz.func177 rfl jab ?_;refine Zs ?_
    first
     |exact E62
     |(refine ⟨rfl,congrArg Value.bool ?_⟩
       first
        |exact absurd hbb zA
        |(rw [jaw,if_pos zD];done)
        |(rw [jaw,if_neg (fun e=>e zD)]
          first
           |(rw [if_pos (show a.butt=c.butt from hbt),←hx1,←hx2];exact E58)
           |(rw [if_neg (show¬a.butt=c.butt from hbt),if_neg (gY.1 zD),←hx1,←hx2];exact E60)))
   ·first|replace hc:=of_decide_eq_true hc|replace hc:=of_decide_eq_false hc|skip
    refine Z6 ?_
    refine jam rfl zq (fun hc=>?_) (fun hc=>?_)
    ·refine Z6 ?_
     refine jdH rfl zq (fun hc=>?_) (fun hc=>?_);all_goals
      refine Z3 ?_;refine jac (h) rfl Tryz.func177 rfl jab ?_;refine Zs ?_
      first
       |exact E62
       |(refine ⟨rfl,congrArg Value.bool ?_⟩
         first
          |exact absurd hbb zA
          |(rw [jaw,if_pos zD];done)
          |(rw [jaw,if_neg (fun e=>e zD)]
            first
             |(rw [if_pos (show a.butt=c.butt from hbt),←hx1,←hx2];exact E58)
             |(rw [if_neg (show¬a.butt=c.butt from hbt),if_neg (gY.1 zD),←hx1,←hx2];exact E60)))
    ·refine Z7 ?_
     refine jaE rfl zq (fun hc=>?_) (fun hc=>?_)
     ·refine Z8 ?_;refine jac (h) rfl Tryz.func177 rfl jab ?_;refine Zs ?_
      first
       |exact E62
       |(refine ⟨rfl,congrArg Value.bool ?_⟩
         first
          |exact absurd hbb zA
          |(rw [jaw,if_pos zD];done)
          |(rw [jaw,if_neg (fun e=>e zD)]
            first
             |(rw [if_pos (show a.butt=c.butt from hbt),←hx1,←hx2];exact E58)
             |(rw [if_neg (show¬a.butt=c.butt from hbt),if_neg (gY.1 zD),←hx1,←hx2];exact E60)))
     ·refine Z3 ?_
      refine jcB rfl rfl (fun hc=>?_) (fun hc=>?_);all_goals
       refine Z4 ?_;refine jac (h) rfl Tryz.func177 rfl jab ?_;refine Zs ?_
       first
        |exact E62
        |(refine ⟨rfl,congrArg Value.bool ?_⟩
          first
           |exact absurd hbb zA
           |(rw [jaw,if_pos zD];done)
           |(rw [jaw,if_neg (fun e=>e zD)]
             first
              |(rw [if_pos (show a.butt=c.butt from hbt),←hx1,←hx2];exact E58)
              |(rw [if_neg (show¬a.butt=c.butt from hbt),if_neg (gY.1 zD),←hx1,←hx2];exact E60)))
end
end Go.Proofs
namespace Go.Lo
open Go.Proofs
def gp (n b i:Nat):Str:=if b.testBit i then [63] else (jf2 (figN n) 45).getD i []
theorem meaS_in {s:Str} {z:Int} (h:z∈jdN s):0≤z∧z≤959:=by
 unfold jdN at h
 split at h
 ·rw [jjV] at h
  obtain ⟨k,hk,rfl⟩:=gR.1 h
  have:=gT.1 (ga.1 hk).1
  omega
 ·cases h
end Go.Lo
namespace Go.Proofs
open Go.Lo
def boOf (n:Nat) (wr ms:List Int):Bo:=(List.range n).map fun (i:Nat)=>if (i:Int)∈wr then none else some (ms.getD i 0)
theorem boOf_len (n:Nat) (wr ms:List Int):(boOf n wr ms).length=n:=by simp [boOf]
theorem xA_boOf (h:i<n):xA (boOf n wr ms) i=if (i:Int)∈wr then none else some (ms.getD i 0):=by
 rw [xA,boOf,gC,gX,Gg h];rfl
def liesB (b:Tb) (wr ms:List Int):Prop:=(∀i:Nat,i<(jaa b).length→(i:Int)∉wr→ms.getD i 0∈jdN (jbU b ((jaa b).getD i default)))∧ ∀i j:Nat,i<j→j<(jaa b).length→(i:Int)∉wr→(j:Int)∉wr→jaw b ((jaa b).getD i default) ((jaa b).getD j default) (ms.getD i 0) (ms.getD j 0)=true
section
variable (ok:TbOk b) (ha:Asc wr) (hr: ∀x∈wr,0≤x∧x<((jaa b).length:Int)) (hw:(wr.length:Int)≤b.wrong) (hl:liesB b wr ms)
include ha hr hw hl
include ok in
end
end Go.Proofs
namespace Go.Proofs
open Go.Lo
open Go.Conc (G)
section
variable [LaidO B]
theorem weakOff4 {F1 F2 F3 F4 W:Hp} [a:Off h' W F1] [b:Off F1 Z F2] [c:Off F2 Y F3] [d:Off F3 X F4] [s:SubH H F4]:Weak B h' (H++X++Y++Z++W):=
 (Weak.perm a.perm).trans (Weak.apps ((Weak.perm b.perm).trans (Weak.apps ((Weak.perm c.perm).trans (Weak.apps ((Weak.perm d.perm).trans (Weak.apps (Weak.sub s.sub) X)) Y)) Z)) W)
end
section
variable [LaidO B]
theorem rdE_app {vs ws:List Value} {ll mm:List (List Int)} (r:RdE B h vs ll) (s:RdE B h ws mm):RdE B h (vs++ws) (ll++mm):=by
 obtain ⟨⟨l1,c1⟩,r⟩:=r
 obtain ⟨⟨l2,c2⟩,s⟩:=s
 refine ⟨⟨by simp [l1,l2],fun u hu=>(gQ.1 hu).elim (c1 u) (c2 u)⟩,fun i hi=>?_⟩
 by_cases e:i<ll.length
 ·have e1:(ll++mm).getD i []=ll.getD i []:=by rw [gC,gb e,gC]
  have e2:(vs++ws).getD i undef=vs.getD i undef:=by rw [gC,gb zO,gC]
  rw [e1,e2];exact r i e
 ·rw [gH] at hi
  have e1:(ll++mm).getD i []=mm.getD (i-ll.length) []:=by rw [gC,gf zO,gC]
  have e2:(vs++ws).getD i undef=ws.getD (i-ll.length) undef:=by rw [gC,gf zO,gC,l1]
  rw [e1,e2];exact s _ zO
def nextI (b:Tb) (cl:List Ce) (wr ms:List Int) (v:Int) (i:Nat):Bool:=decide ((ms.length:Int)∈wr)||decide ((i:Int)∈wr)||jaw b (cl.getD i default) (cl.getD ms.length default) (ms.getD i 0) v
def nextT (b:Tb) (cl:List Ce) (wr ms:List Int) (v:Int) (i:Nat):Bool:=(List.range i).all (nextI b cl wr ms v)
theorem nextT_succ (b:Tb) (cl:List Ce) (wr ms:List Int) (v:Int) (i:Nat):nextT b cl wr ms v (i+1)=(nextT b cl wr ms v i&&nextI b cl wr ms v i):=by
 rw [nextT,GV,List.all_append];simp [nextT]
theorem nextT_all (b:Tb) (cl:List Ce) (wr ms:List Int) (v:Int):nextT b cl wr ms v ms.length=jd8 b cl wr ms v:=rfl
def goJ (b:Tb) (cl:List Ce) (wr:List Int) (k:Nat) (ms:List Int) (j:Nat):List (List Int):=(((jb5 b cl wr ms.length).take j).filter (jd8 b cl wr ms)).flatMap fun v=>jdO b cl wr k (ms++[v])
theorem goJ_all (b:Tb) (cl:List Ce) (wr:List Int) (k:Nat) (ms:List Int):goJ b cl wr k ms (jb5 b cl wr ms.length).length=jdO b cl wr (k+1) ms:=by rw [goJ,GE];rfl
section
variable {cl:List Ce} (hj:j<(jb5 b cl wr ms.length).length)
include hj
theorem goJ_yes (h:jd8 b cl wr ms ((jb5 b cl wr ms.length).getD j 0)=true):goJ b cl wr k ms (j+1)=goJ b cl wr k ms j++jdO b cl wr k (ms++[(jb5 b cl wr ms.length).getD j 0]):=by
 rw [goJ,jaV _ j hj,GA,GQ];congr 1
 show List.flatMap _ (List.filter _ [(jb5 b cl wr ms.length).getD j 0])=_
 rw [vk h];simp
theorem goJ_no (h:jd8 b cl wr ms ((jb5 b cl wr ms.length).getD j 0)=false):goJ b cl wr k ms (j+1)=goJ b cl wr k ms j:=by
 rw [goJ,jaV _ j hj,GA,GQ];show _++List.flatMap _ (List.filter _ [(jb5 b cl wr ms.length).getD j 0])=_
 rw [vh (by rw [h];decide)];simp [goJ]
end
def prodF (b:Tb) (cl:List Ce) (wr:List Int):Nat→Nat→Nat
 |0,_=>1
 |k+1,n=>(jb5 b cl wr n).length*prodF b cl wr k (n+1)
theorem goOn_le (b:Tb) (cl:List Ce) (wr:List Int): ∀(k:Nat) (ms:List Int),(jdO b cl wr k ms).length≤prodF b cl wr k ms.length
 |0,ms=>gM _
 |k+1,ms=>by
  have gen: ∀l:List Int,(l.flatMap fun v=>jdO b cl wr k (ms++[v])).length≤l.length*prodF b cl wr k (ms.length+1):=by
   intro l
   induction l with
   |nil=>simp
   |cons v l ih=>
    have:=goOn_le b cl wr k (ms++[v])
    rw [gH,GU] at this
    rw [vL,gH,gV,Nat.succ_mul];omega
  rw [jdO,prodF];exact E63
theorem goJ_le {cl:List Ce} (hj:j≤(jb5 b cl wr ms.length).length):(goJ b cl wr k ms j).length≤(jdO b cl wr (k+1) ms).length:=by
 rw [←goJ_all,goJ,goJ];obtain ⟨r,hr⟩: ∃r,jb5 b cl wr ms.length=(jb5 b cl wr ms.length).take j++r:=⟨_,(vA j _).symm⟩
 rw [GE];conv=>rhs;rw [hr,GA,GQ,gH]
 exact xH _ _
theorem weakOff4a {F1 F2 F3 F4 W:Hp} [a:Off h' W F1] [b:Off F1 Z F2] [c:Off F2 Y F3] [d:Off F3 X F4] [s:SubH H F4]:Weak B h' (H++X++(Y++Z++W)):=by
 rw [show H++X++(Y++Z++W)=H++X++Y++Z++W by simp only [gI]];exact weakOff4
def RdL (B:Array Obj) (S new:Hp) (v:Value) (L:List (List Int)):Prop:= ∃p c vs,v= .slice p L.length c∧ ∀H2:Hp,S.Sublist H2→new.Sublist H2→RdS B H2 1 (.slice p L.length c) L.length vs∧RdE B H2 vs L
theorem f178_c (m:Md Tryz.prog B) (ok:TbOk b) (hwr:wr.length≤100): ∀(k:Nat) (h S:Hp) (ms:List Int) (wp mp:Option Addr) (wc mc:Nat),RawTb B h b ps ns ks pw nw cw pb nb cb→S.Sublist h→RdS B h 1 (.slice wp wr.length wc) wr.length (jav wr)→RdS B S 1 (.slice mp ms.length mc) ms.length (jav ms)→ms.length≤mc→ms.length+k=(jaa b).length→prodF b (jaa b) wr k ms.length≤1000000→
  FnC m 178 #[tbV b ps ns ks pw nw cw pb nb cb,.slice wp wr.length wc,.slice mp ms.length mc] h fun v h'=> ∃new,h'=h++new∧RdL B S new v (jdO b (jaa b) wr k ms):=by
 intro k
 induction k using Nat.strongRecOn
 rename_i k IH
 intro h S ms wp mp wc mc ra hS rW rM hmc hmk hpf
 have rd:=ra.rd ok
 have h12:=ja3 ok
 refine jae Tryz.func178 rfl rfl (l:=[tbV b ps ns ks pw nw cw pb nb cb,.slice wp wr.length wc,.slice mp ms.length mc,undef,undef,undef,undef,undef,undef,undef,undef,undef,undef,undef,undef,undef,undef,undef,undef,undef,undef,undef,undef,undef,undef,undef,undef,undef,undef,undef,undef,undef,undef,undef,undef,undef,undef,undef,undef,undef,undef,undef,undef,undef,undef,undef,undef,undef,undef,undef,undef,undef,undef,undef,undef,undef,undef,undef,undef,undef,undef,undef,undef,undef,undef,undef,undef,undef,undef,undef,undef,undef,undef,undef,undef,undef,undef,undef,undef,undef,undef,undef,undef,undef,undef,undef,undef,undef,undef,undef,undef,undef,undef,undef,undef,undef,undef,undef,undef,undef,undef]) rfl ?_
 intro cf cs K hK
 refine Z2 ?_
 refine jaA rfl zq (fun q3=>jao (jad ?_));refine Z5 ?_;refine jax rfl zq zK (Post:=fun w new=>OwnS 37 3 w (jaa b).length (jaC (jaa b)) new) (fun H' hH=>f26_c _ H' (rd.keeps (sq hH))) ?_
 rintro w n7 o7;refine jaz (jad ?_);obtain ⟨p7,c7,rfl,hc7,r7⟩:=jas (B:=B) o7
 refine Z9 ?_
 refine jaE rfl zq (fun hc=>?_) (fun hc=>?_)
 ·obtain rfl:k=0:=by omega
  refine Z5 ?_
  refine jb7 kdq rfl zq zA zA rfl (fun q24=>jao (jad ?_));refine Z3 ?_;refine jac (h++[⟨true,q24,.cells [.slice mp ms.length mc].toArray 42 (0,0)⟩]) rfl Tryz.func178 rfl jab ?_;refine Zs ?_
  exact E64
 ·obtain ⟨k,rfl⟩: ∃k1,k=k1+1:=⟨k-1,by omega⟩
  have hml:ms.length<(jaa b).length:=by omega
  refine Z11 ?_
  refine jb7 kdq rfl zq zA zA rfl (fun q27=>jao (jad ?_));refine Z7 ?_;refine jaf (Post:=fun v=>IsB _ v) rfl zq zK (fun H' hH=>f35_c m H' _ (rW.keeps (sq hH)) zO) ?_
  rintro v (⟨hc,rfl⟩|⟨hc,rfl⟩);refine Zs ?_
  have hct:jb5 b (jaa b) wr ms.length=[0]:=by rw [jb5,if_pos hc]
  obtain ⟨cv,hcv⟩: ∃cv:Value,cv= .slice (some ⟨q27,0,none⟩) 1 1:=⟨_,rfl⟩
  obtain ⟨CC,hCC⟩: ∃CC:Hp,CC=[⟨true,q27,.cells [.int .i64 0].toArray 3 (0,0)⟩]:=⟨_,rfl⟩
  rw [←hcv,←hCC];obtain ⟨cp,cc,rfl,rC⟩: ∃cp cc,cv= .slice cp (jb5 b (jaa b) wr ms.length).length cc∧RdS B CC 1 (.slice cp (jb5 b (jaa b) wr ms.length).length cc) (jb5 b (jaa b) wr ms.length).length (jav (jb5 b (jaa b) wr ms.length)):=⟨some ⟨q27,0,none⟩,1,by rw [hcv,hct];rfl,by rw [hct,hCC];exact (OwnS.full (t:=3) (q:=q27) (cs:=jav [(0:Int)]) rfl).rd (gE _)⟩
  clear hcv hCC
  refine Z4 ?_
  rotate_left
  refine Zs ?_
  obtain ⟨b7,o7_,hp7⟩:=r7.ptr zO
  have r7b:=r7
  rw [hp7] at r7b
  obtain ⟨c,hcx⟩: ∃c,c=(jaa b).getD ms.length default:=⟨_,rfl⟩
  have hht:jcn b c=true:=hcx▸(jeF hml).1
  have hct:jb5 b (jaa b) wr ms.length=jdN (jbU b c):=by rw [jb5,if_neg hc,hcx]
  refine Z4 ?_;refine jaq [Zp 1,Zp 2,Zp 3,Zr 0,Zr 4,Zk 5,Zp 6,Zp 7,Zp 8,Zp 9,Zp 10] zK zK (gE _) ?_;refine Z2 ?_;refine jaL rfl zq hp7 zO zO ?_;refine Zs ?_;refine jb4 (vs:=[.bool ((jaa b).getD ms.length default).butt,.int .i64 ((jaa b).getD ms.length default).line,.int .i64 ((jaa b).getD ms.length default).st]) rfl zq rfl (r7b.eat ms.length zO zO) ?_
  rw [←hcx];refine jaf (Post:=fun v=>v= .tuple [str (jbU b c),.bool true].toArray) rfl zq zK (fun H' hH=>by have:=f27_c m H' (rd.keeps (sq hH)) (bt:=c.butt) (li:=c.line) (st:=c.st);rw [show jcn b ⟨c.butt,c.line,c.st⟩=true from hht,if_pos rfl] at this;exact this) ?_;rintro v rfl;refine Z9 ?_;refine jax rfl zq zK (Post:=fun w new=>OwnS 3 1 w (jb5 b (jaa b) wr ms.length).length (jav (jb5 b (jaa b) wr ms.length)) new) (fun H' hH=>by rw [hct];exact f32_c _ H' (jbU b c) (jos ra.sm ok hht)) ?_
  rintro w CC oL;refine jaz (jad ?_);obtain ⟨cp,cc,rfl,_,rC⟩:=jas (B:=B) oL
  refine Z2 ?_
  all_goals
   refine Z10 ?_;refine m.weak (h':=h++[⟨true,q3,.cells (tbL b ps ns ks pw nw cw pb nb cb).toArray 25 (0,0)⟩]++n7++CC) jab ?_
   have hc960:(jb5 b (jaa b) wr ms.length).length≤960:=by
    unfold jb5
    split<;>first|exact jkL _|decide
   refine jag (fun nn l h'=> ∃(j:Nat) (op:Option Addr) (oc:Nat) (vs:List Value) (Mo Mi:Hp),nn=(jb5 b (jaa b) wr ms.length).length-j∧(j≤(jb5 b (jaa b) wr ms.length).length)∧(OwnS 42 1 (.slice op (goJ b (jaa b) wr k ms j).length oc) (goJ b (jaa b) wr k ms j).length vs Mo)∧(∀H2:Hp,S.Sublist H2→Mi.Sublist H2→RdE B H2 vs (goJ b (jaa b) wr k ms j))∧(∃U:Nat→Value,l=((tbV b ps ns ks pw nw cw pb nb cb)::(.slice wp wr.length wc)::(.slice mp ms.length mc)::(.pointer (some ⟨q3,0,none⟩))::(U 4)::(U 5)::(U 6)::(.slice p7 (jaa b).length c7)::(.int .i64 (ms.length:Int))::(.slice cp (jb5 b (jaa b) wr ms.length).length cc)::(U 10)::(U 11)::(.slice op (goJ b (jaa b) wr k ms j).length oc)::(.int .i64 (j:Int))::(U 14)::(U 15)::vw85 U 16 []))∧h++[⟨true,q3,.cells (tbL b ps ns ks pw nw cw pb nb cb).toArray 25 (0,0)⟩]++n7++CC++Mo++Mi=h') _ ⟨0,none,0,[],[],[],rfl,by omega,OwnS.nil,fun _ _ _=>RdE.nil,exU rfl,zS⟩ ?_;rintro nn l h' ⟨j,op,oc,vs,Mo,Mi,rfl,hj,how,hre,⟨U,rfl⟩,rfl⟩ hnext1;refine Z6 ?_
   refine jam rfl zq (fun hc=>?_) (fun hc=>?_)
   ·refine Z6 ?_
    have hjc:j<(jb5 b (jaa b) wr ms.length).length:=by omega
    obtain ⟨v,hv⟩: ∃v,v=(jb5 b (jaa b) wr ms.length).getD j 0:=⟨_,rfl⟩
    obtain ⟨cb_,co_,hcp⟩:=rC.ptr zO
    have rC2:=rC
    rw [hcp] at rC2
    refine Z9 ?_
    refine jag (fun nn l h'=> ∃(i:Nat) (q:Bool),nn=ms.length-i∧(i≤ms.length)∧(q=nextT b (jaa b) wr ms v i)∧(∃U:Nat→Value,l=((tbV b ps ns ks pw nw cw pb nb cb)::(.slice wp wr.length wc)::(.slice mp ms.length mc)::(.pointer (some ⟨q3,0,none⟩))::(U 4)::(U 5)::(U 6)::(.slice p7 (jaa b).length c7)::(.int .i64 (ms.length:Int))::(.slice cp (jb5 b (jaa b) wr ms.length).length cc)::(U 10)::(U 11)::(.slice op (goJ b (jaa b) wr k ms j).length oc)::(.int .i64 (j:Int))::(.bool q)::(.int .i64 (i:Int))::vw85 U 16 []))∧h++[⟨true,q3,.cells (tbL b ps ns ks pw nw cw pb nb cb).toArray 25 (0,0)⟩]++n7++CC++Mo++Mi=h') _ ⟨0,true,rfl,by omega,rfl,exU rfl,rfl⟩ ?_;rintro nn l h' ⟨i,q,rfl,hi,hq,⟨U,rfl⟩,rfl⟩ hnext2;refine Z5 ?_
    refine jam rfl zq (fun hc=>?_) (fun hc=>?_)
    ·refine Z5 ?_
     cases q
     have hni:(false&&nextI b (jaa b) wr ms v i)=false:=rfl
     all_goals
      refine jaq [Zp 0,Zp 1,Zp 2,Zp 3,Zk 4,Zp 5,Zp 6,Zp 7,Zk 8,Zp 9,Zp 10,Zp 12,Zp 13,Zp 14,Zp 16,Zp 17,Zp 18,Zp 20,Zp 21,Zp 22,Zp 24,Zp 25,Zp 26,Zr 11,Zr 15,Zr 19,Zr 23,Zr 27,Zk 28,Zp 29,Zp 30,Zp 31] zK zK (gE _) ?_;refine Z2 ?_
     ·refine Z37 ?_
      exact E65
     ·refine Z2 ?_;refine jaf (Post:=fun v=>IsB _ v) rfl rfl zK (fun H' hH=>f35_c m H' _ (rW.keeps (sq hH)) zO) ?_
      rintro v (⟨hc,rfl⟩|⟨hc,rfl⟩)
      ·refine Zs ?_
       have hni:nextI b (jaa b) wr ms v i=true:=by rw [nextI,decide_eq_true hc];rfl
       refine Z34 ?_
       exact E66
      ·refine Zs ?_
       have hkn: ¬(ms.length:Int)∈wr:=hc
       refine Z3 ?_;refine jaf (Post:=fun v=>IsB _ v) rfl rfl zK (fun H' hH=>f35_c m H' _ (rW.keeps (sq hH)) zO) ?_
       rintro v (⟨hc,rfl⟩|⟨hc,rfl⟩)
       ·refine Zs ?_
        have hni:nextI b (jaa b) wr ms v i=true:=by rw [nextI,decide_eq_true hc];simp
        refine Z30 ?_
        exact E66
       ·refine Zs ?_
        have hin: ¬(i:Int)∈wr:=hc
        obtain ⟨b7,o7_,hp7⟩:=r7.ptr zO
        have r7b:=r7
        rw [hp7] at r7b
        obtain ⟨mb,mo,hmp⟩:=rM.ptr zO
        have rM2:=rM.keeps hS
        rw [hmp] at rM2
        have hhi:=(jeF (b:=b) (i:=i) zO).1
        have hhm:=(jeF (b:=b) (i:=ms.length) hml).1
        refine Z4 ?_;refine jaL rfl rfl hp7 zO zO ?_;refine Z2 ?_;refine jaL rfl rfl hp7 zO zO ?_;refine Z2 ?_;refine jaL rfl rfl hmp zO zO ?_;refine Z2 ?_;refine jaL rfl rfl hcp zO zO ?_;refine jhI rfl rfl ?_;refine jb4 (vs:=[.bool ((jaa b).getD i default).butt,.int .i64 ((jaa b).getD i default).line,.int .i64 ((jaa b).getD i default).st]) rfl rfl rfl (r7b.eat i zO zO) ?_;refine jb4 (vs:=[.bool ((jaa b).getD ms.length default).butt,.int .i64 ((jaa b).getD ms.length default).line,.int .i64 ((jaa b).getD ms.length default).st]) rfl rfl rfl (r7b.eat ms.length zO zO) ?_;refine jaN rfl rfl (rM2.iat i zO zO) ?_;refine jaN rfl rfl (rC2.iat j zO zO) ?_
        rw [←hv];refine jaf (Post:=fun v=>IsB _ v) rfl rfl zK (fun H' hH=>(f177_c m H' (rd.keeps (sq hH)) hhi hhm (ms.getD i 0) v).mono fun v h' e=>⟨e.1,jrl e.2⟩) ?_;rintro v (⟨hc,rfl⟩|⟨hc,rfl⟩);refine Zs ?_
        have hni:nextI b (jaa b) wr ms v i=true:=by rw [nextI,hc];simp
        rotate_left
        refine Zs ?_
        have hni:nextI b (jaa b) wr ms v i=false:=by rw [nextI,decide_eq_false hkn,decide_eq_false hin];simpa using hc
        all_goals
         refine Z10 ?_
        ·exact E67
        ·exact E66
    ·refine Z4 ?_
     obtain rfl:i=ms.length:=by omega
     rw [nextT_all] at hq
     cases q
     ·have hgj:=goJ_no (k:=k) hjc (by rw [←hv];exact hq.symm)
      refine Z11 ?_
      rw [←hgj];exact E68
     ·have hgj:=goJ_yes (k:=k) hjc (by rw [←hv];exact hq.symm)
      rw [←hv] at hgj
      refine Z4 ?_
      have hgl:=goJ_le (k:=k) (j:=j+1) (show j+1≤(jb5 b (jaa b) wr ms.length).length by omega)
      have hgo:=goOn_le b (jaa b) wr (k+1) ms
      have hgl0:=goJ_le (k:=k) (j:=j) (show j≤(jb5 b (jaa b) wr ms.length).length by omega)
      rw [hgj,gH] at hgl
      refine jbi (S:=h++[⟨true,q3,.cells (tbL b ps ns ks pw nw cw pb nb cb).toArray 25 (0,0)⟩]++n7++CC++Mi) [0,1,2,3,4,5,6,7,8,9,10,11,12,13,14] zK zK SubH.sub ?_;refine DrawT.split 3 10 zA (DrawT.split 5 10 zA ?_ ?_) ?_
      refine DrawT.leaf [Zp 0,Zp 2,Zp 4,Zp 6,Zp 7,Zp 8,Zr 1,Zr 9,Zk 3,Zk 5,Zk 10,Zk 11,Zk 12,Zk 13,Zp 14] zK ?_;refine Z5 ?_;refine jaL rfl zq hcp zO zO ?_;refine Zs ?_;refine jaN rfl zq (rC2.iat j zO zO) ?_
      rw [←hv];refine jcQ kdq rfl zq (fun q89=>jao (jad ?_));refine jbz rfl zq (OwnS.zero (q:=q89)) (rM.keeps hS).up (fun u hu=>jba _ u hu) kdq zO zO (fun w91 n91 o91=>jad ?_);replace o91:OwnS 3 1 w91 ms.length (jav ms) n91:=by simpa using o91
      obtain ⟨p91,c91,rfl,_⟩:=o91.len
      refine jb7 kdq rfl zq zA zA rfl (fun q96=>jao (jad ?_));rotate_left
      refine DrawT.leaf [Zp 0,Zp 2,Zp 4,Zp 6,Zp 7,Zp 8,Zr 1,Zr 9,Zk 3,Zk 10,Zk 5,Zk 11,Zk 12,Zk 13,Zp 14] zK ?_;refine Z5 ?_;refine jaL rfl zq hcp zO zO ?_;refine Zs ?_;refine jaN rfl zq (rC2.iat j zO zO) ?_
      rw [←hv];refine jcQ kdq rfl zq (fun q89=>jao (jad ?_));refine jb7 kdq rfl zq zA zA rfl (fun q96=>jao (jad ?_));refine jbz rfl zq (OwnS.zero (q:=q89)) (rM.keeps hS).up (fun u hu=>jba _ u hu) kdq zO zO (fun w91 n91 o91=>jad ?_);replace o91:OwnS 3 1 w91 ms.length (jav ms) n91:=by simpa using o91
      obtain ⟨p91,c91,rfl,_⟩:=o91.len
      rotate_left
      refine DrawT.leaf [Zp 0,Zp 2,Zp 4,Zp 6,Zp 7,Zp 8,Zr 1,Zr 9,Zk 10,Zk 3,Zk 5,Zk 11,Zk 12,Zk 13,Zp 14] zK ?_;refine Z5 ?_;refine jaL rfl zq hcp zO zO ?_;refine Zs ?_;refine jaN rfl zq (rC2.iat j zO zO) ?_
      rw [←hv];refine jb7 kdq rfl zq zA zA rfl (fun q96=>jao (jad ?_));refine jcQ kdq rfl zq (fun q89=>jao (jad ?_));refine jbz rfl zq (OwnS.zero (q:=q89)) (rM.keeps hS).up (fun u hu=>jba _ u hu) kdq zO zO (fun w91 n91 o91=>jad ?_);replace o91:OwnS 3 1 w91 ms.length (jav ms) n91:=by simpa using o91
      obtain ⟨p91,c91,rfl,_⟩:=o91.len
      all_goals
       refine ja6 rfl zq rfl o91 kdq zO zO (fun w97 n97 o97=>jad ?_);replace o97:OwnS 3 1 w97 (ms++[v]).length (jav (ms++[v])) n97:=by rw [jbo,gH];exact o97
       obtain ⟨p97,c97,rfl,_⟩:=o97.len
       have r97:=o97.rd (B:=B) (gE _)
       refine jax rfl zq zK (Post:=fun v' new=>RdL B n97 new v' (jdO b (jaa b) wr k (ms++[v]))) (fun H' hH=>IH k zO H' n97 (ms++[v]) wp p97 wc c97 (ra.keeps (sq hH)) (sq hH) (rW.keeps (sq hH)) r97 o97.cap (by rw [gH,GU];omega) (by rw [gH,GU];exact GI (Nat.le_mul_of_pos_left _ zO) hpf)) ?_;rintro v' n98 ⟨p98,c98,vs98,rfl,h98⟩;refine jaz (jad ?_);refine jbz rfl zq how (h98 _ SubH.sub SubH.sub).1 (fun u hu=>(h98 (n97++n98) (gG _ _) (gK _ _)).2.ones u hu) kdq zO zO (fun w99 n99 o99=>jad ?_);replace o99:OwnS 42 1 w99 (goJ b (jaa b) wr k ms (j+1)).length (vs++vs98) n99:=by rw [hgj,gH];exact o99
       obtain ⟨p99,c99,rfl,_⟩:=o99.len
       refine Z8 ?_;refine m.weak (h':=h++[⟨true,q3,.cells (tbL b ps ns ks pw nw cw pb nb cb).toArray 25 (0,0)⟩]++n7++CC++n99++(Mi++n97++n98)) weakOff4a ?_
       exact hnext1 _ _ _ zO ⟨j+1,p99,c99,vs++vs98,n99,Mi++n97++n98,rfl,by omega,o99,fun H2 s1 s2=>by
         rw [hgj];have t1:=(gG (Mi++n97) n98).trans s2
         exact E69,exU rfl,rfl⟩
   ·refine Z4 ?_
    have hje:j=(jb5 b (jaa b) wr ms.length).length:=by omega
    subst hje
    rw [goJ_all] at how hre⊢
    refine Z5 ?_;refine jac (h++Mo++Mi) rfl Tryz.func178 rfl jab ?_;refine Zs ?_
    exact E70
end
section
variable [LaidO B]
structure Bp where
 wr:List Int
 ms:List Int
 pw:Option Addr
 pm:Option Addr
 cw:Nat
 cm:Nat
 deriving Inhabited
abbrev bpL (x:Bp):List Value:=[.slice x.pw x.wr.length x.cw,.slice x.pm x.ms.length x.cm]
instance:Enc Bp 2 where
 enc:=bpL
 len:=fun _=>rfl
 one:=fun _=>jcI rfl
def BpE (B:Array Obj) (H:Hp) (bs:List Bp) (L:List (List Int×List Int)):Prop:=(bs.map fun x=>(x.wr,x.ms))=L∧ ∀x∈bs,RdS B H 1 (.slice x.pw x.wr.length x.cw) x.wr.length (jav x.wr)∧RdS B H 1 (.slice x.pm x.ms.length x.cm) x.ms.length (jav x.ms)
theorem BpE.keeps {H':Hp} {bs:List Bp} (e:BpE B H bs L) (s:H.Sublist H'):BpE B H' bs L:=⟨e.1,fun x hx=>⟨(e.2 x hx).1.keeps s,(e.2 x hx).2.keeps s⟩⟩
theorem BpE.nil:BpE B H [] []:=⟨rfl,fun x hx=>by cases hx⟩
theorem BpE.append {bs cs:List Bp} (e:BpE B H bs L) (f:BpE B H cs M):BpE B H (bs++cs) (L++M):=⟨by rw [GC,e.1,f.1],fun x hx=>(gQ.1 hx).elim (e.2 x) (f.2 x)⟩
theorem BpE.len {bs:List Bp} (e:BpE B H bs L):bs.length=L.length:=by rw [←e.1,gN]
def RdB (B:Array Obj) (S new:Hp) (v:Value) (L:List (List Int×List Int)):Prop:= ∃p c bs,v= .slice p L.length c∧ ∀H2:Hp,S.Sublist H2→new.Sublist H2→RdS B H2 2 (.slice p L.length c) L.length (jaC bs)∧BpE B H2 bs L
theorem withT_le:(jbL b wr).length≤prodF b (jaa b) wr (jaa b).length 0:=goOn_le b (jaa b) wr (jaa b).length []
def pairK (b:Tb) (wr:List Int) (k:Nat):List (List Int×List Int):=((jbL b wr).take k).map fun ms=>(wr,ms)
theorem pairK_succ (h:k<(jbL b wr).length):pairK b wr (k+1)=pairK b wr k++[(wr,(jbL b wr).getD k [])]:=by
 rw [pairK,jaV _ k h,GC];rfl
theorem f143_c (m:Md Tryz.prog B) (h S:Hp) (ra:RawTb B h b ps ns ks pw nw cw pb nb cb) (ok:TbOk b) (hwr:wr.length≤100) {wc:Nat} (hS:S.Sublist h) (rW:RdS B S 1 (.slice wp wr.length wc) wr.length (jav wr)) (hpf:prodF b (jaa b) wr (jaa b).length 0≤1000000):FnC m 143 #[tbV b ps ns ks pw nw cw pb nb cb,.slice wp wr.length wc] h fun v h'=> ∃new,h'=h++new∧RdB B S new v ((jbL b wr).map fun ms=>(wr,ms)):=by
 refine jae Tryz.func143 rfl rfl (l:=[tbV b ps ns ks pw nw cw pb nb cb,.slice wp wr.length wc,undef,undef,undef,undef,undef,undef,undef,undef,undef,undef,undef,undef,undef,undef,undef,undef,undef,undef,undef,undef,undef,undef,undef,undef,undef]) rfl ?_
 intro cf cs K hK
 refine Z2 ?_
 refine jaA rfl zq (fun q2=>jao (jad ?_));refine Z10 ?_;refine jax rfl zq zK (Post:=fun v new=>RdL B [] new v (jbL b wr)) (fun H' hH=>f178_c m ok hwr (jaa b).length H' [] [] wp none wc 0 (ra.keeps (sq hH)) (GN _) ((rW.keeps hS).keeps (sq hH)) ⟨none,0,rfl,rfl,.inl ⟨rfl,rfl⟩⟩ (VP _) zS hpf) ?_
 rintro v nL ⟨pL,cL,vsL,rfl,hL⟩;refine jaz (jad ?_);obtain ⟨rLv,rLe⟩:=hL nL (GN _) (gE _)
 have hwl:=withT_le (b:=b) (wr:=wr)
 refine Z8 ?_
 refine jag (fun nn l h'=> ∃(k:Nat) (op:Option Addr) (oc:Nat) (bs:List Bp) (Mo:Hp),nn=(jbL b wr).length-k∧(k≤(jbL b wr).length)∧(OwnS 102 2 (.slice op k oc) k (jaC bs) Mo)∧(∀H2:Hp,S.Sublist H2→nL.Sublist H2→BpE B H2 bs (pairK b wr k))∧(∃U:Nat→Value,l=((tbV b ps ns ks pw nw cw pb nb cb)::(.slice wp wr.length wc)::(U 2)::(U 3)::(U 4)::(.slice op k oc)::(.slice pL (jbL b wr).length cL)::(.int .i64 (k:Int))::(U 8)::vw18 U 9 []))∧h++[⟨true,q2,.cells (tbL b ps ns ks pw nw cw pb nb cb).toArray 25 (0,0)⟩]++nL++Mo=h') _ ⟨0,none,0,[],[],rfl,by omega,OwnS.nil,fun _ _ _=>BpE.nil,exU rfl,zS⟩ ?_;rintro nn l h' ⟨k,op,oc,bs,Mo,rfl,hk,how,hbe,⟨U,rfl⟩,rfl⟩ hnext;refine Z6 ?_
 refine jam rfl zq (fun hc=>?_) (fun hc=>?_)
 ·refine Z5 ?_
  have hkl:k<(jbL b wr).length:=by omega
  obtain ⟨pk,ck,ek,rk⟩:=rLe.2 k hkl
  obtain ⟨bL,oL,hpL⟩:=rLv.ptr zO
  have rL2:=rLv
  rw [hpL] at rL2
  refine Z5 ?_;refine jaL rfl zq hpL zO zO ?_;refine jaN (v:= .slice pk ((jbL b wr).getD k []).length ck) rfl zq (by rw [←ek];exact rL2.vat k zO zO) ?_;refine D30 ?_
  refine jb7 kdq rfl zq zA zA rfl (fun q24=>jao (jad ?_));refine ja6 rfl zq rfl how kdq zO zO (fun w9 n9 o9=>jad ?_);replace o9:OwnS 102 2 w9 (k+1) (jaC (bs++[⟨wr,(jbL b wr).getD k [],wp,pk,wc,ck⟩])) n9:=by rw [ja0];exact o9
  obtain ⟨p9,c9,rfl,_⟩:=o9.len
  refine Z8 ?_;refine m.weak (h':=h++[⟨true,q2,.cells (tbL b ps ns ks pw nw cw pb nb cb).toArray 25 (0,0)⟩]++nL++n9) jf8 ?_
  exact hnext _ _ _ zO ⟨k+1,p9,c9,bs++[⟨wr,(jbL b wr).getD k [],wp,pk,wc,ck⟩],n9,rfl,by omega,o9,fun H2 s1 s2=>by
    rw [pairK_succ hkl];refine (hbe H2 s1 s2).append ⟨rfl,fun x hx=>?_⟩
    obtain rfl:=gw.1 hx
    exact ⟨rW.keeps s1,rk.keeps s2⟩,exU rfl,rfl⟩
 ·refine Z4 ?_
  obtain rfl:k=(jbL b wr).length:=by omega
  refine Z5 ?_;refine jac (h++nL++Mo) rfl Tryz.func143 rfl jab ?_;refine Zs ?_
  exact E71
end
section
variable [LaidO B]
theorem subsM_len (most:Nat): ∀n,(jai most n).length≤2^n
 |0=>gM _
 |n+1=>by
  have h:=subsM_len most n
  rw [jai,gH,gN,xQ];have:=GX (fun l:List Int=>decide (l.length<most)) (jai most n)
  omega
theorem subsM_12 (most:Nat) (h:n≤12):(jai most n).length≤4096:=GI (subsM_len most n) (GY zA h)
theorem weakOff3a {F1 F2 F3:Hp} [a:Off h' Z F1] [b:Off F1 Y F2] [c:Off F2 X F3] [s:SubH H F3]:Weak B h' (H++X++(Y++Z)):=by
 rw [show H++X++(Y++Z)=H++X++Y++Z by simp only [gI]];exact jkh
def subK (most i k:Nat):List (List Int):=jai most i++(((jai most i).take k).filter fun l=>decide (l.length<most)).map (· ++[(i:Int)])
theorem subK_zero (most i:Nat):subK most i 0=jai most i:=by simp [subK]
theorem subK_all (most i:Nat):subK most i (jai most i).length=jai most (i+1):=by rw [subK,GE];rfl
theorem subK_le:(subK most i k).length≤2*(jai most i).length:=by
 rw [subK,gH,gN];have h1:=GX (fun l:List Int=>decide (l.length<most)) ((jai most i).take k)
 have h2:((jai most i).take k).length≤(jai most i).length:=by rw [GO];omega
 omega
theorem subK_at (h:j<(jai most i).length):(subK most i k).getD j []=(jai most i).getD j []:=by
 rw [subK,gC,gb h,gC]
section
variable (hk:k<(jai most i).length)
include hk
theorem subK_yes (h:((jai most i).getD k []).length<most):subK most i (k+1)=subK most i k++[(jai most i).getD k []++[(i:Int)]]:=by
 rw [subK,jaV _ k hk,GA,GC,subK,gI];congr 2
 show List.map _ (List.filter _ [(jai most i).getD k []])=_
 rw [vk (by simpa using h)];rfl
theorem subK_no (h: ¬((jai most i).getD k []).length<most):subK most i (k+1)=subK most i k:=by
 rw [subK,jaV _ k hk,GA,GC,subK];show _++(_++List.map _ (List.filter _ [(jai most i).getD k []]))=_
 rw [vh (by simpa using h)];simp
end
def boatsK (b:Tb) (k:Nat):List (List Int×List Int):=((jai b.wrong.toNat (jaa b).length).take k).flatMap fun wr=>(jbL b wr).map fun ms=>(wr,ms)
theorem boatsK_succ (h:k<(jai b.wrong.toNat (jaa b).length).length):boatsK b (k+1)=boatsK b k++((jbL b ((jai b.wrong.toNat (jaa b).length).getD k [])).map fun ms=>((jai b.wrong.toNat (jaa b).length).getD k [],ms)):=by
 rw [boatsK,jaV _ k h,GQ];show _++List.flatMap _ [(jai b.wrong.toNat (jaa b).length).getD k []]=_
 rw [vL,List.flatMap_nil,ge];rfl
theorem boatsK_all (b:Tb):boatsK b (jai b.wrong.toNat (jaa b).length).length=jar b:=by rw [boatsK,GE];rfl
theorem boatsR_len (ok:TbOk b):(jar b).length=(jah b).length:=by
 rw [(jcV b ok.wrong.1).length_eq,gN];rfl
theorem boatsK_le (k:Nat):(boatsK b k).length≤(jar b).length:=by
 rw [←boatsK_all,boatsK,boatsK,GE];obtain ⟨r,hr⟩: ∃r,jai b.wrong.toNat (jaa b).length=(jai b.wrong.toNat (jaa b).length).take k++r:=⟨_,(vA k _).symm⟩
 conv=>rhs;rw [hr,GQ,gH]
 exact xH _ _
theorem boatsR_nil (ok:TbOk b):jar b=[]↔jah b=[]:=by rw [←GB,boatsR_len ok,GB]
theorem prodF_le {b:Tb} (wr:List Int): ∀(k n:Nat),n+k=(jaa b).length→prodF b (jaa b) wr k n≤jd6 ((cdT b).drop n)
 |0,n,h=>by rw [prodF,gP (by rw [jau];omega)];exact gM _
 |k+1,n,h=>by
  have hn:n<(cdT b).length:=by rw [jau];omega
  have ih:=prodF_le (b:=b) wr k (n+1) zO
  have e:(cdT b).drop n=dA (cdT b) n::(cdT b).drop (n+1):=by
   rw [dA,gC,gD hn,gu];exact vN hn
  rw [e,prodF];rw [jd6];rw [can_at zO];refine vo ?_ ih
  unfold jb5
  split
  ·exact Vf 1 _
  ·exact VW 1 _
theorem prodF_sm (ok:TbOk b) (wr:List Int):prodF b (jaa b) wr (jaa b).length 0≤1000000:=by
 have h1:=prodF_le (b:=b) wr (jaa b).length 0 zO
 rw [xf] at h1
 have:=jkD ok
 omega
theorem f129_c (m:Md Tryz.prog B) (h:Hp) {p:Option Addr} {c:Nat} (rd:RdS B h 1 (.slice p n c) n (jav (jbq n))) (hn:n≤12) (most:Nat) (hm:most≤1000):FnC m 129 #[.slice p n c,.int .i64 (most:Int)] h fun v h'=> ∃new,h'=h++new∧RdL B [] new v (jai most n):=by
 refine jae Tryz.func129 rfl rfl (l:=[.slice p n c,.int .i64 (most:Int),undef,undef,undef,undef,undef,undef,undef,undef,undef,undef,undef,undef,undef,undef,undef,undef,undef,undef,undef,undef,undef,undef,undef,undef,undef,undef,undef,undef,undef,undef,undef,undef,undef,undef,undef,undef,undef,undef,undef,undef,undef,undef,undef,undef]) rfl ?_
 intro cf cs K hK
 refine Z6 ?_
 refine jb7 kdq rfl zq zA zA rfl (fun q9=>jao (jad ?_));refine Z8 ?_
 have o9:OwnS 42 1 (.slice (some ⟨q9,0,none⟩) 1 1) 1 [Value.slice none 0 0] [⟨true,q9,.cells [Value.slice none 0 0].toArray 42 (0,0)⟩]:=OwnS.full rfl
 have e9:RdE B [] [Value.slice none 0 0] [[]]:=RdE.snoc RdE.nil rfl ⟨none,0,rfl,rfl,.inl ⟨rfl,rfl⟩⟩ (gM 0)
 refine jag (fun nn l h'=> ∃(i:Nat) (op:Option Addr) (oc:Nat) (vs:List Value) (Mo Mi:Hp),nn=n-i∧(i≤n)∧(OwnS 42 1 (.slice op (jai most i).length oc) (jai most i).length vs Mo)∧(RdE B Mi vs (jai most i))∧(∃U:Nat→Value,l=((.slice p n c)::(.int .i64 (most:Int))::(U 2)::(U 3)::(U 4)::(.slice op (jai most i).length oc)::(.int .i64 (i:Int))::vw39 U 7 []))∧h++Mo++Mi=h') _ ⟨0,some ⟨q9,0,none⟩,1,[Value.slice none 0 0],[⟨true,q9,.cells [Value.slice none 0 0].toArray 42 (0,0)⟩],[],rfl,by omega,o9,e9,exU rfl,zS⟩ ?_;rintro nn l h' ⟨i,op,oc,vs,Mo,Mi,rfl,hi,how,hre,⟨U,rfl⟩,rfl⟩ hnext1;refine Z6 ?_
 refine jam rfl zq (fun hc=>?_) (fun hc=>?_)
 ·refine Z6 ?_
  have hin:i<n:=by omega
  have hsl:=subsM_12 most (n:=i) zO
  refine Z10 ?_
  rw [←subK_zero] at how hre
  rw [show (.slice op (jai most i).length oc:Value)= .slice op (subK most i 0).length oc by rw [subK_zero]];refine jag (fun nn l h'=> ∃(k:Nat) (op2:Option Addr) (oc2:Nat) (vs2:List Value) (Mo2 Mi2:Hp),nn=(jai most i).length-k∧(k≤(jai most i).length)∧(OwnS 42 1 (.slice op2 (subK most i k).length oc2) (subK most i k).length vs2 Mo2)∧(RdE B Mi2 vs2 (subK most i k))∧(∃U:Nat→Value,l=((.slice p n c)::(.int .i64 (most:Int))::(U 2)::(U 3)::(U 4)::(.slice op2 (subK most i k).length oc2)::(.int .i64 (i:Int))::(.int .i64 ((jai most i).length:Int))::(.int .i64 (k:Int))::vw37 U 9 []))∧h++Mo2++Mi2=h') _ ⟨0,op,oc,vs,Mo,Mi,rfl,by omega,how,hre,exU rfl,rfl⟩ ?_;rintro nn l h' ⟨k,op2,oc2,vs2,Mo2,Mi2,rfl,hk,how2,hre2,⟨U,rfl⟩,rfl⟩ hnext2;refine Z5 ?_
  refine jam rfl zq (fun hc=>?_) (fun hc=>?_)
  ·refine Z6 ?_
   have hkl:k<(jai most i).length:=by omega
   have hsl2:=subK_le (most:=most) (i:=i) (k:=k)
   have hkl2:k<(subK most i k).length:=by rw [subK,gH];omega
   obtain ⟨pk,ck,ek,rk⟩:=hre2.2 k hkl2
   rw [subK_at hkl] at ek rk
   have rov:=how2.rd (B:=B) (gE _)
   obtain ⟨b5,o5,hp5⟩:=rov.ptr zO
   have ro2:=rov
   rw [hp5] at ro2
   have hlk:((jai most i).getD k []).length≤12:=by
    obtain ⟨_,h2,h3⟩:=jbR (jaj (l:=jai most i) hkl)
    exact GI (jje (n:=i) h2 h3) zO
   refine Z3 ?_;refine jaL rfl zq hp5 zO zO ?_;refine jaN (v:= .slice pk ((jai most i).getD k []).length ck) rfl zq (by rw [←ek];exact ro2.vat k zO zO) ?_;refine Z2 ?_
   refine jam rfl zq (fun hc=>?_) (fun hc=>?_)
   ·have hsk:=subK_yes hkl zO
    refine Z2 ?_
    obtain ⟨pb,po,hpp⟩:=rd.ptr zO
    have rd2:=rd
    rw [hpp] at rd2
    refine jbi (S:=h++Mi2) [0,1,2,3,4,5,6,7,8,9,10,11,12,13,14,15] zK zK SubH.sub ?_;refine DrawT.split 1 5 zA (DrawT.split 1 11 zA (DrawT.split 5 11 zA (DrawT.split 6 11 zA ?_ ?_) ?_) ?_) (DrawT.split 1 11 zA (DrawT.split 6 11 zA ?_ ?_) (DrawT.split 5 11 zA ?_ ?_))
    refine DrawT.leaf [Zp 0,Zp 2,Zp 3,Zp 4,Zp 7,Zp 8,Zp 9,Zr 10,Zk 1,Zk 5,Zk 6,Zk 11,Zk 12,Zk 13,Zk 14,Zp 15] zK ?_;refine Z3 ?_;refine jaL rfl zq hp5 zO zO ?_;refine Z2 ?_;refine jaL rfl zq hpp zO zO ?_;refine jaN rfl zq (rd2.iat i zO zO) ?_
    rw [jbp hin];refine jcQ kdq rfl zq (fun q31=>jao (jad ?_));refine jaN (v:= .slice pk ((jai most i).getD k []).length ck) rfl zq (by rw [←ek];exact ro2.vat k zO zO) ?_;refine jbz rfl zq (OwnS.zero (q:=q31)) rk.up (fun u hu=>jba _ u hu) kdq zO zO (fun w91 n91 o91=>jad ?_);replace o91:OwnS 3 1 w91 ((jai most i).getD k []).length (jav ((jai most i).getD k [])) n91:=by simpa using o91
    obtain ⟨p91,c91,rfl,_⟩:=o91.len
    refine jb7 kdq rfl zq zA zA rfl (fun q41=>jao (jad ?_));rotate_left
    refine DrawT.leaf [Zp 0,Zp 2,Zp 3,Zp 4,Zp 7,Zp 8,Zp 9,Zr 10,Zk 1,Zk 5,Zk 11,Zk 6,Zk 12,Zk 13,Zk 14,Zp 15] zK ?_;refine Z3 ?_;refine jaL rfl zq hp5 zO zO ?_;refine Z2 ?_;refine jaL rfl zq hpp zO zO ?_;refine jaN rfl zq (rd2.iat i zO zO) ?_
    rw [jbp hin];refine jcQ kdq rfl zq (fun q31=>jao (jad ?_));refine jaN (v:= .slice pk ((jai most i).getD k []).length ck) rfl zq (by rw [←ek];exact ro2.vat k zO zO) ?_;refine jb7 kdq rfl zq zA zA rfl (fun q41=>jao (jad ?_));refine jbz rfl zq (OwnS.zero (q:=q31)) rk.up (fun u hu=>jba _ u hu) kdq zO zO (fun w91 n91 o91=>jad ?_);replace o91:OwnS 3 1 w91 ((jai most i).getD k []).length (jav ((jai most i).getD k [])) n91:=by simpa using o91
    obtain ⟨p91,c91,rfl,_⟩:=o91.len
    rotate_left
    refine DrawT.leaf [Zp 0,Zp 2,Zp 3,Zp 4,Zp 7,Zp 8,Zp 9,Zr 10,Zk 1,Zk 11,Zk 5,Zk 6,Zk 12,Zk 13,Zk 14,Zp 15] zK ?_;refine Z3 ?_;refine jaL rfl zq hp5 zO zO ?_;refine Z2 ?_;refine jaL rfl zq hpp zO zO ?_;refine jaN rfl zq (rd2.iat i zO zO) ?_
    rw [jbp hin];refine jcQ kdq rfl zq (fun q31=>jao (jad ?_));refine jb7 kdq rfl zq zA zA rfl (fun q41=>jao (jad ?_));refine jaN (v:= .slice pk ((jai most i).getD k []).length ck) rfl zq (by rw [←ek];exact ro2.vat k zO zO) ?_;refine jbz rfl zq (OwnS.zero (q:=q31)) rk.up (fun u hu=>jba _ u hu) kdq zO zO (fun w91 n91 o91=>jad ?_);replace o91:OwnS 3 1 w91 ((jai most i).getD k []).length (jav ((jai most i).getD k [])) n91:=by simpa using o91
    obtain ⟨p91,c91,rfl,_⟩:=o91.len
    rotate_left
    refine DrawT.leaf [Zp 0,Zp 2,Zp 3,Zp 4,Zp 7,Zp 8,Zp 9,Zr 10,Zk 11,Zk 1,Zk 5,Zk 6,Zk 12,Zk 13,Zk 14,Zp 15] zK ?_;refine Z3 ?_;refine jaL rfl zq hp5 zO zO ?_;refine Z2 ?_;refine jaL rfl zq hpp zO zO ?_;refine jaN rfl zq (rd2.iat i zO zO) ?_
    rw [jbp hin];refine jb7 kdq rfl zq zA zA rfl (fun q41=>jao (jad ?_));refine jcQ kdq rfl zq (fun q31=>jao (jad ?_));refine jaN (v:= .slice pk ((jai most i).getD k []).length ck) rfl zq (by rw [←ek];exact ro2.vat k zO zO) ?_;refine jbz rfl zq (OwnS.zero (q:=q31)) rk.up (fun u hu=>jba _ u hu) kdq zO zO (fun w91 n91 o91=>jad ?_);replace o91:OwnS 3 1 w91 ((jai most i).getD k []).length (jav ((jai most i).getD k [])) n91:=by simpa using o91
    obtain ⟨p91,c91,rfl,_⟩:=o91.len
    rotate_left
    refine DrawT.leaf [Zp 0,Zp 2,Zp 3,Zp 4,Zp 7,Zp 8,Zp 9,Zr 10,Zk 5,Zk 1,Zk 6,Zk 11,Zk 12,Zk 13,Zk 14,Zp 15] zK ?_;refine Z3 ?_;refine jaL rfl zq hp5 zO zO ?_;refine Z2 ?_;refine jaL rfl zq hpp zO zO ?_;refine jaN rfl zq (rd2.iat i zO zO) ?_
    rw [jbp hin];refine jaN (v:= .slice pk ((jai most i).getD k []).length ck) rfl zq (by rw [←ek];exact ro2.vat k zO zO) ?_;refine jcQ kdq rfl zq (fun q31=>jao (jad ?_));refine jbz rfl zq (OwnS.zero (q:=q31)) rk.up (fun u hu=>jba _ u hu) kdq zO zO (fun w91 n91 o91=>jad ?_);replace o91:OwnS 3 1 w91 ((jai most i).getD k []).length (jav ((jai most i).getD k [])) n91:=by simpa using o91
    obtain ⟨p91,c91,rfl,_⟩:=o91.len
    refine jb7 kdq rfl zq zA zA rfl (fun q41=>jao (jad ?_));rotate_left
    refine DrawT.leaf [Zp 0,Zp 2,Zp 3,Zp 4,Zp 7,Zp 8,Zp 9,Zr 10,Zk 5,Zk 1,Zk 11,Zk 6,Zk 12,Zk 13,Zk 14,Zp 15] zK ?_;refine Z3 ?_;refine jaL rfl zq hp5 zO zO ?_;refine Z2 ?_;refine jaL rfl zq hpp zO zO ?_;refine jaN rfl zq (rd2.iat i zO zO) ?_
    rw [jbp hin];refine jaN (v:= .slice pk ((jai most i).getD k []).length ck) rfl zq (by rw [←ek];exact ro2.vat k zO zO) ?_;refine jcQ kdq rfl zq (fun q31=>jao (jad ?_));refine jb7 kdq rfl zq zA zA rfl (fun q41=>jao (jad ?_));refine jbz rfl zq (OwnS.zero (q:=q31)) rk.up (fun u hu=>jba _ u hu) kdq zO zO (fun w91 n91 o91=>jad ?_);replace o91:OwnS 3 1 w91 ((jai most i).getD k []).length (jav ((jai most i).getD k [])) n91:=by simpa using o91
    obtain ⟨p91,c91,rfl,_⟩:=o91.len
    rotate_left
    refine DrawT.leaf [Zp 0,Zp 2,Zp 3,Zp 4,Zp 7,Zp 8,Zp 9,Zr 10,Zk 5,Zk 11,Zk 1,Zk 6,Zk 12,Zk 13,Zk 14,Zp 15] zK ?_;refine Z3 ?_;refine jaL rfl zq hp5 zO zO ?_;refine Z2 ?_;refine jaL rfl zq hpp zO zO ?_;refine jaN rfl zq (rd2.iat i zO zO) ?_
    rw [jbp hin];refine jaN (v:= .slice pk ((jai most i).getD k []).length ck) rfl zq (by rw [←ek];exact ro2.vat k zO zO) ?_;refine jb7 kdq rfl zq zA zA rfl (fun q41=>jao (jad ?_));refine jcQ kdq rfl zq (fun q31=>jao (jad ?_));refine jbz rfl zq (OwnS.zero (q:=q31)) rk.up (fun u hu=>jba _ u hu) kdq zO zO (fun w91 n91 o91=>jad ?_);replace o91:OwnS 3 1 w91 ((jai most i).getD k []).length (jav ((jai most i).getD k [])) n91:=by simpa using o91
    obtain ⟨p91,c91,rfl,_⟩:=o91.len
    rotate_left
    refine DrawT.leaf [Zp 0,Zp 2,Zp 3,Zp 4,Zp 7,Zp 8,Zp 9,Zr 10,Zk 11,Zk 5,Zk 1,Zk 6,Zk 12,Zk 13,Zk 14,Zp 15] zK ?_;refine Z3 ?_;refine jaL rfl zq hp5 zO zO ?_;refine Z2 ?_;refine jaL rfl zq hpp zO zO ?_;refine jaN rfl zq (rd2.iat i zO zO) ?_
    rw [jbp hin];refine jb7 kdq rfl zq zA zA rfl (fun q41=>jao (jad ?_));refine jaN (v:= .slice pk ((jai most i).getD k []).length ck) rfl zq (by rw [←ek];exact ro2.vat k zO zO) ?_;refine jcQ kdq rfl zq (fun q31=>jao (jad ?_));refine jbz rfl zq (OwnS.zero (q:=q31)) rk.up (fun u hu=>jba _ u hu) kdq zO zO (fun w91 n91 o91=>jad ?_);replace o91:OwnS 3 1 w91 ((jai most i).getD k []).length (jav ((jai most i).getD k [])) n91:=by simpa using o91
    obtain ⟨p91,c91,rfl,_⟩:=o91.len
    all_goals
     refine ja6 rfl zq rfl o91 kdq zO zO (fun w97 n97 o97=>jad ?_);replace o97:OwnS 3 1 w97 (((jai most i).getD k []).length+1) (jav ((jai most i).getD k []++[(i:Int)])) n97:=by rw [jbo];exact o97
     obtain ⟨p97,c97,rfl,_⟩:=o97.len
     have r97:=o97.rd (B:=B) (gE _)
     refine jb7 kdq rfl zq zA zA rfl (fun q43=>jao (jad ?_));refine ja6 rfl zq rfl how2 kdq zO zO (fun w99 n99 o99=>jad ?_);replace o99:OwnS 42 1 w99 (subK most i (k+1)).length (vs2++[.slice p97 (((jai most i).getD k []).length+1) c97]) n99:=by rw [hsk,gH];exact o99
     obtain ⟨p99,c99,rfl,_⟩:=o99.len
     refine Z8 ?_;refine m.weak (h':=h++n99++(Mi2++n97)) weakOff3a ?_
     exact E73
   ·have hsk:=subK_no hkl zO
    refine Z9 ?_
    rw [←hsk];exact E75
  ·refine Z4 ?_
   obtain rfl:k=(jai most i).length:=by omega
   refine Z5 ?_
   rw [subK_all];exact E76
 ·refine Z4 ?_
  obtain rfl:i=n:=by omega
  refine Z5 ?_;refine jac (h++Mo++Mi) rfl Tryz.func129 rfl jab ?_;refine Zs ?_
  exact E77
end
section
variable [LaidO B]
theorem sub_12 (ok:TbOk b) (hk:k<(jai b.wrong.toNat (jaa b).length).length):((jai b.wrong.toNat (jaa b).length).getD k []).length≤100:=by
 obtain ⟨h1,_,_⟩:=jbR (jaj (l:=jai b.wrong.toNat (jaa b).length) hk)
 have h2:((jai b.wrong.toNat (jaa b).length).getD k []).length≤b.wrong.toNat:=h1
 have:=ok.wrong
 omega
def askedS (b:Tb) (th:Bool) (own:Int):Int:=if tbS b≠0 then tbS b else if th=false then 6 else if own≠0 then own else if jah b=[] then 9 else 0
theorem askedS_open {th:Bool} {own:Int}:askedS b th own=jaH b (if th=false then 6 else own):=by
 unfold askedS jaH
 cases th with
 |true=>simp
 |false=>simp
theorem f141_c (m:Md Tryz.prog B) (h:Hp) (ra:RawTb B h b ps ns ks pw nw cw pb nb cb) (ok:TbOk b):FnC m 141 #[tbV b ps ns ks pw nw cw pb nb cb] h fun v h'=> ∃new,h'=h++new∧RdB B [] new v (jar b):=by
 have rd:=ra.rd ok
 have h12:=ja3 ok
 have hs4:=subsM_12 b.wrong.toNat h12
 have hwo:=ok.wrong
 have hwn:b.wrong=((b.wrong.toNat:Nat):Int):=by omega
 refine jae Tryz.func141 rfl rfl (l:=(tbV b ps ns ks pw nw cw pb nb cb)::uu27) rfl ?_
 intro cf cs K hK
 refine Z2 ?_
 refine jaA rfl zq (fun q1=>jao (jad ?_));refine Z7 ?_;refine jbi [0,1,2,3,4,5,6,7] zK zK (gE _) ?_;refine DrawT.leaf [Zp 4,Zr 0,Zr 5,Zk 1,Zp 2,Zk 3,Zk 6,Zp 7] zK ?_;refine Z3 ?_;refine jax rfl zq zK (Post:=fun w new=>OwnS 37 3 w (jaa b).length (jaC (jaa b)) new) (fun H' hH=>f26_c _ H' (rd.keeps (sq hH))) ?_
 rintro w n7 o7;refine jaz (jad ?_);obtain ⟨p7,c7,rfl,hc7,r7⟩:=jas (B:=B) o7
 refine Zs ?_;refine jax rfl zq zK (Post:=fun w new=>OwnS 3 1 w (jaa b).length (jav (jbq (jaa b).length)) new) (fun H' hH=>f128_c m H' (jaa b).length zO) ?_
 rintro w nF oF;refine jaz (jad ?_);obtain ⟨pF,cF,rfl,_,rF⟩:=jas (B:=B) oF
 refine jax rfl zq zK (Post:=fun v new=>RdL B [] new v (jai b.wrong.toNat (jaa b).length)) (fun H' hH=>by have:=f129_c m H' (rF.keeps (sq hH)) h12 b.wrong.toNat zO;rw [←hwn] at this;exact this) ?_;rintro v nS ⟨pS,cS,vsS,rfl,hSS⟩;refine jaz (jad ?_);obtain ⟨rSv,rSe⟩:=hSS nS (GN _) (gE _)
 refine Z8 ?_;refine m.weak (h':=h++[⟨true,q1,.cells (tbL b ps ns ks pw nw cw pb nb cb).toArray 25 (0,0)⟩]++nS) jab ?_
 refine jag (fun nn l h'=> ∃(k:Nat) (op:Option Addr) (oc:Nat) (bs:List Bp) (Mo Mi:Hp),nn=(jai b.wrong.toNat (jaa b).length).length-k∧(k≤(jai b.wrong.toNat (jaa b).length).length)∧(OwnS 102 2 (.slice op (boatsK b k).length oc) (boatsK b k).length (jaC bs) Mo)∧(BpE B (nS++Mi) bs (boatsK b k))∧(∃U:Nat→Value,l=((tbV b ps ns ks pw nw cw pb nb cb)::(.pointer (some ⟨q1,0,none⟩))::(U 2)::(.slice op (boatsK b k).length oc)::(.slice pS (jai b.wrong.toNat (jaa b).length).length cS)::(.int .i64 (k:Int))::vw22 U 6 []))∧h++[⟨true,q1,.cells (tbL b ps ns ks pw nw cw pb nb cb).toArray 25 (0,0)⟩]++nS++Mo++Mi=h') _ ⟨0,none,0,[],[],[],rfl,by omega,OwnS.nil,BpE.nil,exU rfl,zS⟩ ?_;rintro nn l h' ⟨k,op,oc,bs,Mo,Mi,rfl,hk,how,hbe,⟨U,rfl⟩,rfl⟩ hnext;refine Z6 ?_
 refine jam rfl zq (fun hc=>?_) (fun hc=>?_)
 ·refine Z5 ?_
  have hkl:k<(jai b.wrong.toNat (jaa b).length).length:=by omega
  obtain ⟨pk,ck,ek,rk⟩:=rSe.2 k hkl
  obtain ⟨b5,o5,hp5⟩:=rSv.ptr zO
  have rS2:=rSv
  rw [hp5] at rS2
  have hbl:=boatsR_len ok
  have hbl2:=jbr ok
  have hk1:=boatsK_le (b:=b) (k+1)
  rw [boatsK_succ hkl,gH] at hk1
  refine jbi (S:=h++[⟨true,q1,.cells (tbL b ps ns ks pw nw cw pb nb cb).toArray 25 (0,0)⟩]++nS++Mi) [0,1,2,3,4,5,6,7,8] zK zK SubH.sub ?_;refine DrawT.leaf [Zp 0,Zp 2,Zp 3,Zp 4,Zr 1,Zr 5,Zk 6,Zk 7,Zp 8] zK ?_;refine Z3 ?_;refine jaL rfl zq hp5 zO zO ?_;refine Zs ?_;refine jaN (v:= .slice pk ((jai b.wrong.toNat (jaa b).length).getD k []).length ck) rfl zq (by rw [←ek];exact rS2.vat k zO zO) ?_;refine jax rfl zq zK (Post:=fun v new=>RdB B nS new v ((jbL b ((jai b.wrong.toNat (jaa b).length).getD k [])).map fun ms=>((jai b.wrong.toNat (jaa b).length).getD k [],ms))) (fun H' hH=>f143_c m H' nS (ra.keeps (sq hH)) ok (sub_12 ok hkl) (sq hH) rk (prodF_sm ok _)) ?_;rintro v n98 ⟨p98,c98,bs98,rfl,h98⟩;refine jaz (jad ?_);have rd98:=(h98 (nS++n98) (gG _ _) (gK _ _)).1
  have be98:=(h98 (nS++n98) (gG _ _) (gK _ _)).2
  refine jbz rfl zq how (h98 _ SubH.sub SubH.sub).1 (fun u hu=>jdr _ u hu) kdq zO zO (fun w99 n99 o99=>jad ?_);replace o99:OwnS 102 2 w99 (boatsK b (k+1)).length (jaC (bs++bs98)) n99:=by rw [boatsK_succ hkl,gH,ja0];exact o99
  obtain ⟨p99,c99,rfl,_⟩:=o99.len
  refine Z8 ?_;refine m.weak (h':=h++[⟨true,q1,.cells (tbL b ps ns ks pw nw cw pb nb cb).toArray 25 (0,0)⟩]++nS++n99++(Mi++n98)) weakOff3a ?_
  exact hnext _ _ _ zO ⟨k+1,p99,c99,bs++bs98,n99,Mi++n98,rfl,by omega,o99,by
    rw [boatsK_succ hkl];refine (hbe.keeps (by rw [←gI];exact gG _ _)).append (h98 _ (gG _ _) (by rw [←gI];exact E41)).2,exU rfl,rfl⟩
 ·refine Z4 ?_
  obtain rfl:k=(jai b.wrong.toNat (jaa b).length).length:=by omega
  rw [boatsK_all] at how hbe⊢
  refine Z5 ?_;refine jac (h++nS++Mo++Mi) rfl Tryz.func141 rfl jab ?_;refine Zs ?_
  exact E78
theorem f130_c (m:Md Tryz.prog B) (h:Hp) (ra:RawTb B h b ps ns ks pw nw cw pb nb cb) (th:Bool) (own:Int):FnC m 130 #[tbV b ps ns ks pw nw cw pb nb cb,.bool th,.int .i64 own] h fun v h'=> ∃new,h'=h++new∧ ∃w,v= .tuple [w,.int .i64 (askedS b th own)].toArray∧(askedS b th own=0→RdB B [] new w (jar b)):=by
 refine jae Tryz.func130 rfl rfl (l:=(tbV b ps ns ks pw nw cw pb nb cb)::(.bool th)::(.int .i64 own)::uu23) rfl ?_
 intro cf cs K hK
 refine Z2 ?_
 refine jaA rfl zq (fun q1=>jao (jad ?_));refine Z7 ?_;refine jaf (Post:=fun v=>v= .int .i64 (tbS b)) rfl zq zK (fun H' hH=>f66_r m H' (ra.keeps (sq hH))) ?_
 rintro v rfl;refine Z6 ?_
 refine jaI rfl zq (fun hc=>?_) (fun hc=>?_)
 ·refine Z9 ?_;refine jac (h) rfl Tryz.func130 rfl jab ?_;refine Zs ?_
  have ha:askedS b th own=tbS b:=by rw [askedS,if_pos zO]
  exact ⟨[],by simp,_,by rw [ha],fun e=>absurd (ha▸e) zO⟩
 ·refine Z5 ?_
  have hz:tbS b=0:=by omega
  have ok:=jej hz
  have ha:askedS b th own=if th=false then 6 else if own≠0 then own else if jah b=[] then 9 else 0:=by rw [askedS,if_neg (fun e=>e hz)]
  cases th
  ·refine Z11 ?_;refine jac (h) rfl Tryz.func130 rfl jab ?_;refine Zs ?_
   have ha2:askedS b false own=6:=by rw [ha,if_pos rfl]
   exact E79
  ·refine Z10 ?_
   refine jaI rfl zq (fun hc=>?_) (fun hc=>?_)
   ·refine Z9 ?_;refine jac (h) rfl Tryz.func130 rfl jab ?_;refine Zs ?_
    have ha2:askedS b true own=own:=by rw [ha,if_neg zA,if_pos zO]
    exact ⟨[],by simp,_,by rw [ha2],fun e=>absurd (ha2▸e) zO⟩
   ·refine Z6 ?_;refine jax rfl zq zK (Post:=fun v new=>RdB B [] new v (jar b)) (fun H' hH=>f141_c m H' (ra.keeps (sq hH)) ok) ?_
    rintro v nB ⟨pB,cB,bs,rfl,hB⟩;refine jaz (jad ?_);have hbl:=boatsR_len ok
    refine Z7 ?_
    refine jaE rfl zq (fun hc=>?_) (fun hc=>?_)
    ·refine Z8 ?_;refine jac (h) rfl Tryz.func130 rfl jab ?_;refine Zs ?_
     have hn:jah b=[]:=GB.1 zO
     have ha2:askedS b true own=9:=by rw [ha,if_neg zA,if_neg zO,if_pos hn]
     exact E79
    ·refine Z10 ?_;refine jac (h++nB) rfl Tryz.func130 rfl jab ?_;refine Zs ?_
     have hn: ¬jah b=[]:=fun e=>by
      have h0:(jar b).length=0:=by rw [(boatsR_nil ok).2 e];rfl
      omega
     have ha2:askedS b true own=0:=by rw [ha,if_neg zA,if_neg zO,if_neg hn]
     exact ⟨nB,rfl,_,by rw [ha2],fun _=>⟨pB,cB,bs,rfl,hB⟩⟩
end
section
variable [LaidO B]
theorem bs_none:jdl bt st p d none s=s:=rfl
theorem bs_off {o:Option Int} (h:d.st≠st):jdl bt st p d o s=s:=by
 unfold jdl
 cases o with
 |none=>rfl
 |some v=>simp only [ne_eq,h,not_false_eq_true,if_true]
theorem jk7 {v:Int} (h:d.st=st) (hb:d.butt=bt):jdl bt st p d (some v) s=(if d.lat≤p then max s.1 v else s.1,if p≤d.lat then min s.2 v else s.2):=by
 unfold jdl
 simp only [ne_eq,h,not_true_eq_false,if_false,hb,if_true]
theorem jhZ {v:Int} (h:d.st=st) (hb:d.butt≠bt):jdl bt st p d (some v) s=(if v<p then max s.1 d.lat else s.1,if p<v then min s.2 d.lat else s.2):=by
 unfold jdl
 simp only [ne_eq,h,not_true_eq_false,if_false,hb]
theorem boOf_self {x:Bo} (h:x.length=n):boOf n (jbH x) (jcE x)=x:=by
 refine Ga (by rw [boOf_len,h]) fun i h1 h2=>?_
 rw [boOf_len] at h1
 have e:=xA_boOf (wr:=jbH x) (ms:=jcE x) h1
 rw [xA,gC,gD (by rw [boOf_len];exact h1),gu] at e
 rw [e];have hx:xA x i=x[i]:=by rw [xA,gC,gD h2];rfl
 by_cases hw:(i:Int)∈jbH x
 ·obtain ⟨j,e1,e2,e3⟩:=jcA.1 hw
  obtain rfl:i=j:=by omega
  rw [if_pos hw,←hx,e3]
 ·rw [if_neg hw,←hx];cases hv:xA x i with
  |none=>exact absurd (jcA.2 ⟨i,rfl,h2,hv⟩) hw
  |some v=>
   rw [jcE,gC,gX,gD h2,←hx,hv];rfl
def bdR (b:Tb) (bt:Bool) (st p:Int) (q:List Int×List Int):Int×Int:=bdA (cdT b) (boOf (jaa b).length q.1 q.2) bt st p
def spR (b:Tb) (bt:Bool) (st p:Int) (k:Nat):Int×Int:=((jar b).take k).foldl (fun s q=>(min s.1 (bdR b bt st p q).1,max s.2 (bdR b bt st p q).2)) (959,0)
theorem jfl (h:k<(jar b).length):spR b bt st p (k+1)=(min (spR b bt st p k).1 (bdR b bt st p ((jar b).getD k default)).1,max (spR b bt st p k).2 (bdR b bt st p ((jar b).getD k default)).2):=by
 rw [spR,jaV _ k h,vJ];rfl
theorem jmU (ok:TbOk b):spR b bt st p (jar b).length=jmT b bt st p:=by
 have e:spR b bt st p (jar b).length=spB (fun x=>bdA (cdT b) x bt st p) ((jar b).map fun q=>boOf (jaa b).length q.1 q.2):=by
  rw [spR,GE,spB,List.foldl_map];rfl
 rw [e,jmT];refine spB_perm ?_
 have h:=(jcV b ok.wrong.1).map fun q=>boOf (jaa b).length q.1 q.2
 rw [vu] at h
 refine h.trans (List.Perm.of_eq ?_)
 have:(jbD (cdT b) b.wrong.toNat).map ((fun q:List Int×List Int=>boOf (jaa b).length q.1 q.2)∘fun x=>(jbH x,jcE x))=(jbD (cdT b) b.wrong.toNat).map id:=GP fun x hx=>boOf_self (by rw [jeb hx,jau])
 rw [this,List.map_id];rfl
theorem boatsR_mem (ok:TbOk b) {q:List Int×List Int} (h:q∈jar b):q.2.length=(jaa b).length∧q.1.length≤12:=by
 obtain ⟨x,hx,rfl⟩:=gR.1 ((jcV b ok.wrong.1).mem_iff.1 h)
 have hl:=jeb hx
 rw [jau] at hl
 refine ⟨by show (jcE x).length=_;rw [jcE,gN,hl],?_⟩
 show (jbH x).length≤12
 rw [jbH,gN];have h1:=GX (fun i=>(xA x i).isNone) (List.range x.length)
 rw [Vs] at h1
 have:=ja3 ok
 omega
theorem f147_c (m:Md Tryz.prog B) (h:Hp) (ra:RawTb B h b ps ns ks pw nw cw pb nb cb) (ok:TbOk b) {pw2 pm2:Option Addr} {cw2 cm2:Nat} (rW:RdS B h 1 (.slice pw2 wr.length cw2) wr.length (jav wr)) (rM:RdS B h 1 (.slice pm2 ms.length cm2) ms.length (jav ms)) (hml:ms.length=(jaa b).length) (hwl:wr.length≤12) (st p:Int) (bt:Bool):FnC m 147 #[tbV b ps ns ks pw nw cw pb nb cb,.agg [.slice pw2 wr.length cw2,.slice pm2 ms.length cm2].toArray,.int .i64 st,.int .i64 p,.bool bt] h fun v h'=>h'=h∧v= .tuple [.int .i64 (bdR b bt st p (wr,ms)).1,.int .i64 (bdR b bt st p (wr,ms)).2].toArray:=by
 have rd:=ra.rd ok
 have h12:=ja3 ok
 refine jae Tryz.func147 rfl rfl (l:=[tbV b ps ns ks pw nw cw pb nb cb,.agg [.slice pw2 wr.length cw2,.slice pm2 ms.length cm2].toArray,.int .i64 st,.int .i64 p,.bool bt,undef,undef,undef,undef,undef,undef,undef,undef,undef,undef,undef,undef,undef,undef,undef,undef,undef,undef,undef,undef,undef,undef,undef,undef,undef,undef,undef,undef,undef,undef,undef,undef,undef,undef,undef,undef,undef,undef,undef,undef,undef,undef,undef,undef,undef,undef,undef,undef,undef,undef,undef,undef,undef,undef,undef,undef,undef,undef,undef,undef,undef,undef,undef,undef,undef,undef,undef,undef,undef,undef,undef,undef,undef,undef,undef,undef,undef,undef,undef]) rfl ?_
 intro cf cs K hK
 refine Z2 ?_
 refine jaA rfl zq (fun q5=>jao (jad ?_));refine jaA rfl zq (fun q6=>jao (jad ?_));refine Z11 ?_;refine jax rfl zq zK (Post:=fun w new=>OwnS 37 3 w (jaa b).length (jaC (jaa b)) new) (fun H' hH=>f26_c _ H' (rd.keeps (sq hH))) ?_
 rintro w n14 o14;refine jaz (jad ?_);obtain ⟨p14,c14,rfl,hc14,r14⟩:=jas (B:=B) o14
 refine Z8 ?_
 refine jag (fun nn l h'=> ∃(k:Nat) (lo hi:Int),nn=(jaa b).length-k∧(k≤(jaa b).length)∧((lo,hi)=(bdK (cdT b) (boOf (jaa b).length wr ms) bt st p k))∧(∃U:Nat→Value,l=((tbV b ps ns ks pw nw cw pb nb cb)::(.agg [.slice pw2 wr.length cw2,.slice pm2 ms.length cm2].toArray)::(.int .i64 st)::(.int .i64 p)::(.bool bt)::(.pointer (some ⟨q5,0,none⟩))::(.pointer (some ⟨q6,0,none⟩))::vw5 U 7 ((.int .i64 lo)::(.int .i64 hi)::(.slice p14 (jaa b).length c14)::(.int .i64 (k:Int))::(U 16)::vw67 U 17 [])))∧h++[⟨true,q5,.cells (tbL b ps ns ks pw nw cw pb nb cb).toArray 25 (0,0)⟩,⟨true,q6,.cells [.slice pw2 wr.length cw2,.slice pm2 ms.length cm2].toArray 102 (0,0)⟩]++n14=h') _ ⟨0,0,959,rfl,by omega,rfl,exU rfl,rfl⟩ ?_;rintro nn l h' ⟨k,lo,hi,rfl,hk,hb,⟨U,rfl⟩,rfl⟩ hnext;refine Z6 ?_
 refine jam rfl zq (fun hc=>?_) (fun hc=>?_)
 ·refine Z7 ?_
  have hkn:k<(jaa b).length:=by omega
  obtain ⟨b14,o14_,hp14⟩:=r14.ptr zO
  have r14b:=r14
  rw [hp14] at r14b
  obtain ⟨c,hcx⟩: ∃c,c=(jaa b).getD k default:=⟨_,rfl⟩
  have hht:jcn b c=true:=hcx▸(jeF hkn).1
  have hh:=jcR.1 hht
  have hdx:dA (cdT b) k=jd2 b c:=by rw [jaB b hkn,hcx]
  refine rr13 ?_;refine Z2 ?_;refine jaL rfl zq hp14 zO zO ?_;refine Zs ?_;refine jaN (v:= .int .i64 c.st) rfl zq (by rw [hcx];exact r14b.fat k 2 zO zO rfl) ?_;refine Zs ?_;refine jaI rfl zq (fun hc=>?_) (fun hc=>?_)
  ·have hst:(jd2 b c).st≠st:=hc
   refine Z14 ?_
   exact m.weak jab (hnext _ _ _ zO ⟨k+1,lo,hi,rfl,by omega,by rw [jbh,←hb,hdx,bs_off hst]<;>rfl,exU rfl,rfl⟩)
  ·have hst:(jd2 b c).st=st:=by show c.st=st;omega
   refine Z4 ?_;refine jaf (Post:=fun v=>IsB _ v) rfl rfl zK (fun H' hH=>f35_c m H' _ (rW.keeps (sq hH)) zO) ?_
   rintro v (⟨hc,rfl⟩|⟨hc,rfl⟩)
   ·refine Zs ?_
    have hxn:xA (boOf (jaa b).length wr ms) k=none:=by rw [xA_boOf hkn,if_pos hc]
    refine Z9 ?_
    exact m.weak jab (hnext _ _ _ zO ⟨k+1,lo,hi,rfl,by omega,by rw [jbh,←hb,hdx,hxn,bs_none]<;>rfl,exU rfl,rfl⟩)
   ·refine Zs ?_
    have hxs:xA (boOf (jaa b).length wr ms) k=some (ms.getD k 0):=by rw [xA_boOf hkn,if_neg hc]
    obtain ⟨mb,mo,hmp⟩:=rM.ptr zO
    have rM2:=rM
    rw [hmp] at rM2
    refine Z5 ?_;refine jaq [Zp 1,Zp 2,Zp 3,Zp 7,Zp 9,Zr 0,Zr 4,Zr 8,Zp 10,Zr 11,Zk 5,Zp 6,Zp 12,Zp 13] zK zK (gE _) ?_;refine Z2 ?_;refine jaL rfl zq hp14 zO zO ?_;refine Z3 ?_;refine jb4 (vs:=[.bool ((jaa b).getD k default).butt,.int .i64 ((jaa b).getD k default).line,.int .i64 ((jaa b).getD k default).st]) rfl zq rfl (r14b.eat k zO zO) ?_
    rw [←hcx];refine Zs ?_;refine jaL rfl zq hmp zO zO ?_;refine jaN rfl zq (rM2.iat k zO zO) ?_;refine jaf (Post:=fun v=> ∃lx:Lp,v=lpV lx∧lx.ln=jbg b c) rfl zq zK (fun H' hH=>(f94_c m (sq hH) rd hh.1 hh.2.1).mono fun v h' ⟨e,lx,e1,e2,_⟩=>⟨e,lx,e1,e2⟩) ?_
    rintro v ⟨lx,rfl,hlx⟩;refine Zs ?_;refine jhK rfl zq ?_
    rw [hlx];refine Z8 ?_;refine jaL rfl zq hp14 zO zO ?_;refine Zs ?_;refine jaN (v:= .bool c.butt) rfl zq (by rw [hcx];exact r14b.fat k 0 zO zO rfl) ?_;refine Zs ?_
    refine jdS rfl zq zK (fun hbt=>?_) (fun hbt=>?_);replace hbt:(jd2 b c).butt=bt:=hbt
    refine Z2 ?_
    rotate_left
    replace hbt:(jd2 b c).butt≠bt:=hbt
    refine Z3 ?_
    all_goals
     refine Z5 ?_
    ·refine jam rfl zq (fun hc=>?_) (fun hc=>?_);have hlt:ms.getD k 0<p:=hc
     refine Z5 ?_;refine jhH rfl zq ?_;refine Z2 ?_
     rotate_left
     have hlt: ¬ms.getD k 0<p:=by omega
     refine Z3 ?_
     all_goals
      refine Z4 ?_
     ·refine jaJ rfl zq (fun hc=>?_) (fun hc=>?_);have hgt:p<ms.getD k 0:=hc
      refine Z5 ?_;refine jgt rfl zq ?_;refine Z2 ?_
      rotate_left
      have hgt: ¬p<ms.getD k 0:=by omega
      refine Z3 ?_
      all_goals
       refine Z6 ?_
      ·exact m.weak jab (hnext _ _ _ zO ⟨k+1,lo,hi,rfl,by omega,by rw [jbh,←hb,hdx,hxs,jhZ hst hbt,if_neg hlt,if_neg hgt]<;>rfl,exU rfl,rfl⟩)
      ·exact m.weak jab (hnext _ _ _ zO ⟨k+1,lo,min hi (jbg b c).lat,rfl,by omega,by rw [jbh,←hb,hdx,hxs,jhZ hst hbt,if_neg hlt,if_pos hgt]<;>rfl,exU rfl,rfl⟩)
     ·refine jaJ rfl zq (fun hc=>?_) (fun hc=>?_);have hgt:p<ms.getD k 0:=hc
      refine Z5 ?_;refine jgt rfl zq ?_;refine Z2 ?_
      rotate_left
      have hgt: ¬p<ms.getD k 0:=by omega
      refine Z3 ?_
      all_goals
       refine Z6 ?_
      ·exact m.weak jab (hnext _ _ _ zO ⟨k+1,max lo (jbg b c).lat,hi,rfl,by omega,by rw [jbh,←hb,hdx,hxs,jhZ hst hbt,if_pos hlt,if_neg hgt]<;>rfl,exU rfl,rfl⟩)
      ·exact m.weak jab (hnext _ _ _ zO ⟨k+1,max lo (jbg b c).lat,min hi (jbg b c).lat,rfl,by omega,by rw [jbh,←hb,hdx,hxs,jhZ hst hbt,if_pos hlt,if_pos hgt]<;>rfl,exU rfl,rfl⟩)
    ·refine jcB rfl zq (fun hc=>?_) (fun hc=>?_);have hle:(jd2 b c).lat≤p:=hc
     refine Z5 ?_;refine jhH rfl zq ?_;refine Z2 ?_
     rotate_left
     have hle: ¬(jd2 b c).lat≤p:=(by omega: ¬(jbg b c).lat≤p)
     refine Z3 ?_
     all_goals
      refine Z5 ?_
     ·refine jdH rfl zq (fun hc=>?_) (fun hc=>?_);have hge:p≤(jd2 b c).lat:=hc
      refine Z5 ?_;refine jgt rfl zq ?_;refine Z2 ?_
      rotate_left
      have hge: ¬p≤(jd2 b c).lat:=(by omega: ¬p≤(jbg b c).lat)
      refine Z3 ?_
      all_goals
       refine Z6 ?_
      ·exact m.weak jab (hnext _ _ _ zO ⟨k+1,lo,hi,rfl,by omega,by rw [jbh,←hb,hdx,hxs,jk7 hst hbt,if_neg hle,if_neg hge]<;>rfl,exU rfl,rfl⟩)
      ·exact m.weak jab (hnext _ _ _ zO ⟨k+1,lo,min hi (ms.getD k 0),rfl,by omega,by rw [jbh,←hb,hdx,hxs,jk7 hst hbt,if_neg hle,if_pos hge]<;>rfl,exU rfl,rfl⟩)
     ·refine jdH rfl zq (fun hc=>?_) (fun hc=>?_);have hge:p≤(jd2 b c).lat:=hc
      refine Z5 ?_;refine jgt rfl zq ?_;refine Z2 ?_
      rotate_left
      have hge: ¬p≤(jd2 b c).lat:=(by omega: ¬p≤(jbg b c).lat)
      refine Z3 ?_
      all_goals
       refine Z6 ?_
      ·exact m.weak jab (hnext _ _ _ zO ⟨k+1,max lo (ms.getD k 0),hi,rfl,by omega,by rw [jbh,←hb,hdx,hxs,jk7 hst hbt,if_pos hle,if_neg hge]<;>rfl,exU rfl,rfl⟩)
      ·exact m.weak jab (hnext _ _ _ zO ⟨k+1,max lo (ms.getD k 0),min hi (ms.getD k 0),rfl,by omega,by rw [jbh,←hb,hdx,hxs,jk7 hst hbt,if_pos hle,if_pos hge]<;>rfl,exU rfl,rfl⟩)
 ·refine Z4 ?_
  obtain rfl:k=(jaa b).length:=by omega
  refine Z7 ?_;refine jac (h) rfl Tryz.func147 rfl jab ?_;refine Zs ?_
  refine ⟨rfl,?_⟩
  have e:bdR b bt st p (wr,ms)=(lo,hi):=by rw [bdR,bdA,jau];exact hb.symm
  rw [e]
end
section
variable [LaidO B]
theorem f92_c (m:Md Tryz.prog B) (h:Hp) (ra:RawTb B h b ps ns ks pw nw cw pb nb cb) (st p:Int) (bt:Bool):FnC m 92 #[tbV b ps ns ks pw nw cw pb nb cb,.int .i64 st,.int .i64 p,.bool bt] h fun v h'=>h'=h∧v= .tuple [.agg [.int .i64 (jaZ b bt st p).1,.int .i64 (jaZ b bt st p).2].toArray,.int .i64 (jaH b (jfx b st p))].toArray:=by
 have hsl:=ra.s.elen zA
 have hsn:=ra.sn
 refine jae Tryz.func92 rfl rfl (l:=[tbV b ps ns ks pw nw cw pb nb cb,.int .i64 st,.int .i64 p,.bool bt,undef,undef,undef,undef,undef,undef,undef,undef,undef,undef,undef,undef,undef,undef,undef,undef,undef,undef,undef,undef,undef,undef,undef,undef,undef,undef,undef,undef,undef,undef,undef,undef,undef,undef,undef,undef,undef,undef,undef,undef,undef,undef,undef,undef,undef,undef,undef,undef,undef,undef,undef,undef,undef,undef,undef,undef,undef,undef,undef,undef,undef]) rfl ?_
 intro cf cs K hK
 refine Z2 ?_
 refine jaA rfl zq (fun q4=>jao (jad ?_));refine jay rfl zq (fun q8=>jao (jad ?_));refine Z10 ?_;refine D52 ?_
 rintro v (⟨hc,rfl⟩|⟨hc,rfl⟩);refine Zs ?_
 have hpp:0≤p∧p≤959:=hc
 have how:(0:Int)=if¬(0≤p∧p≤959) then 1 else 0:=by rw [if_neg (fun e=>e hpp)]
 refine Z4 ?_
 rotate_left
 refine Zs ?_
 have hpp: ¬(0≤p∧p≤959):=hc
 have how:(1:Int)=if¬(0≤p∧p≤959) then 1 else 0:=by rw [if_pos hpp]
 refine Z6 ?_
 all_goals
  refine Zs ?_;refine jaq [Zp 1,Zp 2,Zp 7,Zr 0,Zr 3,Zp 4,Zp 5,Zk 6,Zk 8,Zp 9,Zp 10,Zp 11,Zp 12,Zp 13] zK zK (gE _) ?_;refine Z7 ?_;refine D52 ?_
 ·rintro v (⟨hc,rfl⟩|⟨hc,rfl⟩);refine Zs ?_
  have hth:0≤st∧st≤(b.sts.length:Int)-1:=by rw [hsl];exact hc
  have hsx: ∀own:Int,own=(if¬(0≤p∧p≤959) then 1 else 0)→askedS b true own=jaH b (jfx b st p):=fun own e=>by rw [askedS_open,if_neg zA,jfx,if_neg (fun x=>x hth),e]
  rotate_left
  refine Zs ?_
  have hth: ¬(0≤st∧st≤(b.sts.length:Int)-1):=by rw [hsl];exact hc
  have hsx: ∀own:Int,own=(if¬(0≤p∧p≤959) then 1 else 0)→askedS b false own=jaH b (jfx b st p):=fun own _=>by rw [askedS_open,if_pos rfl,jfx,if_pos hth]
  all_goals
   refine jax rfl zq zK (Post:=fun v new=> ∃w,v= .tuple [w,.int .i64 (jaH b (jfx b st p))].toArray∧(jaH b (jfx b st p)=0→RdB B [] new w (jar b))) (fun H' hH=>(f130_c m H' (ra.keeps (sq hH)) _ _).mono fun v h' ⟨new,e1,w,e2,e3⟩=>by rw [hsx _ how] at e2 e3;exact ⟨new,e1,w,e2,e3⟩) ?_;rintro v nB ⟨w11,rfl,hB⟩;refine jaz (jad ?_);refine Z10 ?_
   refine jaI rfl zq (fun hc=>?_) (fun hc=>?_)
   ·refine Z4 ?_;refine D30 ?_;refine Zs ?_;refine jdP ?_;refine jac (h) rfl Tryz.func92 rfl jab ?_;refine Zs ?_
    first
     |exact ⟨rfl,by rw [hz0]⟩
     |(have hsp:jaZ b bt st p=(0,0):=by rw [jaZ,if_neg zO]
       exact ⟨rfl,by rw [hsp]⟩)
   ·refine Z4 ?_
    have hz0:jaH b (jfx b st p)=0:=by omega
    obtain ⟨pl,cl2,bs,rfl,hBB⟩:=hB hz0
    obtain ⟨rB,eB⟩:=hBB nB (GN _) (gE _)
    obtain ⟨hzb,_,_⟩:=jca hz0
    have ok:=jej hzb
    have hbl:=boatsR_len ok
    have hbl2:=jbr ok
    have hel:=eB.len
    refine Zs ?_;refine D30 ?_
    refine jay rfl zq (fun q13=>jao (jad ?_));refine D4 ?_;refine Z7 ?_
    refine jag (fun nn l h'=> ∃(k:Nat),nn=(jar b).length-k∧(k≤(jar b).length)∧(∃U:Nat→Value,l=((tbV b ps ns ks pw nw cw pb nb cb)::(.int .i64 st)::(.int .i64 p)::(.bool bt)::(.pointer (some ⟨q4,0,none⟩))::(U 5)::(U 6)::(U 7)::(.pointer (some ⟨q8,0,none⟩))::(U 9)::(U 10)::(.slice pl (jar b).length cl2)::(U 12)::(.pointer (some ⟨q13,0,none⟩))::(.int .i64 (k:Int))::vw50 U 15 []))∧h++[⟨true,q4,.cells (tbL b ps ns ks pw nw cw pb nb cb).toArray 25 (0,0)⟩,⟨true,q8,.cells [.int .i64 0,.int .i64 0].toArray 29 (0,0)⟩]++nB++[⟨true,q13,.cells [.int .i64 (spR b bt st p k).1,.int .i64 (spR b bt st p k).2].toArray 29 (0,0)⟩]=h') _ ⟨0,rfl,by omega,exU rfl,(by rfl)⟩ ?_;rintro nn l h' ⟨k,rfl,hk,⟨U,rfl⟩,rfl⟩ hnext;refine Z6 ?_
    refine jam rfl zq (fun hc=>?_) (fun hc=>?_)
    ·refine Z6 ?_
     have hkl:k<(jar b).length:=by omega
     obtain ⟨bb,bo,hpb⟩:=rB.ptr zO
     have rB2:=rB
     rw [hpb] at rB2
     obtain ⟨y,hy⟩: ∃y,y=bs.getD k default:=⟨_,rfl⟩
     have hym:y∈bs:=hy▸jaj zO
     have hyq:(jar b).getD k default=(y.wr,y.ms):=by
      rw [←eB.1,gC,gX,gD (show k<bs.length by omega),hy,gC,gD (show k<bs.length by omega)];rfl
     have hqm:=boatsR_mem ok (jaj (l:=jar b) hkl)
     rw [hyq] at hqm
     refine jaq [Zp 1,Zp 2,Zp 3,Zp 5,Zp 6,Zp 7,Zr 0,Zr 4,Zk 8,Zp 9,Zp 10,Zp 11,Zp 12,Zp 13] zK zK (gE _) ?_;refine Z2 ?_;refine jaL rfl zq hpb zO zO ?_;refine Z4 ?_;refine jb4 (vs:=bpL y) rfl zq rfl (hy▸rB2.eat k zO zO) ?_;refine jaf (Post:=fun v=>v= .tuple [.int .i64 (bdR b bt st p ((jar b).getD k default)).1,.int .i64 (bdR b bt st p ((jar b).getD k default)).2].toArray) rfl zq zK (fun H' hH=>by rw [hyq];exact E80) ?_;rintro v rfl;refine Z11 ?_;refine jgt rfl zq ?_;refine Z3 ?_;refine jhH rfl zq ?_;refine D30 ?_;refine D4 ?_;refine Z7 ?_
     rw [show min (spR b bt st p k).1 (bdR b bt st p ((jar b).getD k default)).1=(spR b bt st p (k+1)).1 by rw [jfl hkl],show max (spR b bt st p k).2 (bdR b bt st p ((jar b).getD k default)).2=(spR b bt st p (k+1)).2 by rw [jfl hkl]];exact E6
    ·refine Z4 ?_
     obtain rfl:k=(jar b).length:=by omega
     have hsp:spR b bt st p (jar b).length=jaZ b bt st p:=by rw [jmU ok,jaZ,if_pos hz0]
     rw [hsp];refine Z2 ?_;refine jdP ?_;refine jac (h) rfl Tryz.func92 rfl jab ?_;refine Zs ?_
     first
      |exact ⟨rfl,by rw [hz0]⟩
      |(have hsp:jaZ b bt st p=(0,0):=by rw [jaZ,if_neg zO]
        exact ⟨rfl,by rw [hsp]⟩)
 ·rintro v (⟨hc,rfl⟩|⟨hc,rfl⟩);refine Zs ?_
  have hth:0≤st∧st≤(b.sts.length:Int)-1:=by rw [hsl];exact hc
  have hsx: ∀own:Int,own=(if¬(0≤p∧p≤959) then 1 else 0)→askedS b true own=jaH b (jfx b st p):=fun own e=>by rw [askedS_open,if_neg zA,jfx,if_neg (fun x=>x hth),e]
  rotate_left
  refine Zs ?_
  have hth: ¬(0≤st∧st≤(b.sts.length:Int)-1):=by rw [hsl];exact hc
  have hsx: ∀own:Int,own=(if¬(0≤p∧p≤959) then 1 else 0)→askedS b false own=jaH b (jfx b st p):=fun own _=>by rw [askedS_open,if_pos rfl,jfx,if_pos hth]
  all_goals
   refine jax rfl zq zK (Post:=fun v new=> ∃w,v= .tuple [w,.int .i64 (jaH b (jfx b st p))].toArray∧(jaH b (jfx b st p)=0→RdB B [] new w (jar b))) (fun H' hH=>(f130_c m H' (ra.keeps (sq hH)) _ _).mono fun v h' ⟨new,e1,w,e2,e3⟩=>by rw [hsx _ how] at e2 e3;exact ⟨new,e1,w,e2,e3⟩) ?_;rintro v nB ⟨w11,rfl,hB⟩;refine jaz (jad ?_);refine Z10 ?_
  ·refine jaI rfl zq (fun hc=>?_) (fun hc=>?_)
   ·refine Z4 ?_;refine D30 ?_;refine Zs ?_;refine jdP ?_;refine jac (h) rfl Tryz.func92 rfl jab ?_;refine Zs ?_
    first
     |exact ⟨rfl,by rw [hz0]⟩
     |(have hsp:jaZ b bt st p=(0,0):=by rw [jaZ,if_neg zO]
       exact ⟨rfl,by rw [hsp]⟩)
   ·refine Z4 ?_
    have hz0:jaH b (jfx b st p)=0:=by omega
    obtain ⟨pl,cl2,bs,rfl,hBB⟩:=hB hz0
    obtain ⟨rB,eB⟩:=hBB nB (GN _) (gE _)
    obtain ⟨hzb,_,_⟩:=jca hz0
    have ok:=jej hzb
    have hbl:=boatsR_len ok
    have hbl2:=jbr ok
    have hel:=eB.len
    refine Zs ?_;refine D30 ?_
    refine jay rfl zq (fun q13=>jao (jad ?_));refine D4 ?_;refine Z7 ?_
    refine jag (fun nn l h'=> ∃(k:Nat),nn=(jar b).length-k∧(k≤(jar b).length)∧(∃U:Nat→Value,l=((tbV b ps ns ks pw nw cw pb nb cb)::(.int .i64 st)::(.int .i64 p)::(.bool bt)::(.pointer (some ⟨q4,0,none⟩))::(U 5)::(U 6)::(U 7)::(.pointer (some ⟨q8,0,none⟩))::(U 9)::(U 10)::(.slice pl (jar b).length cl2)::(U 12)::(.pointer (some ⟨q13,0,none⟩))::(.int .i64 (k:Int))::vw50 U 15 []))∧h++[⟨true,q4,.cells (tbL b ps ns ks pw nw cw pb nb cb).toArray 25 (0,0)⟩,⟨true,q8,.cells [.int .i64 0,.int .i64 0].toArray 29 (0,0)⟩]++nB++[⟨true,q13,.cells [.int .i64 (spR b bt st p k).1,.int .i64 (spR b bt st p k).2].toArray 29 (0,0)⟩]=h') _ ⟨0,rfl,by omega,exU rfl,(by rfl)⟩ ?_;rintro nn l h' ⟨k,rfl,hk,⟨U,rfl⟩,rfl⟩ hnext;refine Z6 ?_
    refine jam rfl zq (fun hc=>?_) (fun hc=>?_)
    ·refine Z6 ?_
     have hkl:k<(jar b).length:=by omega
     obtain ⟨bb,bo,hpb⟩:=rB.ptr zO
     have rB2:=rB
     rw [hpb] at rB2
     obtain ⟨y,hy⟩: ∃y,y=bs.getD k default:=⟨_,rfl⟩
     have hym:y∈bs:=hy▸jaj zO
     have hyq:(jar b).getD k default=(y.wr,y.ms):=by
      rw [←eB.1,gC,gX,gD (show k<bs.length by omega),hy,gC,gD (show k<bs.length by omega)];rfl
     have hqm:=boatsR_mem ok (jaj (l:=jar b) hkl)
     rw [hyq] at hqm
     refine jaq [Zp 1,Zp 2,Zp 3,Zp 5,Zp 6,Zp 7,Zr 0,Zr 4,Zk 8,Zp 9,Zp 10,Zp 11,Zp 12,Zp 13] zK zK (gE _) ?_;refine Z2 ?_;refine jaL rfl zq hpb zO zO ?_;refine Z4 ?_;refine jb4 (vs:=bpL y) rfl zq rfl (hy▸rB2.eat k zO zO) ?_;refine jaf (Post:=fun v=>v= .tuple [.int .i64 (bdR b bt st p ((jar b).getD k default)).1,.int .i64 (bdR b bt st p ((jar b).getD k default)).2].toArray) rfl zq zK (fun H' hH=>by rw [hyq];exact E80) ?_;rintro v rfl;refine Z11 ?_;refine jgt rfl zq ?_;refine Z3 ?_;refine jhH rfl zq ?_;refine D30 ?_;refine D4 ?_;refine Z7 ?_
     rw [show min (spR b bt st p k).1 (bdR b bt st p ((jar b).getD k default)).1=(spR b bt st p (k+1)).1 by rw [jfl hkl],show max (spR b bt st p k).2 (bdR b bt st p ((jar b).getD k default)).2=(spR b bt st p (k+1)).2 by rw [jfl hkl]];exact E6
    ·refine Z4 ?_
     obtain rfl:k=(jar b).length:=by omega
     have hsp:spR b bt st p (jar b).length=jaZ b bt st p:=by rw [jmU ok,jaZ,if_pos hz0]
     rw [hsp];refine Z2 ?_;refine jdP ?_;refine jac (h) rfl Tryz.func92 rfl jab ?_;refine Zs ?_
     first
      |exact ⟨rfl,by rw [hz0]⟩
      |(have hsp:jaZ b bt st p=(0,0):=by rw [jaZ,if_neg zO]
        exact ⟨rfl,by rw [hsp]⟩)
  ·refine jaI rfl zq (fun hc=>?_) (fun hc=>?_)
   ·refine Z4 ?_;refine D30 ?_;refine Zs ?_;refine jdP ?_;refine jac (h) rfl Tryz.func92 rfl jab ?_;refine Zs ?_
    have hsp:jaZ b bt st p=(0,0):=by rw [jaZ,if_neg zO]
    exact ⟨rfl,by rw [hsp]⟩
   ·refine Z4 ?_
    have hz0:jaH b (jfx b st p)=0:=by omega
    obtain ⟨pl,cl2,bs,rfl,hBB⟩:=hB hz0
    obtain ⟨rB,eB⟩:=hBB nB (GN _) (gE _)
    obtain ⟨hzb,_,_⟩:=jca hz0
    have ok:=jej hzb
    have hbl:=boatsR_len ok
    have hbl2:=jbr ok
    have hel:=eB.len
    refine Zs ?_;refine D30 ?_
    refine jay rfl zq (fun q13=>jao (jad ?_));refine D4 ?_;refine Z7 ?_
    refine jag (fun nn l h'=> ∃(k:Nat),nn=(jar b).length-k∧(k≤(jar b).length)∧(∃U:Nat→Value,l=((tbV b ps ns ks pw nw cw pb nb cb)::(.int .i64 st)::(.int .i64 p)::(.bool bt)::(.pointer (some ⟨q4,0,none⟩))::(U 5)::(U 6)::(U 7)::(.pointer (some ⟨q8,0,none⟩))::(U 9)::(U 10)::(.slice pl (jar b).length cl2)::(U 12)::(.pointer (some ⟨q13,0,none⟩))::(.int .i64 (k:Int))::vw50 U 15 []))∧h++[⟨true,q4,.cells (tbL b ps ns ks pw nw cw pb nb cb).toArray 25 (0,0)⟩,⟨true,q8,.cells [.int .i64 0,.int .i64 0].toArray 29 (0,0)⟩]++nB++[⟨true,q13,.cells [.int .i64 (spR b bt st p k).1,.int .i64 (spR b bt st p k).2].toArray 29 (0,0)⟩]=h') _ ⟨0,rfl,by omega,exU rfl,(by rfl)⟩ ?_;rintro nn l h' ⟨k,rfl,hk,⟨U,rfl⟩,rfl⟩ hnext;refine Z6 ?_
    refine jam rfl zq (fun hc=>?_) (fun hc=>?_)
    ·refine Z6 ?_
     have hkl:k<(jar b).length:=by omega
     obtain ⟨bb,bo,hpb⟩:=rB.ptr zO
     have rB2:=rB
     rw [hpb] at rB2
     obtain ⟨y,hy⟩: ∃y,y=bs.getD k default:=⟨_,rfl⟩
     have hym:y∈bs:=hy▸jaj zO
     have hyq:(jar b).getD k default=(y.wr,y.ms):=by
      rw [←eB.1,gC,gX,gD (show k<bs.length by omega),hy,gC,gD (show k<bs.length by omega)];rfl
     have hqm:=boatsR_mem ok (jaj (l:=jar b) hkl)
     rw [hyq] at hqm
     refine jaq [Zp 1,Zp 2,Zp 3,Zp 5,Zp 6,Zp 7,Zr 0,Zr 4,Zk 8,Zp 9,Zp 10,Zp 11,Zp 12,Zp 13] zK zK (gE _) ?_;refine Z2 ?_;refine jaL rfl zq hpb zO zO ?_;refine Z4 ?_;refine jb4 (vs:=bpL y) rfl zq rfl (hy▸rB2.eat k zO zO) ?_;refine jaf (Post:=fun v=>v= .tuple [.int .i64 (bdR b bt st p ((jar b).getD k default)).1,.int .i64 (bdR b bt st p ((jar b).getD k default)).2].toArray) rfl zq zK (fun H' hH=>by rw [hyq];exact E80) ?_;rintro v rfl;refine Z11 ?_;refine jgt rfl zq ?_;refine Z3 ?_;refine jhH rfl zq ?_;refine D30 ?_;refine D4 ?_;refine Z7 ?_
     rw [show min (spR b bt st p k).1 (bdR b bt st p ((jar b).getD k default)).1=(spR b bt st p (k+1)).1 by rw [jfl hkl],show max (spR b bt st p k).2 (bdR b bt st p ((jar b).getD k default)).2=(spR b bt st p (k+1)).2 by rw [jfl hkl]];exact E6
    ·refine Z4 ?_
     obtain rfl:k=(jar b).length:=by omega
     have hsp:spR b bt st p (jar b).length=jaZ b bt st p:=by rw [jmU ok,jaZ,if_pos hz0]
     rw [hsp];refine Z2 ?_;refine jdP ?_;refine jac (h) rfl Tryz.func92 rfl jab ?_;refine Zs ?_
     first
      |exact ⟨rfl,by rw [hz0]⟩
      |(have hsp:jaZ b bt st p=(0,0):=by rw [jaZ,if_neg zO]
        exact ⟨rfl,by rw [hsp]⟩)
theorem f22_c (m:Md Tryz.prog B) (h:Hp) (ra:RawTb B h b ps ns ks pw nw cw pb nb cb) (st p:Int):FnC m 22 #[tbV b ps ns ks pw nw cw pb nb cb,.int .i64 st,.int .i64 p] h fun v h'=>h'=h∧v= .tuple [.agg [.int .i64 (jaZ b false st p).1,.int .i64 (jaZ b false st p).2].toArray,.int .i64 (jaH b (jfx b st p))].toArray:=by
 refine jae Tryz.func22 rfl rfl (l:=(tbV b ps ns ks pw nw cw pb nb cb)::(.int .i64 st)::(.int .i64 p)::uu11) rfl ?_
 intro cf cs K hK
 refine Z2 ?_
 refine jaA rfl zq (fun q3=>jao (jad ?_));refine jay rfl zq (fun q6=>jao (jad ?_));refine Z7 ?_;refine jaf (Post:=fun v=>v= .tuple [.agg [.int .i64 (jaZ b false st p).1,.int .i64 (jaZ b false st p).2].toArray,.int .i64 (jaH b (jfx b st p))].toArray) rfl zq zK (fun H' hH=>f92_c m H' (ra.keeps (sq hH)) st p false) ?_
 rintro v rfl;refine Z3 ?_;refine jdP ?_;refine jac (h) rfl Tryz.func22 rfl jab ?_;refine Zs ?_
 exact ⟨rfl,rfl⟩
theorem f24_c (m:Md Tryz.prog B) (h:Hp) (ra:RawTb B h b ps ns ks pw nw cw pb nb cb) (st p:Int):FnC m 24 #[tbV b ps ns ks pw nw cw pb nb cb,.int .i64 st,.int .i64 p] h fun v h'=>h'=h∧v= .tuple [.agg [.int .i64 (jaZ b true st p).1,.int .i64 (jaZ b true st p).2].toArray,.int .i64 (jaH b (jfx b st p))].toArray:=by
 refine jae Tryz.func24 rfl rfl (l:=(tbV b ps ns ks pw nw cw pb nb cb)::(.int .i64 st)::(.int .i64 p)::uu11) rfl ?_
 intro cf cs K hK
 refine Z2 ?_
 refine jaA rfl zq (fun q3=>jao (jad ?_));refine jay rfl zq (fun q6=>jao (jad ?_));refine Z7 ?_;refine jaf (Post:=fun v=>v= .tuple [.agg [.int .i64 (jaZ b true st p).1,.int .i64 (jaZ b true st p).2].toArray,.int .i64 (jaH b (jfx b st p))].toArray) rfl zq zK (fun H' hH=>f92_c m H' (ra.keeps (sq hH)) st p true) ?_
 rintro v rfl;refine Z3 ?_;refine jdP ?_;refine jac (h) rfl Tryz.func24 rfl jab ?_;refine Zs ?_
 exact ⟨rfl,rfl⟩
end
section
variable [LaidO B]
theorem f3_t (h:Hp) (rds:RdS B h 1 (.slice ps ns ks) ns (jaC b.sts)) (hcs:ns≤ks) (rdw:RdLn B h (.slice pw nw cw) nw b.waters) (rdb:RdLn B h (.slice pb nb cb) nb b.butts) (st x1 x2:Int):(Md.starC Tryz.prog B).R (jmG Tryz.prog B fun v _=>v= .bool true) (G (Frame.enter Tryz.prog 3 #[tbV b ps ns ks pw nw cw pb nb cb,.int .i64 st,.int .i64 x1,.int .i64 x2] .normal) []) h:=by
 refine jll Tryz.func3 rfl rfl (l:=[tbV b ps ns ks pw nw cw pb nb cb,.int .i64 st,.int .i64 x1,.int .i64 x2,undef,undef,undef,undef,undef,undef,undef,undef,undef,undef,undef,undef,undef,undef,undef,undef,undef,undef,undef,undef,undef,undef,undef,undef,undef,undef,undef,undef,undef,undef,undef,undef,undef,undef,undef,undef,undef,undef,undef,undef,undef,undef,undef,undef,undef,undef,undef,undef,undef,undef,undef,undef,undef,undef,undef,undef,undef,undef,undef]) rfl ?_;refine Z2 ?_
 refine jaA rfl zq (fun q1=>jao (jad ?_));refine Z6 ?_;refine jaf (Post:=fun v=>IsB _ v) rfl zq zK (fun H' hH=>f19_c _ H' (rds.keeps (sq hH)) hcs (rdw.keeps (sq hH)) (rdb.keeps (sq hH))) ?_
 rintro v (⟨hc,rfl⟩|⟨hc,rfl⟩)
 ·refine Z5 ?_;refine jdp rfl zq zK (f20_c _) ?_
  rintro v h' ⟨nF,rfl,rfl⟩;refine Z4 ?_;refine jin rfl Tryz.func3 zK rfl ?_
  rfl
 ·refine Zs ?_
  have ra:=raw_of rds hcs rdw rdb hc
  refine Z8 ?_;refine jaf (Post:=fun v=>v= .tuple [.agg [.int .i64 (jaZ b false st x1).1,.int .i64 (jaZ b false st x1).2].toArray,.int .i64 (jaH b (jfx b st x1))].toArray) rfl zq zK (fun H' hH=>f21_c (Md.starC Tryz.prog B) H' (ra.keeps (sq hH)) st x1) ?_
  rintro v rfl;refine Z4 ?_
  refine jay rfl zq (fun qx=>jao (jad ?_));refine D4 ?_;refine Z7 ?_;refine jaf (Post:=fun v=>v= .tuple [.agg [.int .i64 (jaZ b false st x1).1,.int .i64 (jaZ b false st x1).2].toArray,.int .i64 (jaH b (jfx b st x1))].toArray) rfl zq zK (fun H' hH=>f22_c (Md.starC Tryz.prog B) H' (ra.keeps (sq hH)) st x1) ?_
  rintro v rfl;refine Z4 ?_
  refine jay rfl zq (fun qy=>jao (jad ?_));refine D4 ?_;refine Z7 ?_;refine k_neq2F rfl zq zK ⟨rfl,rfl⟩ ?_;refine Z3 ?_;refine jeH rfl rfl rfl ?_;refine Z9 ?_;refine jaf (Post:=fun v=>v= .tuple [.agg [.int .i64 (jaZ b true st x2).1,.int .i64 (jaZ b true st x2).2].toArray,.int .i64 (jaH b (jfx b st x2))].toArray) rfl zq zK (fun H' hH=>f23_c (Md.starC Tryz.prog B) H' (ra.keeps (sq hH)) st x2) ?_
  rintro v rfl;refine Z4 ?_;refine D4 ?_;refine Z7 ?_;refine jaf (Post:=fun v=>v= .tuple [.agg [.int .i64 (jaZ b true st x2).1,.int .i64 (jaZ b true st x2).2].toArray,.int .i64 (jaH b (jfx b st x2))].toArray) rfl zq zK (fun H' hH=>f24_c (Md.starC Tryz.prog B) H' (ra.keeps (sq hH)) st x2) ?_
  rintro v rfl;refine Z4 ?_;refine jdP ?_;refine D48 ?_;refine Z2 ?_;refine jng rfl zq zK ⟨rfl,rfl⟩ ?_;refine Z3 ?_;refine jeI rfl rfl rfl ?_;refine Z2 ?_;refine jdp rfl rfl zK (f20_c _) ?_
  rintro v h' ⟨nF,rfl,rfl⟩;refine Z5 ?_;refine jin rfl Tryz.func3 zK rfl ?_
  rfl
end
end Go.Proofs
