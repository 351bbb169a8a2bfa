/- A part of the proof of a law. Condition of each theorem: as its statement says. -/
import Derived.Test.YtkaokkedapnfhaaGreatDoorVB3
set_option linter.all false
variable {D E:List Go.Lo.Cd} {can must f d n q1:Nat} {C:List Go.Value→Go.Lo.Hp→Prop} {b:Go.Lo.Tb} {wr l p:List Int} {t ty:Go.TypeId} {B:Array Go.Obj} {ops:Array Go.Oper} {l' l0:List Go.Value} {h h' hr Shp Shp':Go.Lo.Hp} {r:Option Nat} {pos:String} {af:Array Go.Edge} {K K':Go.Goroutine→Go.Lo.Hp→Prop} {ps:Array Go.Tmp} {es:List (Int×Int)} {Hl':Nat→Go.Lo.Hp} {Sh Gone Gone' Live' Heir Heir' Say Say' Sh' old:Nat→Prop} {wa:Go.Addr} {cl:Bool} {w' W:Go.World} {gs:Array Go.Goroutine} {g':Go.Goroutine} {T:Go.Lo.TrU}
namespace Go.Lo
def jhp (b:Tb) (c:Ce):Cd:=⟨c.st,c.butt,(jcF b c).lat,jdw (jcG b c)⟩
def cdT (b:Tb):List Cd:=(jab b).map (jhp b)
theorem jat (b:Tb):(cdT b).length=(jab b).length:=by simp [cdT]
theorem jav (b:Tb) {i:Nat} (h:i<(jab b).length):dA (cdT b) i=jhp b ((jab b).getD i default):=by
  simp only [cdT,gC,ga,gD h]
  rfl
theorem jqo (b:Tb) (a c:Ce) (ma mc:Int):riC (jhp b a) (jhp b c) ma mc=jaS b a c ma mc:=rfl
def jdI (D:List Cd) (can must:Nat):Nat→Nat→Bo→List Bo
  |0,_,x=>[x]
  |f+1,w,x=>
    (if must.testBit x.length then [] else ((dA D x.length).can.filter fun v=>jaE (dA D x.length) v D x).flatMap fun v=>jdI D can must f w (x++[some v]))++
    (if w=0∨can.testBit x.length=false then [] else jdI D can must f (w-1) (x++[none]))
def jgh (D:List Cd) (can must f w:Nat) (x:Bo) (j:Nat):List Bo:=
  (((dA D x.length).can.take j).filter fun v=>jaE (dA D x.length) v D x).flatMap fun v=>jdI D can must f w (x++[some v])
theorem jpf (D:List Cd) (can must f w:Nat) (x:Bo):jgh D can must f w x 0=[]:=rfl
theorem jry {w:Nat} {x:Bo} {j:Nat} (hj:j<(dA D x.length).can.length) (h:jaE (dA D x.length) ((dA D x.length).can.getD j 0) D x=true):jgh D can must f w x (j+1)=jgh D can must f w x j++jdI D can must f w (x++[some ((dA D x.length).can.getD j 0)]):=by
  unfold jgh
  rw [Gg,gD hj,Gu,GG,Gd];have e:(dA D x.length).can[j]=(dA D x.length).can.getD j 0:=by rw [gC,gD hj];rfl
  rw [e,vD,if_pos h];simp
theorem genMJ_no {w:Nat} {x:Bo} {j:Nat} (hj:j<(dA D x.length).can.length) (h:jaE (dA D x.length) ((dA D x.length).can.getD j 0) D x=false):jgh D can must f w x (j+1)=jgh D can must f w x j:=by
  unfold jgh
  rw [Gg,gD hj,Gu,GG,Gd];have e:(dA D x.length).can[j]=(dA D x.length).can.getD j 0:=by rw [gC,gD hj];rfl
  rw [e,vD,if_neg (by rw [h];simp)];simp
theorem jjU {w:Nat} {x:Bo} {j:Nat} (hj:(dA D x.length).can.length≤j):jgh D can must f w x j=((dA D x.length).can.filter fun v=>jaE (dA D x.length) v D x).flatMap fun v=>jdI D can must f w (x++[some v]):=by
  rw [jgh,gh hj]
theorem genMJ_le {w:Nat} {x:Bo} {j:Nat} (hm:must.testBit x.length=false):(jgh D can must f w x j).length≤(jdI D can must (f+1) w x).length:=by
  have e: ∀l:List Int,((l.filter fun v=>jaE (dA D x.length) v D x).flatMap fun v=>jdI D can must f w (x++[some v]))=(((l.take j).filter fun v=>jaE (dA D x.length) v D x).flatMap fun v=>jdI D can must f w (x++[some v]))++(((l.drop j).filter fun v=>jaE (dA D x.length) v D x).flatMap fun v=>jdI D can must f w (x++[some v])):=by
    intro l
    rw [←Gd,←GG,vA]
  rw [jdI,if_neg (by rw [hm];simp),e (dA D x.length).can,jgh];simp only [gJ]
  omega
theorem jiI {w:Nat} {x:Bo} (hm:must.testBit x.length=true):jdI D can must (f+1) w x=if w=0∨can.testBit x.length=false then [] else jdI D can must f (w-1) (x++[none]):=by
  rw [jdI,if_pos hm,GI]
theorem jrx {w:Nat} {x:Bo} (hm:must.testBit x.length=false) {j:Nat} (hj:(dA D x.length).can.length≤j):jdI D can must (f+1) w x=jgh D can must f w x j++if w=0∨can.testBit x.length=false then [] else jdI D can must f (w-1) (x++[none]):=by
  rw [jdI,if_neg (by rw [hm];simp),jjU hj]
theorem jen {d:Cd} {v:Int} {C:List Cd} {y:Bo}: ∀{E:List Cd} {x:Bo},x.length=E.length→ja8 E x (d::C) (some v::y)=(jaE d v E x&&ja8 E x C y)
  |[],[],_=>by simp [ja8,jaE]
  |[],_::_,h=>by simp at h
  |_::_,[],h=>by simp at h
  |e::E,some u::x,h=>by
    simp only [ja8,jaE]
    rw [jen (by simpa using h),je1 (a:=e)];cases riC d e v u<;>cases jaE e u C y<;>cases jaE d v E x<;>simp
  |e::E,none::x,h=>by
    simp only [ja8,jaE]
    exact jen (by simpa using h)
theorem jfF {d:Cd} {C:List Cd} {y:Bo}: ∀{E:List Cd} {x:Bo},x.length=E.length→ja8 E x (d::C) (none::y)=ja8 E x C y
  |[],[],_=>by simp [ja8]
  |[],_::_,h=>by simp at h
  |_::_,[],h=>by simp at h
  |e::E,some u::x,h=>by
    simp only [ja8,jaE]
    rw [jfF (by simpa using h)]
  |e::E,none::x,h=>by
    simp only [ja8]
    exact jfF (by simpa using h)
theorem jem {d:Cd} {o:Option Int} {C:List Cd} {y:Bo}: ∀{E:List Cd} {x:Bo},x.length=E.length→ja8 (E++[d]) (x++[o]) C y=(ja8 E x C y&&ja8 [d] [o] C y)
  |[],[],_=>by simp [ja8]
  |[],_::_,h=>by simp at h
  |_::_,[],h=>by simp at h
  |e::E,some u::x,h=>by
    simp only [gt,ja8]
    rw [jem (by simpa using h),Bool.and_assoc]
  |e::E,none::x,h=>by
    simp only [gt,ja8]
    exact jem (by simpa using h)
theorem jdp {d:Cd} {v:Int} {C:List Cd}: ∀{E:List Cd} {x:Bo},x.length=E.length→jaE d v (E++C) x=jaE d v E x
  |[],[],_=>by cases C<;>simp [jaE]
  |[],_::_,h=>by simp at h
  |_::_,[],h=>by simp at h
  |e::E,some u::x,h=>by simp only [gt,jaE];rw [jdp (by simpa using h)]
  |e::E,none::x,h=>by simp only [gt,jaE];exact jdp (by simpa using h)
theorem jbD {α β:Type} (p:α→Bool) (f:α→List β): ∀l:List α,(l.filter p).flatMap f=l.flatMap fun a=>if p a=true then f a else []
  |[]=>rfl
  |a::l=>by
    rw [vW,←jbD p f l,vD];by_cases h:p a=true
    · rw [if_pos h,if_pos h,vW]
    · rw [if_neg h,if_neg h,GI]
theorem jmh {d:Cd} {v:Int} {C:List Cd} {x:Bo} (hx:x.length=E.length) (l:List Bo):
    (((l.filter (jaE d v C)).map (some v:: ·)).filter (ja8 E x (d::C))).map (x++ ·)=if jaE d v E x=true then (l.filter (ja8 (E++[d]) (x++[some v]) C)).map ((x++[some v])++ ·) else []:=by
  rw [VC,Vh,List.filter_filter];by_cases h:jaE d v E x=true
  · rw [if_pos h];have e1:List.filter (fun y=>((ja8 E x (d::C))∘(some v:: ·)) y&&jaE d v C y) l=l.filter (ja8 (E++[d]) (x++[some v]) C):=by
      refine VJ fun y _=>?_
      simp only [Function.comp]
      rw [jen hx,jem hx,h,vm];simp [ja8]
    rw [e1];exact GY fun y _=>by simp
  · rw [if_neg h,xL,VF];intro y _
    simp only [Function.comp]
    rw [jen hx];simp [h]
theorem jj1 {d:Cd} {C:List Cd} {x:Bo} (hx:x.length=E.length) (l:List Bo):
    ((l.map (none:: ·)).filter (ja8 E x (d::C))).map (x++ ·)=(l.filter (ja8 (E++[d]) (x++[none]) C)).map ((x++[none])++ ·):=by
  rw [VC,Vh];have e1:List.filter ((ja8 E x (d::C))∘(none:: ·)) l=l.filter (ja8 (E++[d]) (x++[none]) C):=by
    refine VJ fun y _=>?_
    simp only [Function.comp]
    rw [jfF hx,jem hx];simp [ja8]
  rw [e1];exact GY fun y _=>by simp
theorem jgW {can:Nat}: ∀{C E:List Cd} {x:Bo} {w:Nat},x.length=E.length→(∀i,i<(E++C).length→can.testBit i=true)→jdI (E++C) can 0 C.length w x=((jbu C w).filter (ja8 E x C)).map (x++ ·)
  |[],E,x,w,hx,_=>by
    have:ja8 E x [] []=true:=by
      rw [je6 rfl hx];intro i j v u _ hj;simp at hj
    simp [jdI,je7,this]
  |d::C,E,x,w,hx,hc=>by
    have hE:E++d::C=(E++[d])++C:=by simp
    have hd:dA (E++d::C) x.length=d:=by
      rw [hx,dA,gC,gm (gL _)];simp
    have hcan:can.testBit x.length=true:=hc _ (by rw [hx];simp)
    rw [gY,jdI,if_neg zS,hd,jci,GG,GA,VW,Vu,jbD];congr 1
    · congr 1
      funext v
      rw [jdp hx,jmh hx,hE,jgW (by simp [hx]) (by rw [←hE];exact hc)]
    · cases w with
      |zero=>simp [jgL]
      |succ w=>
        rw [if_neg (by simp [hcan]),jgL,jj1 hx,hE,jgW (by simp [hx]) (by rw [←hE];exact hc)];rfl
theorem genM_all {w:Nat} (h: ∀i,i<D.length→can.testBit i=true):jdI D can 0 D.length w []=jbu D w:=by
  have:=jgW (C:=D) (E:=[]) (x:=[]) (w:=w) rfl h
  rw [GI] at this
  rw [this];have e:(jbu D w).filter (ja8 [] [] D)=jbu D w:=xJ.2 fun y _=>by simp [ja8]
  rw [e];exact (GY fun y _=>by simp).trans (List.map_id _)
def jdl (s n:Nat):List Bool:=(List.range n).map fun i=>s.testBit i
theorem jbT (s n:Nat):(jdl s n).length=n:=by simp [jdl]
theorem jkU {s:Nat}: ∀{C E:List Cd} {x:Bo} {w:Nat},x.length=E.length→C.length≤w→jdI (E++C) s s C.length w x=((jfg C ((List.range' E.length C.length).map fun i=>s.testBit i)).filter (ja8 E x C)).map (x++ ·)
  |[],E,x,w,hx,_=>by
    have:ja8 E x [] []=true:=by
      rw [je6 rfl hx];intro i j v u _ hj;simp at hj
    simp [jdI,jfg,this]
  |d::C,E,x,w,hx,hw=>by
    have hE:E++d::C=(E++[d])++C:=by simp
    have hd:dA (E++d::C) x.length=d:=by
      rw [hx,dA,gC,gm (gL _)];simp
    rw [gY] at hw
    rw [gY,List.range'_succ,gu];cases ht:s.testBit x.length with
    |true=>
      rw [jiI ht,if_neg (by simp [ht];omega),←hx,ht,jfg,jj1 hx,hE,jkU (by simp [hx]) zO];simp [hx]
    |false=>
      rw [jdI,if_neg (by simp [ht]),if_pos (.inr ht),gd,hd,←hx,ht,jfg,VW,Vu,jbD];congr 1
      funext v
      rw [jdp hx,jmh hx,hE,jkU (by simp [hx]) zO];simp [hx]
theorem jl2 {s w:Nat} (h:D.length≤w):jdI D s s D.length w []=jfg D (jdl s D.length):=by
  have:=jkU (C:=D) (E:=[]) (x:=[]) (s:=s) (w:=w) rfl h
  rw [GI] at this
  rw [this];have e: ∀p,(jfg D p).filter (ja8 [] [] D)=jfg D p:=fun p=>xJ.2 fun y _=>by simp [ja8]
  rw [e,jdl,List.range_eq_range'];exact (GY fun y _=>by simp).trans (List.map_id _)
def jcA:Bo→Nat
  |[]=>0
  |o::x=>(if o.isNone then 1 else 0)+2*jcA x
def jcH (x:Bo):List Int:=x.map fun o:Option Int=>o.getD 0
def jnQ (x:Bo):List Int:=(jcH x++List.replicate 12 0).take 12
theorem jbI (x:Bo):(jnQ x).length=12:=by simp [jnQ]
theorem jfy {x:Bo} {i:Nat} (hi:i<12):(jnQ x).getD i 0=(xA x i).getD 0:=by
  rw [jnQ,gC,GZ,if_pos hi,jcH,Gv,gU];rw [xA,gC];split
  · rename_i h
    rw [ga,gD h];rfl
  · rename_i h
    rw [gl (l:=x) zO,Vn];split<;>rfl
theorem jdB: ∀{x:Bo} {i:Nat},(jcA x).testBit i=decide (i<x.length∧xA x i=none)
  |[],i=>by simp [jcA]
  |o::x,0=>by
    cases o<;>simp [jcA,Nat.testBit_zero]<;>omega
  |o::x,i+1=>by
    rw [jcA,Nat.testBit_succ,show ((if o.isNone then 1 else 0)+2*jcA x)/2=jcA x by split<;>omega,jdB];simp
theorem joo: ∀{x:Bo},jcA x<2^x.length
  |[]=>by simp [jcA]
  |o::x=>by
    have:=joo (x:=x)
    rw [jcA,gY,Nat.pow_succ];split<;>omega
theorem jcO {x:Bo} (h:x.length≤12):jcA x<4096:=GW joo (by
  have:=GV (show 0<2 by omega) h
  simpa using this)
theorem jj8 {x:Bo} {v:Int}:jcA (x++[some v])=jcA x:=by
  apply xF
  intro i
  rw [jdB,jdB];congr 1
  rw [gJ,GX,xA,xA,gC,gC,Gv];by_cases h:i<x.length
  · simp [h];omega
  · rw [if_neg h];by_cases h2:i=x.length
    · subst h2;simp
    · simp [h];omega
theorem jpr {x:Bo}:jcA (x++[none])=jcA x|||2^x.length:=by
  apply xF
  intro i
  rw [xQ,jdB,jdB,xI];rw [gJ,GX,xA,xA,gC,gC,Gv];by_cases h:i<x.length
  · have:x.length≠i:=by omega
    simp [h,this];omega
  · rw [if_neg h];by_cases h2:i=x.length
    · subst h2;simp
    · have:x.length≠i:=by omega
      simp [h,this];omega
theorem jqD {x:Bo} (h:x.length<12):jnQ (x++[none])=jnQ x:=by
  refine vE (by simp [jbI]) fun i h1 h2=>?_
  rw [jbI] at h2
  have a:=jfy (x:=x++[none]) h2
  have b:=jfy (x:=x) h2
  rw [gC,gD h1] at a
  rw [gC,gD (by rw [jbI];exact h2)] at b
  simp only [GB] at a b
  rw [a,b,xA,xA,gC,gC,Gv];split
  · rfl
  · rename_i hh
    rw [gl (l:=x) zO];by_cases e:i=x.length
    · subst e;simp
    · rw [gl zN]
theorem jqC {x:Bo} {v:Int} (h:x.length<12):jnQ (x++[some v])=(jnQ x).set x.length v:=by
  refine vE (by simp [jbI]) fun i h1 h2=>?_
  rw [List.length_set,jbI] at h2
  have a:=jfy (x:=x++[some v]) h2
  have b:=jfy (x:=x) h2
  rw [gC,gD h1] at a
  rw [gC,gD (by rw [jbI];exact h2)] at b
  simp only [GB] at a b
  rw [a,List.getElem_set,b,xA,xA,gC,gC,Gv];split
  · rename_i hh
    rw [if_neg zO]
  · rename_i hh
    by_cases e:x.length=i
    · subst e;simp
    · rw [if_neg e,gl zN,gl zO]
def boL (x:Bo):List Value:= .int .u64 (jcA x:Int)::(jnQ x).map (Value.int .i64)
theorem jaL (x:Bo):(boL x).length=13:=by simp [boL,jbI]
theorem jr2 (x:Bo): ∀u∈boL x,u.oneCell'=true:=by
  intro u hu
  rcases gO.1 hu with rfl|hu
  · rfl
  · obtain ⟨n,_,rfl⟩:=gP.1 hu;rfl
abbrev boV (x:Bo):Value:= .agg (boL x).toArray
instance:Enc Bo 13 where
  enc:=boL
  len:=jaL
  one:=jr2
theorem jju (x:Bo) (o:Option Int):jcH (x++[o])=jcH x++[o.getD 0]:=by simp [jcH]
theorem jeA (x:Bo):(jcH x).length=x.length:=by simp [jcH]
theorem jnm {x:Bo} {i:Nat} {v:Int} (h:xA x i=some v):(jcH x).getD i 0=v:=by
  rw [jcH,gC,ga];rw [xA,gC] at h
  cases hx:x[i]? with
  |none=>rw [hx] at h;cases h
  |some o=>rw [hx] at h;simp only [GB] at h;subst h;rfl
def jbF (x:Bo):List Int:=((List.range x.length).filter fun i=>(xA x i).isNone).map fun (i:Nat)=>(i:Int)
theorem jcn {x:Bo} {z:Int}:z∈jbF x↔ ∃i:Nat,z=i∧i<x.length∧xA x i=none:=by
  simp only [jbF,gP,gV,gT,Gh]
  constructor
  · rintro ⟨i,⟨h1,h2⟩,rfl⟩;exact ⟨i,rfl,h1,h2⟩
  · rintro ⟨i,rfl,h1,h2⟩;exact ⟨i,⟨h1,h2⟩,rfl⟩
def PreW (s:Nat) (x:Bo):Prop:= ∀i,i<x.length→(s.testBit i=true↔xA x i=none)
theorem PreW.nil (s:Nat):PreW s []:=fun i h=>by simp at h
theorem PreW.snoc {s:Nat} {x:Bo} {o:Option Int} (h:PreW s x) (ho:s.testBit x.length=true↔o=none):PreW s (x++[o]):=fun i hi=>by
  rw [gJ,GX] at hi
  rw [xA,gC,Gv];by_cases e:i<x.length
  · rw [if_pos e,h i e,xA,gC]
  · rw [if_neg e];obtain rfl:i=x.length:=by omega
    simpa using ho
def IsW (wr:List Int) (s n:Nat):Prop:= ∀i:Nat,i<n→((i:Int)∈wr↔s.testBit i=true)
theorem jqU {s:Nat} (hw:IsW wr s (jab b).length) {x:Bo} (hx:PreW s x) (hl:x.length<(jab b).length) (hn:s.testBit x.length=false) (v:Int):
    jf3 b (jab b) wr (jcH x) v=jaE (dA (cdT b) x.length) v (cdT b) x:=by
  have hd:cdT b=(cdT b).take x.length++(cdT b).drop x.length:=(vA _ _).symm
  have hlt:x.length=((cdT b).take x.length).length:=by rw [GH,jat];omega
  have h2:=jdp (d:=dA (cdT b) x.length) (v:=v) (C:=(cdT b).drop x.length) hlt
  rw [←hd] at h2
  rw [h2,xE,jcP hlt];simp only [jf3,gX,gT,GR,decide_eq_true_eq,jeA]
  constructor
  · intro h j u hj
    have hjl:j<x.length:=gw fun e=>by
      rw [xA,gC,gl zO] at hj;cases hj
    have hdj:dA ((cdT b).take x.length) j=jhp b ((jab b).getD j default):=by
      rw [←jav b zO,dA,dA,gC,gC,GZ,if_pos hjl]
    rw [hdj,jav b hl,je1,jqo];rcases h j hjl with (h3|h3)|h3
    · rw [hw _ hl,hn] at h3;cases h3
    · rw [hw _ zO,hx j hjl,hj] at h3;cases h3
    · rwa [jnm hj] at h3
  · intro h j hjl
    cases hj:xA x j with
    |none=>exact .inl (.inr ((hw _ zO).2 ((hx j hjl).2 hj)))
    |some u=>
      right
      have h3:=h j u hj
      have hdj:dA ((cdT b).take x.length) j=jhp b ((jab b).getD j default):=by
        rw [←jav b zO,dA,dA,gC,gC,GZ,if_pos hjl]
      rw [hdj,jav b hl,je1,jqo] at h3
      rwa [jnm hj]
theorem jkR {b:Tb} {wr:List Int} {s:Nat} (hw:IsW wr s (jab b).length): ∀{f w:Nat} {x:Bo},PreW s x→x.length+f=(jab b).length→f≤w→
    jgV b (jab b) wr f (jcH x)=(jdI (cdT b) s s f w x).map jcH
  |0,w,x,_,_,_=>rfl
  |f+1,w,x,hx,hl,hfw=>by
    rw [jgV,jeA];cases ht:s.testBit x.length with
    |true=>
      have hm:((x.length:Nat):Int)∈wr:=(hw _ zO).2 ht
      rw [jev,if_pos hm,jiI ht,if_neg (by simp [ht];omega),←jkR hw (hx.snoc (by simp [ht])) zN zO,jju];have:jf3 b (jab b) wr (jcH x) 0=true:=by
        simp only [jf3,gX,gT,GR,decide_eq_true_eq,jeA]
        exact fun j _=> .inl (.inl hm)
      simp [this]
    |false=>
      have hm: ¬((x.length:Nat):Int)∈wr:=fun e=>by rw [hw _ zO,ht] at e;cases e
      rw [jev,if_neg hm,jdI,if_neg (by simp [ht]),if_pos (.inr ht),gd,Vu,jav b zO,jbD,jbD];show (jdw _).flatMap _=(jdw _).flatMap _
      congr 1
      funext v
      rw [jqU hw hx zO ht,jav b zO];split
      · rw [←jkR hw (hx.snoc (by simp [ht])) zN zO,jju];rfl
      · rfl
theorem jhS {s:Nat} (hw:IsW wr s (jab b).length):jcU b wr=(jfg (cdT b) (jdl s (jab b).length)).map jcH:=by
  have:=jkR hw (PreW.nil s) (f:=(jab b).length) (w:=(jab b).length) zS (gL _)
  rw [jcU,show ([]:List Int)=jcH [] from rfl,this];have h2:=jl2 (D:=cdT b) (s:=s) (w:=(jab b).length) (by rw [jat];exact gL _)
  rw [jat] at h2
  rw [h2]
def jar (most:Nat):Nat→List (List Int)
  |0=>[[]]
  |n+1=>jar most n++((jar most n).filter fun l=>decide (l.length<most)).map (· ++[(n:Int)])
theorem jb9 {most:Nat}: ∀{n:Nat} {l:List Int},l∈jar most n→l.length≤most∧l.Pairwise (· < ·)∧ ∀z∈l,0≤z∧z<n
  |0,l,h=>by simp [jar] at h;subst h;simp
  |n+1,l,h=>by
    rw [jar,gQ] at h
    rcases h with h|h
    · obtain ⟨h1,h2,h3⟩:=jb9 h
      exact ⟨h1,h2,fun z hz=>⟨(h3 z hz).1,by have:=(h3 z hz).2;omega⟩⟩
    · simp only [gP,gV,decide_eq_true_eq] at h
      obtain ⟨k,⟨hk,hkl⟩,rfl⟩:=h
      obtain ⟨h1,h2,h3⟩:=jb9 hk
      refine ⟨by simp;omega,?_,fun z hz=>?_⟩
      · rw [gq];exact ⟨h2,by simp,fun z hz y hy=>by simp at hy;subst hy;exact (h3 z hz).2⟩
      · rcases gQ.1 hz with hz|hz
        · have:=h3 z hz;omega
        · simp at hz;subst hz;omega
theorem jfR {most:Nat}: ∀{n:Nat} {l:List Int},l.length≤most→l.Pairwise (· < ·)→(∀z∈l,0≤z∧z<n)→l∈jar most n
  |0,l,_,_,h=>by
    cases l with
    |nil=>simp [jar]
    |cons a r=>have:=h a zS;omega
  |n+1,l,h1,h2,h3=>by
    rw [jar,gQ];by_cases hn:(n:Int)∈l
    · right
      obtain ⟨a,c,rfl⟩:=List.append_of_mem hn
      have hc:c=[]:=by
        cases c with
        |nil=>rfl
        |cons z r=>
          rw [gq] at h2
          have hz:=h3 z zS
          have:=(vB.1 h2.2.1).1 z zS
          omega
      subst hc
      rw [gq] at h2
      simp only [gJ,GX] at h1
      refine gP.2 ⟨a,gV.2 ⟨jfR zO h2.1 fun z hz=>?_,by simp;omega⟩,rfl⟩
      have h4:=h2.2.2 z hz n zS
      have:=h3 z (by simp [hz])
      omega
    · left
      refine jfR h1 h2 fun z hz=>?_
      have:=h3 z hz
      have:z≠n:=fun e=>hn (e▸hz)
      omega
theorem jfr {most:Nat}: ∀n,(jar most n).Nodup
  |0=>by simp [jar]
  |n+1=>by
    rw [jar];unfold List.Nodup
    rw [gq];refine ⟨jfr n,?_,?_⟩
    · rw [Gy];exact ((jfr (most:=most) n).filter _).imp fun h e=>h (List.append_cancel_right e)
    · intro x hx y hy e
      subst e
      obtain ⟨k,_,rfl⟩:=gP.1 hy
      have:=(jb9 hx).2.2 n zS
      omega
def jbe (l:List Int):Nat:=l.foldl (fun s z=>s|||2^z.toNat) 0
theorem jqf (l:List Int) (hl: ∀z∈l,0≤z): ∀(s i:Nat),(l.foldl (fun s z=>s|||2^z.toNat) s).testBit i=(s.testBit i||decide ((i:Int)∈l)):=by
  induction l with
  |nil=>intro s i;simp
  |cons z r ih=>
    intro s i
    rw [VX,ih fun y hy=>hl y (by simp [hy]),xQ,xI];have:=hl z zS
    have e:decide (z.toNat=i)=decide ((i:Int)=z):=decide_eq_decide.2 zO
    rw [e];simp [Bool.or_assoc]
theorem jbn (hl: ∀z∈l,0≤z) (i:Nat):(jbe l).testBit i=decide ((i:Int)∈l):=by
  rw [jbe,jqf l hl,Nat.zero_testBit,VR]
theorem jib (hl: ∀z∈l,0≤z) (n:Nat):IsW l (jbe l) n:=fun i _=>by rw [jbn hl];simp
def jaR (b:Tb):List (List Int×List Int):=(jar b.wrong.toNat (jab b).length).flatMap fun wr=>(jcU b wr).map fun ms=>(wr,ms)
theorem joX {x:Bo} (hl: ∀z∈l,0≤z∧z<x.length) (hs:l.Pairwise (· < ·)) (hp:jcE x=jdl (jbe l) x.length):jbF x=l:=by
  have hmem: ∀z,z∈jbF x↔z∈l:=fun z=>by
    rw [jcn];have key: ∀i,i<x.length→(xA x i=none↔(i:Int)∈l):=fun i hi=>by
      have e:=congrArg (fun p:List Bool=>p[i]?) hp
      simp only [jcE,jdl,ga,Gp hi,gD hi,Gl,VI] at e
      rw [xA,gC,gD hi,GB];rw [jbn fun z hz=>(hl z hz).1] at e
      rw [←Gh,e,decide_eq_true_eq]
    constructor
    · rintro ⟨i,rfl,hi,h⟩;exact (key i hi).1 h
    · intro hz
      have:=hl z hz
      refine ⟨z.toNat,by omega,by omega,(key _ zO).2 ?_⟩
      rwa [show ((z.toNat:Nat):Int)=z by omega]
  have hsw:(jbF x).Pairwise (· < ·):=by
    rw [jbF,Gy];exact ((vf).filter _).imp fun h=>by omega
  exact Vi (fun a b _ _ h1 h2=>by omega) hsw hs ((VT (hsw.imp fun h=>by omega) (hs.imp fun h=>by omega)).2 hmem)
theorem patN_inj {s t:Nat} (h:jdl s n=jdl t n): ∀i,i<n→s.testBit i=t.testBit i:=fun i hi=>by
  have e:=congrArg (fun p:List Bool=>p[i]?) h
  simpa only [jdl,ga,Gp hi,Gl,VI] using e
theorem flatMap_congr' {α β:Type} {f g:α→List β}: ∀{l:List α},(∀a∈l,f a=g a)→l.flatMap f=l.flatMap g
  |[],_=>rfl
  |a::l,h=>by rw [vW,vW,h a zS,flatMap_congr' fun b hb=>h b (by simp [hb])]
theorem jdA (b:Tb) (hw:0≤b.wrong):(jaR b).Perm ((jbu (cdT b) b.wrong.toNat).map fun x=>(jbF x,jcH x)):=by
  have hK:((jar b.wrong.toNat (jab b).length).map fun l=>jdl (jbe l) (jab b).length).Nodup:=by
    unfold List.Nodup
    rw [Gy];refine (List.Pairwise.and_mem.1 (jfr (most:=b.wrong.toNat) (jab b).length)).imp ?_
    rintro l r ⟨hl,hr,hne⟩ e;obtain ⟨_,l2,l3⟩:=jb9 hl
    obtain ⟨_,r2,r3⟩:=jb9 hr
    refine hne (Vi (fun a b _ _ h1 h2=>by omega) l2 r2 ((VT (l2.imp fun h=>by omega) (r2.imp fun h=>by omega)).2 fun z=>?_))
    have hb:=patN_inj e
    constructor
    · intro hz
      have:=l3 z hz
      have h:=hb z.toNat zO
      rw [jbn fun z hz=>(l3 z hz).1,jbn fun z hz=>(r3 z hz).1,show ((z.toNat:Nat):Int)=z by omega,decide_eq_decide] at h
      exact h.1 hz
    · intro hz
      have:=r3 z hz
      have h:=hb z.toNat zO
      rw [jbn fun z hz=>(l3 z hz).1,jbn fun z hz=>(r3 z hz).1,show ((z.toNat:Nat):Int)=z by omega,decide_eq_decide] at h
      exact h.2 hz
  have hin: ∀x∈jbu (cdT b) b.wrong.toNat,jcE x∈(jar b.wrong.toNat (jab b).length).map fun l=>jdl (jbe l) (jab b).length:=fun x hx=>by
    have hlen:=jgM hx
    rw [jat] at hlen
    have hm:=jbq.1 hx
    have hww: ∀z∈jbF x,0≤z∧z<x.length:=fun z hz=>by
      obtain ⟨i,rfl,hi,_⟩:=jcn.1 hz;omega
    have hsw:(jbF x).Pairwise (· < ·):=by
      rw [jbF,Gy];exact ((vf).filter _).imp fun h=>by omega
    have hpat:jcE x=jdl (jbe (jbF x)) (jab b).length:=by
      refine vE (by simp [jcE,jdl,hlen]) fun i h1 h2=>?_
      have hi:i<x.length:=by simpa [jcE] using h1
      simp only [jcE,jdl,vw,List.getElem_range]
      rw [jbn fun z hz=>(hww z hz).1];rw [xE,decide_eq_true_eq,jcn,Gh];constructor
      · intro h
        exact ⟨i,rfl,hi,by rw [xA,gC,gD hi];exact h⟩
      · rintro ⟨j,hj,hjl,h⟩;obtain rfl:i=j:=by omega
        rw [xA,gC,gD hi] at h
        exact h
    refine gP.2 ⟨jbF x,jfR ?_ hsw fun z hz=>by have:=hww z hz;omega,hpat.symm⟩
    have:(jbF x).length=jgI x:=by
      rw [←jqR,hpat];have e:(jbF x).length=((List.range x.length).filter fun i=>(xA x i).isNone).length:=by simp [jbF]
      rw [e,←List.countP_eq_length_filter,List.count,jdl,Va,←hlen];refine VK fun i hi=>?_
      rw [gT] at hi
      simp only [Function.comp,beq_true]
      rw [jbn fun z hz=>(hww z hz).1,decide_eq_true_eq,jcn,Gh];constructor
      · intro h;exact ⟨i,rfl,hi,h⟩
      · rintro ⟨j,hj,_,h⟩;obtain rfl:i=j:=by omega
        exact h
    rw [this];exact hm.2
  have hp:=(jqx jcE hK hin).map fun x=>(jbF x,jcH x)
  refine List.Perm.trans (List.Perm.of_eq ?_) hp.symm
  rw [Vu,List.flatMap_map,jaR];refine flatMap_congr' fun l hl=>?_
  obtain ⟨l1,l2,l3⟩:=jb9 hl
  rw [jhS (jib (fun z hz=>(l3 z hz).1) _),Vh];have hcount:(jdl (jbe l) (jab b).length).count true≤b.wrong.toNat:=by
    have:(jdl (jbe l) (jab b).length).count true≤l.length:=by
      rw [jdl,List.count,Va,List.countP_eq_length_filter];have hsub:(((List.range (jab b).length).filter ((fun x=>x==true)∘fun i=>(jbe l).testBit i)).map fun (i:Nat)=>(i:Int)).length≤l.length:=by
        refine Ga ?_ fun z hz=>?_
        · unfold List.Nodup
          rw [Gy];exact ((List.nodup_range).filter _).imp fun h=>by omega
        · simp only [gP,gV,gT,Function.comp,beq_true] at hz
          obtain ⟨i,⟨_,h⟩,rfl⟩:=hz
          rw [jbn fun z hz=>(l3 z hz).1] at h
          exact of_decide_eq_true h
      simpa using hsub
    omega
  rw [jef (by rw [jbT,jat]) hcount];refine GY fun x hx=>?_
  rw [jhF (by rw [jbT,jat])] at hx
  have hlen:=jcl hx.1
  rw [jat] at hlen
  have:=joX (x:=x) (l:=l) (by rw [hlen];exact l3) l2 (by rw [hlen];exact hx.2)
  simp only [Function.comp,this]
structure LnOk (n:Nat) (l:Ln):Prop where
  lat:0≤l.lat∧l.lat≤959
  len:l.figs.length=n
  fig: ∀f∈l.figs,jbw f=true
structure LsOk (n:Nat) (ls:List Ln):Prop where
  two:ls.length≤2
  ok: ∀l∈ls,LnOk n l
  up:ls.Pairwise fun a b=>a.lat<b.lat
structure TbOk (b:Tb):Prop where
  wrong:0≤b.wrong∧b.wrong≤2
  n1:1≤b.sts.length
  n3:b.sts.length≤3
  names:jdu [] b.sts=0
  waters:LsOk b.sts.length b.waters
  butts:LsOk b.sts.length b.butts
  smu:jjd b.waters+jjd b.butts≤2
theorem jiv {n:Nat}: ∀{ls:List Ln} {p:Option Int},jb0 n p ls=0↔(∀l∈ls,LnOk n l)∧ls.Pairwise (fun a b=>a.lat<b.lat)∧ ∀l∈ls.head?,¬jhv p l.lat
  |[],p=>by simp [jb0]
  |l::r,p=>by
    rw [jb0];split
    · rename_i h
      refine ⟨fun e=>absurd e zA,fun ⟨h1,_⟩=>absurd (h1 l zS).lat h⟩
    · rename_i h1
      split
      · rename_i h
        exact ⟨fun e=>absurd e zA,fun ⟨_,_,h3⟩=>absurd h (h3 l zS)⟩
      · rename_i h2
        split
        · rename_i h
          exact ⟨fun e=>absurd e zA,fun ⟨h1,_⟩=>absurd (h1 l zS).len h⟩
        · rename_i h3
          split
          · rename_i h
            exact ⟨fun e=>absurd e zA,fun ⟨h1,_⟩=>absurd (h1 l zS).fig h⟩
          · rename_i h4
            rw [jiv];have l1:LnOk n l:=⟨Gq.1 h1,Gq.1 h3,Gq.1 h4⟩
            constructor
            · rintro ⟨a,c,d⟩;refine ⟨by simpa using ⟨l1,a⟩,?_,by simpa using h2⟩
              rw [vB];refine ⟨fun x hx=>?_,c⟩
              cases r with
              |nil=>simp at hx
              |cons y r=>
                have hy:l.lat<y.lat:=gw fun e=>d y zS ⟨_,rfl,by omega⟩
                rcases gO.1 hx with rfl|hx
                · exact hy
                · have:=(vB.1 c).1 x hx;omega
            · rintro ⟨a,c,_⟩;rw [vB] at c
              refine ⟨fun x hx=>a x (by simp [hx]),c.2,fun x hx=>?_⟩
              have hxm:x∈r:=List.mem_of_mem_head? hx
              rintro ⟨y,e,hle⟩;cases e
              have:=c.1 x hxm;omega
theorem jei {ls:List Ln}:jaD n ls=0↔LsOk n ls:=by
  rw [jaD];split
  · rename_i h
    exact ⟨fun e=>absurd e zA,fun h2=>by have:=h2.two;omega⟩
  · rename_i h
    rw [jiv];constructor
    · rintro ⟨a,c,_⟩;exact ⟨by omega,a,c⟩
    · rintro ⟨_,a,c⟩;exact ⟨a,c,fun x _=>by rintro ⟨y,e,_⟩;cases e⟩
theorem jbH:tbS b=0↔TbOk b:=by
  rw [tbS];split
  · rename_i h
    refine ⟨fun e=>absurd e h,fun k=>absurd ?_ h⟩
    rw [jbg k.wrong ⟨k.n1,k.n3⟩];exact k.names
  · rename_i h
    have h0:=Gq.1 h
    rw [jek] at h0
    split at h0
    · cases h0
    · rename_i h1
      split at h0
      · cases h0
      · rename_i h2
        have h2:=Gq.1 h2
        rw [jiZ];split
        · rename_i h3
          exact ⟨fun e=>absurd e h3,fun k=>absurd (jei.2 k.waters) h3⟩
        · rename_i h3
          split
          · rename_i h4
            exact ⟨fun e=>absurd e h4,fun k=>absurd (jei.2 k.butts) h4⟩
          · rename_i h4
            split
            · rename_i h5
              exact ⟨fun e=>absurd e zA,fun k=>by have:=k.smu;omega⟩
            · rename_i h5
              exact ⟨fun _=>⟨Gq.1 h1,h2.1,h2.2,h0,jei.1 (Gq.1 h3),jei.1 (Gq.1 h4),by omega⟩,fun _=>rfl⟩
section
theorem TbOk.lines (k:TbOk b) (bt:Bool):LsOk b.sts.length (jbo b bt):=by cases bt;exact k.waters;exact k.butts
end
theorem jgU {c:Ce}:jeu b c=true↔0≤c.line∧c.line<(jbo b c.butt).length∧0≤c.st∧c.st<b.sts.length:=by
  simp only [jeu,gK,decide_eq_true_eq]
  omega
theorem jhJ {c:Ce} (h:jeu b c=true):jcF b c∈jbo b c.butt:=by
  have:=jgU.1 h
  exact jal zO
def keepC' (b:Tb) (c:Ce):Bool:=jeu b c&&decide (jcG b c≠jjn)
def rowP (n:Nat) (bt:Bool) (i:Nat):List Ce:=(List.range n).map fun (j:Nat)=>(⟨bt,(i:Int),(j:Int)⟩:Ce)
def jeI (n:Nat):List Ce:=rowP n false 0++rowP n false 1++(rowP n true 0++rowP n true 1)
theorem jeo (b:Tb):jab b=(jeI b.sts.length).filter (keepC' b):=by
  simp only [jab,jeI,GG];rfl
theorem jeT {c:Ce} (h:c∈jab b):jeu b c=true∧jcG b c≠jjn:=by
  rw [jeo,gV,keepC',gK,decide_eq_true_eq] at h
  exact h.2
theorem jjg (n:Nat):(jeI n).length=4*n:=by simp [jeI,rowP];omega
theorem jba (k:TbOk b):(jab b).length≤12:=by
  rw [jeo];have:=GU (keepC' b) (jeI b.sts.length)
  rw [jjg] at this
  have:=k.n3
  omega
theorem fig_mem (k:TbOk b) {c:Ce} (h:jeu b c=true):jcG b c∈(jcF b c).figs:=by
  have h1:=jgU.1 h
  have:=((k.lines c.butt).ok _ (jhJ h)).len
  rw [jcG,gC,gD zO];exact Gn _
def jpQ (ls:List Ln) (i k:Nat) (f:Str):List Ln:=ls.set i {ls.getD i default with figs:=(ls.getD i default).figs.set k f}
def jdR (b:Tb) (c:Ce) (f:Str):Tb:=if c.butt then {b with butts:=jpQ b.butts c.line.toNat c.st.toNat f} else {b with waters:=jpQ b.waters c.line.toNat c.st.toNat f}
@[simp] theorem jnx (b:Tb) (c:Ce) (f:Str):(jdR b c f).sts=b.sts:=by unfold jdR;split<;>rfl
@[simp] theorem setF_wrong (b:Tb) (c:Ce) (f:Str):(jdR b c f).wrong=b.wrong:=by unfold jdR;split<;>rfl
theorem jjE (b:Tb) (c:Ce) (f:Str) (bt:Bool):jbo (jdR b c f) bt=if bt=c.butt then jpQ (jbo b bt) c.line.toNat c.st.toNat f else jbo b bt:=by
  unfold jdR jbo
  cases bt<;>cases c.butt<;>simp
def negs (p:List Int):Nat:=p.countP fun x=>decide (x<0)
def jfY (p:List Int) (i m:Nat):List Nat:=if p.getD i 0<0 then List.range m else [(p.getD i 0).toNat]
theorem meaP_sub (h:n∈(List.range 960).filter (jfC p)):n∈(jfY p 0 10).flatMap fun a=>(jfY p 1 12).flatMap fun b=>(jfY p 2 8).map fun c=>96*a+8*b+c:=by
  rw [gV,gT,jfC] at h
  obtain ⟨hn,h⟩:=h
  simp only [gX,gT,GR,decide_eq_true_eq] at h
  have h0:=h 0 zO
  have h1:=h 1 zO
  have h2:=h 2 zO
  simp only [jdt,List.getD_cons_zero,List.getD_cons_succ] at h0 h1 h2
  simp only [vd,gP]
  refine ⟨n/96,?_,n/8%12,?_,n%8,?_,by omega⟩
  · unfold jfY;split
    · rw [gT];omega
    · rw [gr];omega
  · unfold jfY;split
    · rw [gT];omega
    · rw [gr];omega
  · unfold jfY;split
    · rw [gT];omega
    · rw [gr];omega
theorem jh0 {α:Type} (l:List α) (f:α→Nat) (c:Nat) (h: ∀x∈l,f x=c):(l.map f).sum=l.length*c:=by
  induction l with
  |nil=>simp
  |cons a l ih=>
    rw [gu,vL,ih fun x hx=>h x (by simp [hx]),h a zS,gY,Gc,xU,vv]
theorem meaP_len (p:List Int):(jkJ p).length≤(jfY p 0 10).length*((jfY p 1 12).length*(jfY p 2 8).length):=by
  rw [jkJ,gU];have h:=Ga (l₁:=(List.range 960).filter (jfC p)) ((List.nodup_range).filter _) fun n hn=>meaP_sub hn
  refine GJ h (Nat.le_of_eq ?_)
  rw [xN,jh0 _ _ ((jfY p 1 12).length*(jfY p 2 8).length)];intro a _
  rw [xN,jh0 _ _ ((jfY p 2 8).length)];intro b _
  rw [gU]
theorem jqA (p:List Int) (i m:Nat):(jfY p i m).length=if p.getD i 0<0 then m else 1:=by
  unfold jfY;split<;>simp
theorem meaP_12 (h:p.length=3):(jkJ p).length≤12^negs p:=by
  refine GJ (meaP_len p) ?_
  match p,h with
  |[a,b,c],_=>
    simp only [jqA,List.getD_cons_zero,List.getD_cons_succ,negs,VQ,List.countP_nil]
    by_cases ha:a<0<;>by_cases hb:b<0<;>by_cases hc:c<0<;>simp [ha,hb,hc]
def jet:List Cd→Nat
  |[]=>1
  |d::D=>max 1 d.can.length*jet D
def jh1:Nat→Nat→Nat
  |0,_=>1
  |n+1,0=>jh1 n 0
  |n+1,w+1=>jh1 n (w+1)+jh1 n w
theorem jg0: ∀(D:List Cd) (w:Nat),(jbu D w).length≤jh1 D.length w*jet D
  |[],w=>by cases w<;>simp [jbu,jh1,jet]
  |d::D,w=>by
    have h1:(d.can.flatMap fun v=>((jbu D w).filter (jaE d v D)).map (some v:: ·)).length≤d.can.length*(jh1 D.length w*jet D):=by
      rw [xN];have: ∀l:List Int,(l.map fun v=>(((jbu D w).filter (jaE d v D)).map (some v:: ·)).length).sum≤l.length*(jh1 D.length w*jet D):=by
        intro l
        induction l with
        |nil=>simp
        |cons v l ih=>
          rw [gu,vL,gY,Gc,xU,gU];have:=GU (jaE d v D) (jbu D w)
          have:=jg0 D w
          omega
      exact this d.can
    have hm:d.can.length*(jh1 D.length w*jet D)≤jh1 D.length w*(max 1 d.can.length*jet D):=by
      rw [Nat.mul_left_comm];exact xO _ (GP _ (Vv 1 d.can.length))
    rw [jci,gJ];cases w with
    |zero=>
      simp only [jgL,vk,gY,jh1,jet]
      omega
    |succ w=>
      simp only [jgL,gU,gY,jh1,jet]
      have h2:=jg0 D w
      have h3:jh1 D.length w*jet D≤jh1 D.length w*(max 1 d.can.length*jet D):=xO _ (by
        have:=GP (jet D) (xG 1 d.can.length)
        rwa [xU] at this)
      rw [Gc];omega
theorem jeE: ∀{n m w v:Nat},n≤m→w≤v→jh1 n w≤jh1 m v
  |0,m,w,v,_,_=>by
    have: ∀m v,1≤jh1 m v:=by
      intro m
      induction m with
      |zero=>intro v;exact gL 1
      |succ m ih=>intro v;cases v with
        |zero=>exact ih 0
        |succ v=>have:=ih (v+1);simp only [jh1];omega
    exact this m v
  |n+1,0,_,_,h,_=>by omega
  |n+1,m+1,0,0,h,_=>by simp only [jh1];exact jeE zO (gL 0)
  |n+1,m+1,0,v+1,h,_=>by
    have:=jeE (n:=n) (m:=m) (w:=0) (v:=v+1) zO zO
    simp only [jh1];omega
  |n+1,m+1,w+1,0,_,h=>by omega
  |n+1,m+1,w+1,v+1,h,h2=>by
    have:=jeE (n:=n) (m:=m) (w:=w+1) (v:=v+1) zO h2
    have:=jeE (n:=n) (m:=m) (w:=w) (v:=v) zO zO
    simp only [jh1];omega
theorem jfP {α:Type} (p:α→Bool) (f:α→Nat): ∀l:List α,((l.filter p).map f).sum≤(l.map f).sum
  |[]=>gL 0
  |a::l=>by
    have:=jfP p f l
    rw [vD];split<;>simp only [gu,vL]<;>omega
theorem jjc (l:List Nat): ∀n,l.length≤n→((List.range n).map fun i=>l.getD i 0).sum=l.sum:=by
  induction l with
  |nil=>intro n _;rw [jh0 _ _ 0 zS];simp
  |cons a l ih=>
    intro n hn
    obtain ⟨m,rfl⟩: ∃m,n=m+1:=⟨n-1,by simp at hn;omega⟩
    rw [List.range_succ_eq_map,gu,Vh,vL,vL,←ih m (by simpa using hn)];rfl
def jah (b:Tb):List Bo:=jbu (cdT b) b.wrong.toNat
def jaO (b:Tb) (own:Int):Int:=if tbS b≠0 then tbS b else if own≠0 then own else if jah b=[] then 9 else 0
theorem openS_b {own:Int} (h:tbS b≠0):jaO b own=tbS b:=by rw [jaO,if_pos h]
theorem openS_o {own:Int} (h:tbS b=0) (h2:own≠0):jaO b own=own:=by rw [jaO,if_neg (fun e=>e h),if_pos h2]
theorem openS_9 {own:Int} (h:tbS b=0) (h2:own=0) (h3:jah b=[]):jaO b own=9:=by rw [jaO,if_neg (fun e=>e h),if_neg (fun e=>e h2),if_pos h3]
theorem openS_0 {own:Int} (h:tbS b=0) (h2:own=0) (h3:jah b≠[]):jaO b own=0:=by rw [jaO,if_neg (fun e=>e h),if_neg (fun e=>e h2),if_neg h3]
theorem jdm {own:Int} (h:jaO b own=0):tbS b=0∧own=0∧jah b≠[]:=by
  unfold jaO at h
  split at h
  · contradiction
  · rename_i h1
    split at h
    · contradiction
    · rename_i h2
      split at h
      · cases h
      · rename_i h3
        exact ⟨gw h1,gw h2,h3⟩
def jnb (D:List Cd) (L:List Bo) (k:Nat):List Int:=(dA D k).can.filter fun v=>L.any fun x=>decide (xA x k=some v)
def jew (L:List Bo) (k:Nat):Nat:=L.countP fun x=>(xA x k).isNone
def jfo (n m:Nat):Int:=if n=0 then 2 else if n=m then 1 else 0
def jgr (bt:Bool) (st p:Int) (d:Cd) (o:Option Int) (s:Int×Int):Int×Int:=
  match o with
  |none=>s
  |some v=>
    if d.st≠st then s
    else if d.butt=bt then (if d.lat≤p then max s.1 v else s.1,if p≤d.lat then min s.2 v else s.2)
    else (if v<p then max s.1 d.lat else s.1,if p<v then min s.2 d.lat else s.2)
def bdK (D:List Cd) (x:Bo) (bt:Bool) (st p:Int) (k:Nat):Int×Int:=(List.range k).foldl (fun s i=>jgr bt st p (dA D i) (xA x i) s) (0,959)
theorem jcD (D:List Cd) (x:Bo) (bt:Bool) (st p:Int) (k:Nat):bdK D x bt st p (k+1)=jgr bt st p (dA D k) (xA x k) (bdK D x bt st p k):=by
  rw [bdK,GT,vU];rfl
def bdA (D:List Cd) (x:Bo) (bt:Bool) (st p:Int):Int×Int:=bdK D x bt st p D.length
def spB (f:Bo→Int×Int) (L:List Bo):Int×Int:=L.foldl (fun s x=>(min s.1 (f x).1,max s.2 (f x).2)) (959,0)
def jp4 (f:Bo→Int×Int) (L:List Bo) (k:Nat):Int×Int:=spB f (L.take k)
theorem jlo (f:Bo→Int×Int) (L:List Bo) (k:Nat) (h:k<L.length):jp4 f L (k+1)=(min (jp4 f L k).1 (f (L.getD k [])).1,max (jp4 f L k).2 (f (L.getD k [])).2):=by
  rw [jp4,Gg,gD h,Gu,spB,vU,gC,gD h];rfl
theorem spBK_all (f:Bo→Int×Int) (L:List Bo):jp4 f L L.length=spB f L:=by rw [jp4,GQ]
def jfG (L:List Bo) (i:Nat) (v:Int):Nat:=L.countP fun x=>decide (xA x i=some v)
def jdx (L:List Bo) (i:Nat):Nat:=L.foldl (fun s x=>match xA x i with|some v=>max s (jfG L i v)|none=>s) 0
def jg4 (L:List Bo) (s:Option Nat×Nat) (i:Nat):Option Nat×Nat:=if 0<jdx L i∧jdx L i<s.2 then (some i,jdx L i) else s
def jmp (L:List Bo) (k:Nat):Option Nat×Nat:=(List.range k).foldl (jg4 L) (none,L.length)
theorem jgs (L:List Bo) (k:Nat):jmp L (k+1)=jg4 L (jmp L k) k:=by rw [jmp,GT,vU];rfl
end Go.Lo
namespace Go.Lo
open Go.Proofs
open Go.Conc (G)
section
variable {P:Program} {m:Md P B} {l l' l'':List Value} {S h h' H:Hp} {i:Nat} {kd:Kd} {r:List (Nat×Kd)} {d:Option Tmp} {g:Option (Nat×Bool)}
theorem jge {u:TypeId} {x y:Operand} {a c:Bool} (ho:ops[i]?=some ⟨d,.binOp .eql t x y u,ty,pos,af,g⟩) (hw:Wt ops l g) (hb:P.underlying t=some .bool) [KHeap kd S h H] [ex:OpV l x (.bool a)] [ey:OpV l y (.bool c)] [pt:PutV l d (.bool true) l'] [pf:PutV l d (.bool false) l'']
    (yes:a=c→RegK m S ops r l' h C) (no:a≠c→RegK m S ops r l'' h C):RegK m S ops ((i,kd)::r) l h C:=by
  by_cases e:a=c
  · exact k_eqBT ho hw hb e (yes e)
  · exact RegK.rd (v:= .bool false) ho hw (by
      simp only [execOp,ex.eq,ey.eq]
      refine Reads.value (Reads.bind (a:=()) (Reads.pure _) ?_)
      show Reads P B (Op.equal t (.bool a) (.bool c)>>=fun b=>pure (Value.bool b)) H _
      have:=jec (P:=P) (B:=B) (H:=H) hb a c
      rw [show (a==c)=false from by simpa using e] at this
      exact Reads.bind this (Reads.pure _)) (no e)
end
end Go.Lo
namespace Go.Lo
open Go.Conc (G)
def jo4 (fn:FuncId) (l:List Value) (ps:Array Tmp) (a c:Code) (q1:Nat):Obj:= .loop {state:= .done,pending:=some .ret,fn,tmps:=l.toArray,params:=ps,assign:=a,body:=c,defers:=q1}
section
variable {P:Program} {m:Md P B} {b:Frame} {l:List Value} {ds:List Deferred} {k:List Item} {cs:List Frame}
theorem jly {f:FuncId} {q:Nat} {fn:FuncId} {a c:Code} {fr:Frame} {F E:Hp} (hh:h=F++⟨true,q,jfJ fn l0 ps a c q1 .busy⟩::E) (n:m.R K (G (fr.finish (.bool false)) cs) (F++⟨true,q,jo4 fn l0 ps a c q1⟩::E)):
    m.R K (Gr (bR f q) l ds (.code .ret::k) (fr::cs)) h:=by
  subst hh
  have key:Tri P B (Instr.endRound q (some .ret)) (F++⟨true,q,jfJ fn l0 ps a c q1 .busy⟩::E) fun j h'=>j= .bool false∧m.R K (G (fr.finish (.bool false)) cs) h':=by
    unfold Instr.endRound
    refine Tri.bind (Reads.tri (a:={state:= .busy,pending:=none,fn,tmps:=l0.toArray,params:=ps,assign:=a,body:=c,defers:=q1}) (Reads.bind (jbs (rw:=true) (o:=jfJ fn l0 ps a c q1 .busy) zS rfl) (Reads.pure _)) ?_)
    exact Tri.bind (jbB (o':=jo4 fn l0 ps a c q1) rfl rfl (Tri.pure ⟨rfl,n⟩))
  refine m.step (K':=fun g' h'=>m.R K g' h') ⟨rfl,fun w sw=>?_⟩ fun g' h' x=>x
  obtain ⟨j,w',h',hr,st',rfl,n'⟩:=key w sw
  refine ⟨_,w',seen P f ((Instr.endRound q (some .ret)).events P w #[]),h',?_,st'.events fun e he=>jct _ _ _ e he,n'⟩
  simp [Gr,Fr,G,stepG,stepG.exec,bR,bF,hr,GStep.after,doReturn]
theorem jkv {q:Nat} {fn:FuncId} {a c:Code} {F E:Hp} (hh:h=F++⟨true,q,jo4 fn l0 ps a c q1⟩::E) (n:m.R K (Gr b l ds (.code .ret::k) cs) (F++E)):
    m.R K (Gr b l ds (.endRangeFunc q::k) cs) h:=by
  subst hh
  have key:Tri P B (Instr.endLoop q) (F++⟨true,q,jo4 fn l0 ps a c q1⟩::E) fun j h'=>j=some .ret∧m.R K (Gr b l ds (.code .ret::k) cs) h':=by
    unfold Instr.endLoop
    refine Tri.bind (Reads.tri (a:={state:= .done,pending:=some .ret,fn,tmps:=l0.toArray,params:=ps,assign:=a,body:=c,defers:=q1}) (Reads.bind (jbs (rw:=true) (o:=jo4 fn l0 ps a c q1) zS rfl) (Reads.pure _)) ?_)
    have hb:(LoopState.done==LoopState.busy)=false:=rfl
    simp only [hb,gx,if_false]
    refine Tri.bind (jbB rfl rfl (Tri.pure ⟨rfl,m.weak (Weak.sub ?_) n⟩))
    exact Ve (Vp _ _) _
  refine m.step (K':=fun g' h'=>m.R K g' h') ⟨rfl,fun w sw=>?_⟩ fun g' h' x=>x
  obtain ⟨j,w',h',hr,st',rfl,n'⟩:=key w sw
  refine ⟨_,w',seen P b.fn ((Instr.endLoop q).events P w #[]),h',?_,st'.events fun e he=>jct _ _ _ e he,n'⟩
  simp [Gr,Fr,G,stepG,stepG.exec,hr,GStep.after]
end
def jdz:List (Int×Int)→Nat→List MapEntry
  |[],_=>[]
  |e::r,b=>⟨.int .i64 e.1,.int .i64 e.2,b⟩::jdz r (b+1)
def jqZ (l:List (Int×Int)):Obj:= .map (jdz l 0).toArray l.length
def jc9 (x:Int):List (Int×Int)→Nat→Option (Nat×Int)
  |[],_=>none
  |e::r,i=>if e.1=x then some (i,e.2) else jc9 x r (i+1)
def cntI (l:List (Int×Int)) (x:Int):Int:=match jc9 x l 0 with|some (_,n)=>n|none=>0
def jjq (l:List (Int×Int)) (x n:Int):List (Int×Int):=match jc9 x l 0 with|some (i,_)=>l.set i (x,n)|none=>l++[(x,n)]
theorem jhl (x:Int): ∀(l:List (Int×Int)) (b i:Nat),Instr.findNow (.int .i64) (.int .i64 x) (jdz l b) i=some ((jc9 x l i).map fun p=>(p.1,.int .i64 p.2))
  |[],_,_=>rfl
  |e::r,b,i=>by
    unfold jdz Instr.findNow jc9
    simp only [Instr.sameNow,if_true]
    by_cases hk:e.1=x
    · rw [if_pos hk,show (x==e.1)=true by simp [hk]];rfl
    · rw [if_neg hk,show (x==e.1)=false by simp;exact fun h=>hk h.symm];exact jhl x r (b+1) (i+1)
theorem jgn: ∀(l:List (Int×Int)) (b j:Nat),(jdz l b)[j]?=(l[j]?).map fun e=>⟨.int .i64 e.1,.int .i64 e.2,b+j⟩
  |[],_,_=>by simp [jdz]
  |e::r,b,0=>by simp [jdz]
  |e::r,b,j+1=>by simp [jdz,jgn r (b+1) j,VA,vv 1 j]
theorem jhn: ∀(l r:List (Int×Int)) (b:Nat),jdz (l++r) b=jdz l b++jdz r (b+l.length)
  |[],r,b=>by simp [jdz]
  |e::l,r,b=>by simp [jdz,jhn l r (b+1),VA,vv 1]
theorem jgX (x:Int): ∀(l:List (Int×Int)) (i j:Nat) (n:Int),jc9 x l i=some (j,n)→ ∃p,j=i+p∧l[p]?=some (x,n)
  |[],_,_,_,h=>by simp [jc9] at h
  |e::r,i,j,n,h=>by
    unfold jc9 at h
    split at h
    · rename_i hk
      obtain ⟨rfl,rfl⟩:=Prod.mk.inj (gF h)
      obtain ⟨e1,e2⟩:=e
      subst hk
      exact ⟨0,rfl,rfl⟩
    · obtain ⟨p,rfl,hp⟩:=jgX x r (i+1) j n h
      exact ⟨p+1,by omega,by simpa using hp⟩
theorem jrM (l:List (Int×Int)) (j:Nat) (x n v:Int) (hj:l[j]?=some (x,n)):(jdz l 0).toArray.modify j (fun e=>{e with key:= .int .i64 x,val:= .int .i64 v})=(jdz (l.set j (x,v)) 0).toArray:=by
  apply Array.ext_getElem?
  intro i
  rw [Array.getElem?_modify,gZ,gZ,jgn,jgn,vo];by_cases e:j=i
  · subst e
    have hlt:=(vH.1 hj).1
    simp [hlt]
  · simp [e]
section
variable {P:Program} {m:Md P B} {l l':List Value} {S h h' H:Hp} {i:Nat} {kd:Kd} {r:List (Nat×Kd)} {d:Option Tmp} {g:Option (Nat×Bool)}
theorem jig (ht:P.underlying t=some (.int .i64)) (x:Int) (l:List (Int×Int)):Reads P B (Instr.findKey t (.int .i64 x) (jdz l 0)) h ((jc9 x l 0).map fun p=>(p.1,.int .i64 p.2)):=by
  unfold Instr.findKey
  refine Reads.bind (jai ht).reads ?_
  rw [jhl];exact Reads.pure _
theorem jhb (dd:Nat) {e:Bool} (ht:P.underlying t=some (.int .i64)) (n:Int):Reads P B (Instr.checkKey e (dd+1) t (.int .i64 n)) h ():=by
  unfold Instr.checkKey
  refine Reads.bind (jai ht).reads ?_
  exact Reads.pure _
theorem k_mkmapI (ho:ops[i]?=some ⟨d,.makeMap t none,ty,pos,af,g⟩) (hw:Wt ops l g) (n: ∀q,RegK m S ops r (put l d (.map (some q))) (h++[⟨true,q,jqZ []⟩]) C):RegK m S ops ((i,.free)::r) l h C:=jrb ho hw n
theorem jlR {t k e q:Nat} {x y:Operand} {rw:Bool} {v:Int} (ht:P.underlying t=some (.map k e)) (hk:P.underlying k=some (.int .i64)) (ho:ops[i]?=some ⟨d,.lookup t x y false,ty,pos,af,g⟩) (hw:Wt ops l g) [KHeap kd S h H] [ex:OpV l x (.map (some q))] [ey:OpV l y (.int .i64 v)]
    [hq:Has H q rw (jqZ es)] [ZeroT P e (.int .i64 0)] [PutV l d (.int .i64 (cntI es v)) l'] (n:RegK m S ops r l' h C):RegK m S ops ((i,kd)::r) l h C:=
  RegK.rd (v:= .int .i64 (cntI es v)) ho hw (by
    simp only [execOp,ex.eq,ey.eq]
    refine Reads.value ?_
    unfold Instr.lookup
    refine Reads.bind (jai ht).reads ?_
    dsimp only
    refine Reads.bind (jbs hq.mem rfl) ?_
    dsimp only [jqZ]
    refine Reads.bind (Reads.pure _) ?_
    refine Reads.bind (jhb 9999 hk v) ?_
    refine Reads.bind (jig hk v es) ?_
    unfold cntI
    cases jc9 v es 0 with
    |none=>exact Reads.bind reads_zero (Reads.pure _)
    |some p=>exact Reads.pure _) n
theorem jrd {t k e q:Nat} {x y z:Operand} {rw:Bool} {v w:Int} (ht:P.underlying t=some (.map k e)) (hk:P.underlying k=some (.int .i64)) (ho:ops[i]?=some ⟨none,.mapUpdate t x y z,ty,pos,af,g⟩) (hw:Wt ops l g) [ex:OpV l x (.map (some q))] [ey:OpV l y (.int .i64 v)] [ez:OpV l z (.int .i64 w)]
    [hq:Has h q rw (jqZ es)] [u:Upd h q (jqZ (jjq es v w)) h'] (n:RegK m S ops r l h' C):RegK m S ops ((i,.free)::r) l h C:=by
  obtain ⟨o1,h1,h2,e1,e2⟩:=u.ex
  refine RegK.ke (.inr rfl) ho hw ?_
  refine jgy hq.mem ⟨o1,h1,h2,e1,rfl⟩ ?_
  simp only [execOp,ex.eq,ey.eq,ez.eq]
  refine Tri.bind ?_
  unfold Instr.mapUpdate
  refine Tri.bind ((jai ht).reads.tri ?_)
  refine Tri.bind ((jbs (o:=jqZ es) (rw:=true) zS rfl).tri ?_)
  refine Tri.bind ((jhb 9999 hk v).tri ?_)
  refine Tri.bind ((jig hk v es).tri ?_)
  cases hf:jc9 v es 0 with
  |none=>
    have e3:jjq es v w=es++[(v,w)]:=by simp only [jjq,hf]
    simp only [vl]
    refine jbB rfl rfl ?_
    refine Tri.pure ⟨.inl (by trivial),?_⟩
    have:(Obj.map ((jdz es 0).toArray.push {key:= .int .i64 v,val:= .int .i64 w,born:=es.length}) (es.length+1))=jqZ (jjq es v w):=by
      rw [e3,jqZ,jhn];simp [jdz]
    show RegK m S ops r _ (h1++⟨true,q,Obj.map ((jdz es 0).toArray.push {key:= .int .i64 v,val:= .int .i64 w,born:=es.length}) (es.length+1)⟩::h2) C
    rw [this,←e2];exact n
  |some p=>
    obtain ⟨p,c⟩:=p
    obtain ⟨p',hp,hget⟩:=jgX v es 0 p c hf
    rw [GD] at hp
    subst hp
    have e3:jjq es v w=es.set p (v,w):=by simp only [jjq,hf]
    have hold:(((jdz es 0).toArray[p]?).map (·.key)).getD (.int .i64 v)= .int .i64 v:=by
      rw [gZ,jgn,hget];rfl
    simp only [Gl]
    refine Tri.bind ?_
    have key: ∀(Q:Value→Hp→Prop) (hh:Hp),Q (.int .i64 v) hh→Tri P B (Instr.keyThatStays (((jdz es 0).toArray[p]?.map (·.key)).getD (.int .i64 v)) (.int .i64 v)) hh Q:=by
      intro Q hh hQ
      rw [hold];unfold Instr.keyThatStays
      split
      · exact Tri.pure hQ
      · refine Tri.bind (jdk rfl fun z=>Tri.pure ?_)
        split<;>exact hQ
    refine key _ _ ?_
    refine jbB rfl rfl ?_
    refine Tri.pure ⟨.inl (by trivial),?_⟩
    have:(Obj.map ((jdz es 0).toArray.modify p fun e=>{e with key:= .int .i64 v,val:= .int .i64 w}) es.length)=jqZ (jjq es v w):=by
      rw [e3,jrM es p v c w hget,jqZ,List.length_set]
    show RegK m S ops r _ (h1++⟨true,q,Obj.map ((jdz es 0).toArray.modify p fun e=>{e with key:= .int .i64 v,val:= .int .i64 w}) es.length⟩::h2) C
    rw [this,←e2];exact n
end
theorem jl6 (l:List (Int×Int)) (x:Int) (a:Int×Int): ∀i,jc9 x (l++[a]) i=match jc9 x l i with|some p=>some p|none=>if a.1=x then some (i+l.length,a.2) else none:=by
  induction l with
  |nil=>intro i;simp [jc9]
  |cons e r ih=>
    intro i
    rw [gt];unfold jc9
    split
    · rfl
    · rw [ih (i+1),gY,show i+1+r.length=i+(r.length+1) by omega]
theorem jl5 (x w x':Int): ∀(l:List (Int×Int)) (i p:Nat) (c:Int),jc9 x l i=some (i+p,c)→jc9 x' (l.set p (x,w)) i=if x'=x then some (i+p,w) else jc9 x' l i
  |[],_,_,_,h=>by simp [jc9] at h
  |e::r,i,0,c,h=>by
    have hk:e.1=x:=by
      unfold jc9 at h
      split at h
      · assumption
      · obtain ⟨p,hp,_⟩:=jgX x r (i+1) (i+0) c h;omega
    rw [List.set_cons_zero];unfold jc9
    by_cases e':x'=x
    · rw [if_pos e',if_pos e'.symm];rfl
    · rw [if_neg e',if_neg (fun y=>e' y.symm),if_neg (fun y=>e' (y.symm.trans hk))]
  |e::r,i,p+1,c,h=>by
    have hk: ¬e.1=x:=fun hk=>by
      unfold jc9 at h
      rw [if_pos hk] at h
      have:=(Prod.mk.inj (gF h)).1
      omega
    rw [List.set_cons_succ];unfold jc9 at h⊢
    rw [if_neg hk] at h
    have ih:=jl5 x w x' r (i+1) p c (by rw [h,show i+(p+1)=i+1+p by omega])
    by_cases e':x'=x
    · rw [if_pos e'] at ih⊢
      rw [if_neg (fun y=>hk (y.trans e')),ih,show i+1+p=i+(p+1) by omega]
    · rw [if_neg e'] at ih⊢
      split
      · rfl
      · exact ih
theorem jmi (l:List (Int×Int)) (x w x':Int):cntI (jjq l x w) x'=if x'=x then w else cntI l x':=by
  unfold jjq
  cases hf:jc9 x l 0 with
  |none=>
    simp only [cntI,jl6]
    by_cases e:x'=x
    · subst e
      simp [hf]
    · rw [if_neg e,if_neg (fun y=>e y.symm)];cases jc9 x' l 0<;>rfl
  |some p=>
    obtain ⟨p,c⟩:=p
    have:=jl5 x w x' l 0 p c (by rw [hf,GD])
    simp only [cntI,this]
    by_cases e:x'=x
    · rw [if_pos e,if_pos e]
    · rw [if_neg e,if_neg e]
end Go.Lo
namespace Go.Lo
open Go.Conc
def Cl (t:Trace) (r i:Nat):Prop:= ∃p,t.act? p=some (.close r)∧t.heard p∧Before t i p
theorem Cl.app {t:Trace} {r i:Nat} (u:Trace) (h:Cl t r i):Cl (t++u) r i:=
  let ⟨p,h1,h2,h3⟩:=h
  have hp:=lt_of_act? h1
  ⟨p,by rw [act?_old hp];exact h1,(heard_old hp).2 h2,h3.app u⟩
structure TC (n lim gn:Nat) (Hl:Nat→Hp) (Sh:Nat→Prop) (wa:Addr) (r:Nat) (cl:Bool) (Gone Live Heir Say:Nat→Prop) (t:Trace):Prop where
  clean: ∀said,¬Race said t
  low: ∀i a b,touchAt t i=some a→blk a.loc=some b→b<lim
  base: ∀i a b,touchAt t i=some a→blk a.loc=some b→b<n→a.write=false
  plain: ∀i a b,touchAt t i=some a→blk a.loc=some b→Sh b∨a.kind= .plain
  known: ∀g,∀c∈Hl g,∀i a,touchAt t i=some a→blk a.loc=some c.b→(c.rw=true∨a.write=true)→Knows t g i
  sh: ∀b,Sh b→ ∀i a,touchAt t i=some a→blk a.loc=some b→(a.kind= .plain→ ∀g,Live g→Knows t g i)∧(a.kind= .said→ ∀g,Say g→Knows t g i)
  gone:cl=false→ ∀(i:Nat) (x:MemOp),t[i]?=some x→Gone x.g→t.counts i→Rel t wa i∨Knows t 0 i
  heir:cl=false→ ∀j,Heir j→ ∀(i:Nat) (x:MemOp),t[i]?=some x→Gone x.g→t.counts i→Knows t j i∨Knows t 0 i
  shut:cl=true→ ∀(i:Nat) (x:MemOp),t[i]?=some x→x.g≠0→t.counts i→Cl t r i∨Knows t 0 i
  norel: ∀a,NoRelease a t
  gs: ∀op∈t,op.g<gn
section
variable {n lim lim' gn:Nat} {Hl Hl':Nat→Hp} {r:Nat} {Gone Gone' Live Live' Heir Heir' Say Say':Nat→Prop} {t u:Trace}
theorem jdn {t:Trace} {y:MemOp} (h: ∀b,y.act.touch?=some b→b.kind= .atomic∧0<Deaf t y.g): ¬(t++ #[y]).counts t.size:=by
  rintro ⟨a,ha,_,hk⟩;obtain ⟨z,hz,hza⟩:=touch_of ha
  rw [jc6] at hz
  obtain rfl:=gF hz
  obtain ⟨k1,k2⟩:=h a hza
  rcases hk with hk|hk
  · exact absurd k1 hk
  · exact absurd hk (jjh k2)
theorem TC.one (T:TC n lim gn Hl Sh wa r cl Gone Live Heir Say t) (y:MemOp) (hg:y.g<gn) (hlv: ∀b,y.act.touch?=some b→Live y.g) (hSh: ∀b,Sh b→n≤b∧b<lim) (apH: ∀b,Sh b→ ∀g,∀c∈Hl g,c.b≠b)
    (ok: ∀b,y.act.touch?=some b→(∃s,blk b.loc=some s∧Sh s)∧(b.kind= .atomic∨(b.kind= .said∧Say y.g∧ ∀g,Say g→g=y.g)))
    (nr: ∀a,y.act≠ .mark (.release a)) (hgo:Gone y.g→ ∀b,y.act.touch?=some b→b.kind= .atomic∧0<Deaf t y.g) (hcl:cl=true→y.g≠0→Gone y.g):
    TC n lim gn Hl Sh wa r cl Gone Live Heir Say (t++ #[y]):=by
  refine ⟨fun said=>noRace_append (g:=y.g) (T.clean said) (fun op hop=>?_) fun i a ha op hop b hb hc=>?_,fun i a b ha hb=>?_,fun i a b ha hb hlt=>?_,fun i a b ha hb=>?_,fun g c hc i a ha hb hor=>?_,fun b hb i a ha hl=>?_,fun hc i x hx hG hct=>?_,fun hc j hj i x hx hG hct=>?_,fun hc i x hx h0 hct=>?_,
    fun a=>(T.norel a).app fun op hop=>?_,fun op hop=>?_⟩
  · have:op=y:=by simpa using hop
    subst this;rfl
  · have:op=y:=by simpa using hop
    subst this
    obtain ⟨⟨s,hs,hS⟩,hk⟩:=ok b hb
    have hl:blk a.loc=some s:=by rw [hc.1];exact hs
    obtain ⟨p1,p2⟩:=T.sh s hS i a ha hl
    rcases hc.2.2.2 with h|h|⟨_,h,h'⟩
    · exact p1 h _ (hlv b hb)
    · rcases hk with hk|⟨hk,_⟩<;>(rw [hk] at h;cases h)
    · rcases hk with hk|⟨_,h0,_⟩
      · rw [hk] at h';cases h'
      · exact p2 h _ h0
  · rcases jdV ha with ha|⟨_,ha⟩
    · exact T.low i a b ha hb
    · obtain ⟨⟨s,hs,hS⟩,_⟩:=ok a ha
      rw [hs] at hb
      obtain rfl:=gF hb
      exact (hSh _ hS).2
  · rcases jdV ha with ha|⟨_,ha⟩
    · exact T.base i a b ha hb hlt
    · obtain ⟨⟨s,hs,hS⟩,_⟩:=ok a ha
      rw [hs] at hb
      obtain rfl:=gF hb
      have:=(hSh _ hS).1;omega
  · rcases jdV ha with ha|⟨_,ha⟩
    · exact T.plain i a b ha hb
    · obtain ⟨⟨s,hs,hS⟩,_⟩:=ok a ha
      rw [hs] at hb
      obtain rfl:=gF hb
      exact .inl hS
  · rcases jdV ha with ha|⟨_,ha⟩
    · exact (T.known g c hc i a ha hb hor).app _
    · obtain ⟨⟨s,hs,hS⟩,_⟩:=ok a ha
      rw [hs] at hb
      exact absurd (gF hb).symm (apH s hS g c hc)
  · rcases jdV ha with ha|⟨ei,ha⟩
    · obtain ⟨p1,p2⟩:=T.sh b hb i a ha hl
      exact ⟨fun h g hg=>(p1 h g hg).app _,fun h g hg=>(p2 h g hg).app _⟩
    · obtain ⟨_,hk⟩:=ok a ha
      refine ⟨fun h=>?_,fun h=>?_⟩
      · rcases hk with hk|⟨hk,_⟩<;>(rw [hk] at h;cases h)
      · rcases hk with hk|⟨_,_,h0⟩
        · rw [hk] at h;cases h
        · intro g hg'
          rw [h0 g hg',ei];exact knows_own (jc6 t y)
  · rcases jck hx with ⟨hi,hx'⟩|⟨rfl,rfl⟩
    · exact (T.gone hc i x hx' hG ((counts_old hi).1 hct)).imp (fun h=>h.app _) fun h=>h.app _
    · exact absurd hct (jdn (hgo hG))
  · rcases jck hx with ⟨hi,hx'⟩|⟨rfl,rfl⟩
    · exact (T.heir hc j hj i x hx' hG ((counts_old hi).1 hct)).imp (fun h=>h.app _) fun h=>h.app _
    · exact absurd hct (jdn (hgo hG))
  · rcases jck hx with ⟨hi,hx'⟩|⟨rfl,rfl⟩
    · exact (T.shut hc i x hx' h0 ((counts_old hi).1 hct)).imp (fun h=>h.app _) fun h=>h.app _
    · exact absurd hct (jdn (hgo (hcl hc h0)))
  · have:op=y:=by simpa using hop
    subst this;exact nr a
  · rcases vY.1 hop with h|h
    · exact T.gs op h
    · have:op=y:=by simpa using h
      subst this;exact hg
theorem TC.weak (T:TC n lim gn Hl Sh wa r cl Gone Live Heir Say t) (hlim:lim≤lim') (key: ∀g,∀c'∈Hl' g,∃c∈Hl g,c.b=c'.b∧(c'.rw=true→c.rw=true)):TC n lim' gn Hl' Sh wa r cl Gone Live Heir Say t:=
  ⟨T.clean,fun i a b ha hb=>GW (T.low i a b ha hb) hlim,T.base,T.plain,fun g c' hc' i a ha hb hor=>by
    obtain ⟨c,hc,e,hr⟩:=key g c' hc'
    exact T.known g c hc i a ha (e▸hb) (hor.imp hr id),T.sh,T.gone,T.heir,T.shut,T.norel,T.gs⟩
theorem TC.less (T:TC n lim gn Hl Sh wa r cl Gone Live Heir Say t) (hl: ∀g,Live' g→Live g) (hG: ∀g,Gone' g→Gone g) (hH: ∀g,Heir' g→Heir g) (hS: ∀g,Say' g→Say g):TC n lim gn Hl Sh wa r cl Gone' Live' Heir' Say' t:=
  ⟨T.clean,T.low,T.base,T.plain,T.known,fun b hb i a ha hx=>⟨fun h g hg=>(T.sh b hb i a ha hx).1 h g (hl g hg),fun h g hg=>(T.sh b hb i a ha hx).2 h g (hS g hg)⟩,
    fun hc i x hx hg=>T.gone hc i x hx (hG _ hg),fun hc j hj i x hx hg=>T.heir hc j (hH j hj) i x hx (hG _ hg),T.shut,T.norel,T.gs⟩
theorem TC.bye (T:TC n lim gn Hl Sh wa r cl Gone Live Heir Say t) {y:MemOp} (hy:y.act= .mark (.releaseMerge wa)) (hd:Deaf t y.g=0) (T':TC n lim gn Hl Sh wa r cl Gone Live Heir Say (t++ #[y])) (hG: ∀g,Gone' g→Gone g∨g=y.g) (hH: ∀g,¬Heir g):
    TC n lim gn Hl Sh wa r cl Gone' Live Heir Say (t++ #[y]):=by
  refine ⟨T'.clean,T'.low,T'.base,T'.plain,T'.known,T'.sh,fun hc i x hx hg hct=>?_,fun _ j hj=>absurd hj (hH j),T'.shut,T'.norel,T'.gs⟩
  rcases hG _ hg with h|h
  · exact T'.gone hc i x hx h hct
  · rcases jck hx with ⟨hi,hx'⟩|⟨rfl,rfl⟩
    · refine .inl (released hy hd ?_)
      rw [←h];exact knows_own hx'
    · exact absurd hct (jdn fun b hb=>by rw [hy] at hb;cases hb)
theorem TC.inherit (T:TC n lim gn Hl Sh wa r cl Gone Live Heir Say t) {y:MemOp} (hy:y.act= .mark (.acquire wa)) (hd:Deaf t y.g=0) (T':TC n lim gn Hl Sh wa r cl Gone Live Heir Say (t++ #[y])) (hH: ∀g,Heir' g→Heir g∨g=y.g):
    TC n lim gn Hl Sh wa r cl Gone Live Heir' Say (t++ #[y]):=by
  refine ⟨T'.clean,T'.low,T'.base,T'.plain,T'.known,T'.sh,T'.gone,fun hc j hj i x hx hg hct=>?_,T'.shut,T'.norel,T'.gs⟩
  rcases hH _ hj with h|rfl
  · exact T'.heir hc j h i x hx hg hct
  · rcases jck hx with ⟨hi,hx'⟩|⟨rfl,rfl⟩
    · rcases T.gone hc i x hx' hg ((counts_old hi).1 hct) with h|h
      · exact .inl (acquired (T.norel wa) hy hd h)
      · exact .inr (h.app _)
    · exact absurd hct (jdn fun b hb=>by rw [hy] at hb;cases hb)
theorem TC.close (T:TC n lim gn Hl Sh wa r false Gone Live Heir Say t) {y:MemOp} (hy:y.act= .close r) (hd:Deaf t y.g=0) (T':TC n lim gn Hl Sh wa r false Gone Live Heir Say (t++ #[y])) (hH:Heir y.g) (hall: ∀g,g≠0→g<gn→g≠y.g→Gone g):
    TC n lim gn Hl Sh wa r true Gone' Live Heir' Say (t++ #[y]):=by
  have own: ∀i,Knows t y.g i→Cl (t++ #[y]) r i:=fun i h=>⟨t.size,by rw [act?_of (jc6 t y),hy],je4 hd,.inr (h.hb_new (gL _) (jc6 t y) rfl)⟩
  refine ⟨T'.clean,T'.low,T'.base,T'.plain,T'.known,T'.sh,(fun h=>by cases h),(fun h=>by cases h),fun _ i x hx h0 hct=>?_,T'.norel,T'.gs⟩
  rcases jck hx with ⟨hi,hx'⟩|⟨rfl,rfl⟩
  · by_cases e:x.g=y.g
    · refine .inl (own i ?_)
      rw [←e];exact knows_own hx'
    · have hlt:=T.gs x (VL hx')
      rcases T.heir rfl _ hH i x hx' (hall _ h0 hlt e) ((counts_old hi).1 hct) with h|h
      · exact .inl (own i h)
      · exact .inr (h.app _)
  · exact absurd hct (jdn fun b hb=>by rw [hy] at hb;cases hb)
theorem TC.heard0 (T:TC n lim gn Hl Sh wa r true Gone Live Heir Say t) {y:MemOp} (h0:y.g=0) (hy:y.act= .recvClosed r) (hd:Deaf t y.g=0):
    ∀(i:Nat) (x:MemOp),(t++ #[y])[i]?=some x→x.g≠0→(t++ #[y]).counts i→Knows (t++ #[y]) 0 i:=by
  intro i x hx hx0 hct
  rcases jck hx with ⟨hi,hx'⟩|⟨rfl,rfl⟩
  · rcases T.shut rfl i x hx' hx0 ((counts_old hi).1 hct) with ⟨p,h1,h2,h3⟩|h
    · have hp:=lt_of_act? h1
      refine ⟨t.size,y,jc6 t y,h0,.inr ((h3.app _).hb ?_)⟩
      exact .single (.inr ⟨.closed (by rw [act?_old hp];exact h1) (by rw [act?_of (jc6 t y),hy]),(heard_old hp).2 h2,je4 hd⟩)
    · exact h.app _
  · exact absurd h0 hx0
theorem TC.own (T:TC n lim gn Hl Sh wa r cl Gone Live Heir Say t) (hn:B.size=n) {g:Nat} (hgn:g<gn) {w:World} {es:Array Event} (hlim:w.heap.size=lim) (hlim':w'.heap.size=lim') (st:Stp B (Hl g) h' w w' es)
    (hs: ∀j,Sat B (Hl j) w) (ap: ∀j,j≠g→ApH (Hl j) (Hl g)) (hSh: ∀b,Sh b→n≤b∧b<lim) (apS: ∀b,Sh b→ ∀c∈Hl g,c.b≠b) (hL: ¬Gone g) (hcl:cl=true→g=0) (fn:FuncId) (pos:String):
    TC n lim' gn (jcr Hl g h') Sh wa r cl Gone Live Heir Say (t++MemOp.ofEvents g fn pos es):=by
  subst hlim;subst hlim';subst hn
  have hev: ∀op∈MemOp.ofEvents g fn pos es,op.g=g∧(∀m,op.act= .mark m→Neutral m)∧ ∀a,op.act.touch?=some a→a.kind= .plain∧ ∃b,blk a.loc=some b∧Allowed B (Hl g) w.heap.size w'.heap.size a.write b:=by
    intro op hop
    obtain ⟨e,he,rfl⟩:=jdO hop
    refine ⟨rfl,(st.evs e he).word,fun a ha=>⟨?_,(st.evs e he).touch ha⟩⟩
    rcases st.evs e he with rfl|⟨hsy,o⟩
    · cases ha
    · obtain ⟨l,wr,sy⟩:=e
      simp only at hsy
      subst hsy
      cases l with
      |cell x=>
        have:a=⟨.cell x,wr,.plain⟩:=by simpa [MemAct.ofEvent,MemAct.touch?] using ha.symm
        rw [this]
      |obj x=>
        have:a=⟨.obj x,wr,.plain⟩:=by simpa [MemAct.ofEvent,MemAct.touch?] using ha.symm
        rw [this]
      |output=>exact o.elim
      |goroutines=>exact o.elim
      |mark m=>exact o.elim
  have hnew: ∀op∈MemOp.ofEvents g fn pos es,∀a b,op.act.touch?=some a→blk a.loc=some b→Allowed B (Hl g) w.heap.size w'.heap.size a.write b:=fun op hop a b ha hb=>by
    obtain ⟨b',hb',hal⟩:=((hev op hop).2.2 a ha).2
    rw [hb] at hb'
    obtain rfl:=gF hb'
    exact hal
  refine ⟨fun said=>noRace_append (T.clean said) (fun op hop=>(hev op hop).1) fun i a ha op hop b hb hc=>?_,fun i a b ha hb=>?_,fun i a b ha hb hlt=>?_,fun i a b ha hb=>?_,fun j c hc i a ha0 hb hor=>?_,fun b hb i a ha hl=>?_,fun hc i x hx hg ht=>?_,fun hc j hj i x hx hg ht=>?_,fun hc i x hx h0 ht=>?_,
    fun a=>(T.norel a).app fun op hop e=>?_,fun op hop=>?_⟩
  · obtain ⟨bb,hbb,hal⟩:=((hev op hop).2.2 b hb).2
    have e:blk a.loc=some bb:=by rw [hc.1];exact hbb
    rcases hal with hal|⟨d,hd,e',hr⟩|⟨h1,h2⟩
    · have:=T.low i a bb ha e;omega
    · exact T.known g d hd i a ha (by rw [e'];exact e) (hc.2.2.1.symm.imp hr id)
    · have:=T.base i a bb ha e h2
      rcases hc.2.2.1 with h3|h3
      · rw [this] at h3;cases h3
      · rw [h1] at h3;cases h3
  · rcases jcd ha with ha|⟨op,ho,_,hoa⟩
    · exact GW (T.low i a b ha hb) st.size
    · rcases hnew op ho a b hoa hb with hal|⟨d,hd,e',_⟩|⟨_,h2⟩
      · exact hal.2
      · have:=(hs g).lt hd;have:=st.size;omega
      · have:=(hs g).size;have:=st.size;omega
  · rcases jcd ha with ha|⟨op,ho,_,hoa⟩
    · exact T.base i a b ha hb hlt
    · rcases hnew op ho a b hoa hb with hal|⟨d,hd,e',hr⟩|⟨h1,h2⟩
      · have:=(hs g).size;omega
      · have:=((hs g).mem d hd).1;omega
      · exact h1
  · rcases jcd ha with ha|⟨op,ho,_,hoa⟩
    · exact T.plain i a b ha hb
    · exact .inr ((hev op ho).2.2 a hoa).1
  · rcases jcd ha0 with ha|⟨op,ho,hx,hoa⟩
    · by_cases e:j=g
      · subst e
        rw [updH_same] at hc
        rcases st.key c hc with k|⟨d,hd,e',hr⟩
        · have:=T.low i a c.b ha hb;omega
        · exact (T.known j d hd i a ha (by rw [e'];exact hb) (hor.imp hr id)).app _
      · rw [jao _ _ e] at hc
        exact (T.known j c hc i a ha hb hor).app _
    · by_cases e:j=g
      · subst e
        have:=knows_own hx
        rwa [(hev op ho).1] at this
      · rw [jao _ _ e] at hc
        exfalso
        rcases hnew op ho a c.b hoa hb with hal|⟨d,hd,e',hr⟩|⟨h1,h2⟩
        · have:=(hs j).lt hc;omega
        · exact ap j e c hc d hd (hor.imp id hr) e'.symm
        · have:=((hs j).mem c hc).1;omega
  · rcases jcd ha with ha|⟨op,ho,hx,hoa⟩
    · obtain ⟨p1,p2⟩:=T.sh b hb i a ha hl
      exact ⟨fun h g hg=>(p1 h g hg).app _,fun h g hg=>(p2 h g hg).app _⟩
    · exfalso
      have:=hSh b hb
      rcases hnew op ho a b hoa hl with hal|⟨d,hd,e',hr⟩|⟨h1,h2⟩
      · omega
      · exact apS b hb d hd e'
      · omega
  · rcases getElem?_append_cases hx with ⟨hi,hx'⟩|⟨_,hxu⟩
    · exact (T.gone hc i x hx' hg ((counts_old hi).1 ht)).imp (fun h=>h.app _) fun h=>h.app _
    · exact absurd ((hev x hxu).1▸hg) hL
  · rcases getElem?_append_cases hx with ⟨hi,hx'⟩|⟨_,hxu⟩
    · exact (T.heir hc j hj i x hx' hg ((counts_old hi).1 ht)).imp (fun h=>h.app _) fun h=>h.app _
    · exact absurd ((hev x hxu).1▸hg) hL
  · rcases getElem?_append_cases hx with ⟨hi,hx'⟩|⟨_,hxu⟩
    · exact (T.shut hc i x hx' h0 ((counts_old hi).1 ht)).imp (fun h=>h.app _) fun h=>h.app _
    · exact absurd ((hev x hxu).1.trans (hcl hc)) h0
  · have:=(hev op hop).2.1 _ e;cases this
  · rcases vY.1 hop with h|h
    · exact T.gs op h
    · rw [(hev op h).1];exact hgn
theorem TC.share (T:TC n lim gn Hl Sh wa r cl Gone Live Heir Say t) (hlv: ∀g,Live g→g=0) (hk: ∀(i:Nat) (x:MemOp),t[i]?=some x→x.g≠0→t.counts i→Knows t 0 i) {wa':Addr} {r':Nat} (hS: ∀b,Sh b→Sh' b)
    (kS: ∀b,Sh' b→Sh b∨ ∃c∈Hl 0,c.b=b∧c.rw=true) (k1: ∀x'∈h',∃x∈Hl 0,x.b=x'.b∧(x'.rw=true→x.rw=true)) (hs0: ∀g,Say' g→g=0) (hsay: ∀g,Say' g→Say g) (hH: ∀g,¬Heir' g):
    TC n lim gn (jcr Hl 0 h') Sh' wa' r' false (fun g=>g≠0∧Gone' g) Live Heir' Say' t:=by
  refine ⟨T.clean,T.low,T.base,fun i a b ha hb=>(T.plain i a b ha hb).imp (hS b) id,fun g c hc i a ha hb hor=>?_,fun b hb i a ha hl=>?_,fun _ i x hx hg hct=> .inr (hk i x hx hg.1 hct),fun _ j hj=>absurd hj (hH j),(fun h=>by cases h),T.norel,T.gs⟩
  · by_cases e:g=0
    · subst e
      rw [updH_same] at hc
      obtain ⟨x,hx,e,hr⟩:=k1 c hc
      exact T.known 0 x hx i a ha (by rw [e];exact hb) (hor.imp hr id)
    · rw [jao _ _ e] at hc
      exact T.known g c hc i a ha hb hor
  · rcases kS b hb with h|⟨c,hc,e,hr⟩
    · exact ⟨(T.sh b h i a ha hl).1,fun hk' g hg=>(T.sh b h i a ha hl).2 hk' g (hsay g hg)⟩
    · have:=T.known 0 c hc i a ha (by rw [e];exact hl) (.inl hr)
      exact ⟨fun _ g hg=>by obtain rfl:=hlv g hg;exact this,fun _ g hg=>by rw [hs0 g hg];exact this⟩
theorem TC.spawn (T:TC n lim gn Hl Sh wa r cl Gone Live Heir Say t) {g:Nat} (hgn:g<gn) (hlv:Live g) (hsy:Say g) (hlv': ∀j,Live' j→Live j∨j=gn) (hsy': ∀j,Say' j→Say j∨j=gn) (hlim:lim≤lim') {hg hc:Hp} (k1: ∀x'∈hg,∃x∈Hl g,x.b=x'.b∧(x'.rw=true→x.rw=true)) (k2: ∀x'∈hc,∃x∈Hl g,x.b=x'.b∧(x'.rw=true→x.rw=true))
    (hd:Deaf t g=0) (fh:FuncId) (ph:String) (fc:FuncId):
    TC n lim' (gn+1) (jcr (jcr Hl g hg) gn hc) Sh wa r cl Gone Live' Heir Say' (t++ #[{g:=g,fn:=fh,pos:=ph,act:= .go gn},{g:=gn,fn:=fc,pos:=ph,act:= .start}]):=by
  have hdc:Deaf t gn=0:=jiT fun op hop=>by have:=T.gs op hop;omega
  generalize hu:(#[{g:=g,fn:=fh,pos:=ph,act:= .go gn},{g:=gn,fn:=fc,pos:=ph,act:= .start}]:Trace)=u
  have mem: ∀op∈u,op={g:=g,fn:=fh,pos:=ph,act:= .go gn}∨op={g:=gn,fn:=fc,pos:=ph,act:= .start}:=by
    intro op hop
    subst hu
    simpa using hop
  have hn: ∀op∈u,op.act.touch?=none:=fun op hop=>by rcases mem op hop with rfl|rfl<;>rfl
  have e0:(t++u)[t.size]?=some {g:=g,fn:=fh,pos:=ph,act:= .go gn}:=by subst hu;simp
  have e1:(t++u)[t.size+1]?=some {g:=gn,fn:=fc,pos:=ph,act:= .start}:=by subst hu;simp
  have hh0:(t++u).heard t.size:=⟨g,g?_of e0,by rw [deaf_old (gL _)];exact hd⟩
  have hh1:(t++u).heard (t.size+1):=⟨gn,g?_of e1,by rw [deaf_succ e0,deaf_old (gL _)];exact hdc⟩
  have edge:HappensBefore (t++u) t.size (t.size+1):=Relation.TransGen.single (.inr ⟨.spawn (act?_of e0) (act?_of e1) (g?_of e1),hh0,hh1⟩)
  have told: ∀i a,touchAt (t++u) i=some a→touchAt t i=some a:=fun i a ha=>by
    rcases jcd ha with h|⟨op,ho,_,hoa⟩
    · exact h
    · rw [hn op ho] at hoa;cases hoa
  have newc: ∀i (x:MemOp),(t++u)[i]?=some x→x∈u→(t++u).counts i→False:=fun i x hx hxu ht=>by
    obtain ⟨a,ha,_⟩:=ht
    obtain ⟨z,hz,hza⟩:=touch_of ha
    rw [hx] at hz
    obtain rfl:=gF hz
    rw [hn _ hxu] at hza;cases hza
  have pass: ∀i,Knows t g i→Knows (t++u) gn i:=fun i h=>⟨t.size+1,_,e1,rfl,.inr ((h.hb_new (gL _) e0 rfl).trans edge)⟩
  refine ⟨fun said=>noRace_appendMute (T.clean said) hn,fun i a b ha hb=>GW (T.low i a b (told i a ha) hb) hlim,fun i a b ha hb hlt=>T.base i a b (told i a ha) hb hlt,fun i a b ha hb=>T.plain i a b (told i a ha) hb,fun j x hx i a ha hb hor=>?_,
    fun b hb i a ha hl=>?_,fun hc i x hx hg' ht=>?_,fun hc j hj i x hx hg' ht=>?_,fun hc i x hx h0 ht=>?_,fun a=>(T.norel a).app fun op hop e=>?_,fun op hop=>?_⟩
  · have ha:=told i a ha
    by_cases ec:j=gn
    · subst ec
      rw [updH_same] at hx
      obtain ⟨y,hy,e,hr⟩:=k2 x hx
      exact pass i (T.known g y hy i a ha (by rw [e];exact hb) (hor.imp hr id))
    · rw [jao _ _ ec] at hx
      by_cases eg:j=g
      · subst eg
        rw [updH_same] at hx
        obtain ⟨y,hy,e,hr⟩:=k1 x hx
        exact (T.known j y hy i a ha (by rw [e];exact hb) (hor.imp hr id)).app u
      · rw [jao _ _ eg] at hx
        exact (T.known j x hx i a ha hb hor).app u
  · obtain ⟨p1,p2⟩:=T.sh b hb i a (told i a ha) hl
    refine ⟨fun h j hj=>?_,fun h j hj=>?_⟩
    · rcases hlv' j hj with e|e
      · exact (p1 h j e).app u
      · subst e;exact pass i (p1 h g hlv)
    · rcases hsy' j hj with e|e
      · exact (p2 h j e).app u
      · subst e;exact pass i (p2 h g hsy)
  · rcases getElem?_append_cases hx with ⟨hi,hx'⟩|⟨_,hxu⟩
    · exact (T.gone hc i x hx' hg' ((counts_old hi).1 ht)).imp (fun h=>h.app _) fun h=>h.app _
    · exact (newc i x hx hxu ht).elim
  · rcases getElem?_append_cases hx with ⟨hi,hx'⟩|⟨_,hxu⟩
    · exact (T.heir hc j hj i x hx' hg' ((counts_old hi).1 ht)).imp (fun h=>h.app _) fun h=>h.app _
    · exact (newc i x hx hxu ht).elim
  · rcases getElem?_append_cases hx with ⟨hi,hx'⟩|⟨_,hxu⟩
    · exact (T.shut hc i x hx' h0 ((counts_old hi).1 ht)).imp (fun h=>h.app _) fun h=>h.app _
    · exact (newc i x hx hxu ht).elim
  · rcases mem op hop with rfl|rfl<;>cases e
  · rcases vY.1 hop with h|h
    · have:=T.gs op h;omega
    · rcases mem op h with rfl|rfl
      · simp only;omega
      · simp only;omega
theorem TC.meet (T:TC n lim gn Hl Sh wa r cl Gone Live Heir Say t) {i:Nat} (hi0:i≠0) (hin:i<gn) (h0n:0<gn) {hp:Hp} (k1: ∀x'∈hr,∃x∈Hl i,x.b=x'.b∧(x'.rw=true→x.rw=true)) (k2: ∀x'∈hp,∃x∈Hl i,x.b=x'.b∧(x'.rw=true→x.rw=true))
    (hdi:Deaf t i=0) (hd0:Deaf t 0=0) (fh:FuncId) (ph:String) (fj:FuncId) (pj:String) (c k cap:Nat):
    TC n lim gn (jcr (jcr Hl i hr) 0 (Hl 0++hp)) Sh wa r cl Gone Live Heir Say (t++met i 0 fh ph fj pj c k cap):=by
  generalize hu:met i 0 fh ph fj pj c k cap=u
  have mem: ∀op∈u,(op.g=i∨op.g=0)∧op.act.touch?=none∧ ∀m,op.act≠ .mark m:=by
    intro op hop
    subst hu
    simp only [met,Vt,gO,vP,or_false] at hop
    rcases hop with rfl|rfl|rfl|rfl
    · exact ⟨.inl rfl,rfl,fun m h=>by cases h⟩
    · exact ⟨.inr rfl,rfl,fun m h=>by cases h⟩
    · exact ⟨.inl rfl,rfl,fun m h=>by cases h⟩
    · exact ⟨.inr rfl,rfl,fun m h=>by cases h⟩
  have hn: ∀op∈u,op.act.touch?=none:=fun op hop=>(mem op hop).2.1
  have e0:(t++u)[t.size]?=some {g:=i,fn:=fh,pos:=ph,act:= .send c k}:=by subst hu;simp [met]
  have e3:(t++u)[t.size+3]?=some {g:=0,fn:=fj,pos:=pj,act:= .recvDone c k}:=by subst hu;simp [met]
  have e1:(t++u)[t.size+1]?=some {g:=0,fn:=fj,pos:=pj,act:= .recv c k cap}:=by subst hu;simp [met]
  have e2:(t++u)[t.size+2]?=some {g:=i,fn:=fh,pos:=ph,act:= .sendDone c k}:=by subst hu;simp [met]
  have hh0:(t++u).heard t.size:=⟨i,g?_of e0,by rw [deaf_old (gL _)];exact hdi⟩
  have hh3:(t++u).heard (t.size+3):=⟨0,g?_of e3,by rw [deaf_succ e2,deaf_succ e1,deaf_succ e0,deaf_old (gL _)];exact hd0⟩
  have edge:HappensBefore (t++u) t.size (t.size+3):=Relation.TransGen.single (.inr ⟨.handOver (act?_of e0) (act?_of e3),hh0,hh3⟩)
  have told: ∀i a,touchAt (t++u) i=some a→touchAt t i=some a:=fun i a ha=>by
    rcases jcd ha with h|⟨op,ho,_,hoa⟩
    · exact h
    · rw [hn op ho] at hoa;cases hoa
  have newc: ∀i (x:MemOp),(t++u)[i]?=some x→x∈u→(t++u).counts i→False:=fun i x hx hxu ht=>by
    obtain ⟨a,ha,_⟩:=ht
    obtain ⟨z,hz,hza⟩:=touch_of ha
    rw [hx] at hz
    obtain rfl:=gF hz
    rw [hn _ hxu] at hza;cases hza
  have pass: ∀q,Knows t i q→Knows (t++u) 0 q:=fun q h=>⟨t.size+3,_,e3,rfl,.inr ((h.hb_new (gL _) e0 rfl).trans edge)⟩
  refine ⟨fun said=>noRace_appendMute (T.clean said) hn,fun i a b ha hb=>T.low i a b (told i a ha) hb,fun i a b ha hb hlt=>T.base i a b (told i a ha) hb hlt,fun i a b ha hb=>T.plain i a b (told i a ha) hb,fun j x hx q a ha hb hor=>?_,
    fun b hb q a ha hl=>?_,fun hc q x hx hg' ht=>?_,fun hc j hj q x hx hg' ht=>?_,fun hc q x hx h0 ht=>?_,fun a=>(T.norel a).app fun op hop e=>?_,fun op hop=>?_⟩
  · have ha:=told q a ha
    by_cases ej:j=0
    · subst ej
      rw [updH_same] at hx
      rcases gQ.1 hx with hx|hx
      · exact (T.known 0 x hx q a ha hb hor).app _
      · obtain ⟨y,hy,e,hr⟩:=k2 x hx
        exact pass q (T.known i y hy q a ha (by rw [e];exact hb) (hor.imp hr id))
    · rw [jao _ _ ej] at hx
      by_cases eg:j=i
      · subst eg
        rw [updH_same] at hx
        obtain ⟨y,hy,e,hr⟩:=k1 x hx
        exact (T.known j y hy q a ha (by rw [e];exact hb) (hor.imp hr id)).app u
      · rw [jao _ _ eg] at hx
        exact (T.known j x hx q a ha hb hor).app u
  · obtain ⟨p1,p2⟩:=T.sh b hb q a (told q a ha) hl
    exact ⟨fun h j hj=>(p1 h j hj).app u,fun h j hj=>(p2 h j hj).app u⟩
  · rcases getElem?_append_cases hx with ⟨hi,hx'⟩|⟨_,hxu⟩
    · exact (T.gone hc q x hx' hg' ((counts_old hi).1 ht)).imp (fun h=>h.app _) fun h=>h.app _
    · exact (newc q x hx hxu ht).elim
  · rcases getElem?_append_cases hx with ⟨hi,hx'⟩|⟨_,hxu⟩
    · exact (T.heir hc j hj q x hx' hg' ((counts_old hi).1 ht)).imp (fun h=>h.app _) fun h=>h.app _
    · exact (newc q x hx hxu ht).elim
  · rcases getElem?_append_cases hx with ⟨hi,hx'⟩|⟨_,hxu⟩
    · exact (T.shut hc q x hx' h0 ((counts_old hi).1 ht)).imp (fun h=>h.app _) fun h=>h.app _
    · exact (newc q x hx hxu ht).elim
  · exact (mem op hop).2.2 _ e
  · rcases vY.1 hop with h|h
    · exact T.gs op h
    · rcases (mem op h).1 with e|e<;>omega
theorem TC.zero {h0:Hp}:TC n lim gn (fun _=>h0) (fun _=>False) wa r cl Gone Live Heir Say #[]:=by
  have none: ∀i a,touchAt (#[]:Trace) i=some a→False:=fun i a ha=>by
    obtain ⟨x,hx,_⟩:=touch_of ha
    simp at hx
  exact ⟨fun said=>by rintro ⟨i,j,_,⟨a,b,ha,_⟩,_⟩;exact none i a ha,fun i a b ha=>(none i a ha).elim,fun i a b ha=>(none i a ha).elim,fun i a b ha=>(none i a ha).elim,fun g c _ i a ha=>(none i a ha).elim,
    fun b hb=>hb.elim,fun _ i x hx=>by simp at hx,fun _ _ _ i x hx=>by simp at hx,fun _ i x hx=>by simp at hx,fun a i=>by simp [Trace.act?],fun op hop=>by simp at hop⟩
end
inductive QuietC (r:Option Nat):Goroutine→Prop
  |runs {g:Goroutine} (h:g.status= .running):QuietC r g
  |ended {g:Goroutine} (h:g.status= .finished):QuietC r g
  |blocks {g:Goroutine} (h:g.status= .blocked) (ho:g.offers=none):QuietC r g
  |parks {g:Goroutine} {c:CommCase} {shape:CommShape} {q:Nat} (hr:r=some q) (hc:c.chan= .chan (some q)):QuietC r (parked g #[c] shape)
def jbJ (cl:Bool) (g:Goroutine):Goroutine:=if g.status= .blocked then (if g.offers.isNone||cl then {g with status:= .running} else g) else g
theorem QuietC.woken {P:Program} {g a a':Goroutine} {w:World} (q:QuietC r g) (ch: ∀q,r=some q→ ∃k tm,w.heap[q]?=some (.chan 0 #[] cl k k tm)):woken P a a' w g=if mayWake P a&&a'.status != .blocked&&a'.status != .waiting then jbJ cl g else g:=by
  unfold Conc.woken
  split
  · cases q with
    |runs h=>unfold Goroutine.again jbJ;rw [h,if_neg zA]
    |ended h=>unfold Goroutine.again jbJ;rw [h,if_neg zA]
    |blocks h ho=>unfold Goroutine.again jbJ;rw [h,ho,if_pos rfl];rfl
    | @parks g c shape q hr hc=>
      obtain ⟨k,tm,e⟩:=ch q hr
      cases cl<;>simp [Goroutine.again,jbJ,parked,hc,e]
  · rfl
theorem QuietC.awoken {g:Goroutine} (q:QuietC r g):QuietC r (jbJ cl g):=by
  unfold jbJ
  split
  · split
    · exact .runs rfl
    · exact q
  · exact q
theorem QuietC.awake' {g:Goroutine} (q:QuietC r g):awake g:=by
  cases q with
  |runs h=>exact awake_of (.inl h)
  |ended h=>exact awake_of (.inr (.inr h))
  |blocks h ho=>exact awake_of (.inr (.inl h))
  |parks hr hc=>exact awake_of (.inr (.inl rfl))
def jr6 (r:Option Nat) (cl:Bool) (old:Nat→Prop) (Shp:Hp) (w:World):Prop:= ∀q,r=some q→old q∧(∀c∈Shp,c.b≠q)∧ ∃k tm,w.heap[q]?=some (.chan 0 #[] cl k k tm)
structure SEffQ (B:Array Obj) (Shp Shp':Hp) (w w':World):Prop extends SEff B Shp Shp' w w' where
  same:w'.os=w.os
theorem SEffQ.refl {w:World} (h: ∀c∈Shp,c.rw=true):SEffQ B Shp Shp w w:=⟨SEff.refl h,rfl⟩
structure CoreC (B:Array Obj) (W:World) (old:Nat→Prop) (Shp:Hp) (wa:Addr) (r:Option Nat) (cl:Bool) (Gone Live Heir Say:Nat→Prop) (gs:Array Goroutine) (w:World) (t:Trace) (Hl:Nat→Hp):Prop where
  sat: ∀i,Sat B (Hl i) w
  satS:Sat B Shp w
  apart: ∀i j,i≠j→ApH (Hl i) (Hl j)
  apS: ∀i,ApH Shp (Hl i)
  shB: ∀c∈Shp,c.rw=true
  oldB: ∀b,old b→(B.size≤b∧b<w.heap.size)∧ ∀i,∀c∈Hl i,c.b≠b
  tj:TC B.size w.heap.size gs.size Hl (fun b=>old b∨ ∃c∈Shp,c.b=b) wa (r.getD 0) cl Gone Live Heir Say t
  far:w.os=W.os∧w.output=W.output∧w.tape=W.tape
  out: ∀i,gs.size≤i→Hl i=[]
  quiet: ∀(i:Nat) g,gs[i]?=some g→QuietC r g
  chan:jr6 r cl old Shp w
section
variable {P:Program} {Gone Gone' Live Live' Heir Heir' Say Say':Nat→Prop} {w w':World} {t:Trace} {Hl Hl':Nat→Hp} {sl:Option (Nat×Nat)}
theorem CoreC.wake (c:CoreC B W old Shp wa r cl Gone Live Heir Say gs w t Hl): ∀q,r=some q→ ∃k tm,w.heap[q]?=some (.chan 0 #[] cl k k tm):=fun q e=>(c.chan q e).2.2
theorem CoreC.shared (c:CoreC B W old Shp wa r cl Gone Live Heir Say gs w t Hl):(∀b,(old b∨ ∃c∈Shp,c.b=b)→B.size≤b∧b<w.heap.size)∧(∀b,(old b∨ ∃c∈Shp,c.b=b)→ ∀g,∀d∈Hl g,d.b≠b):=by
  refine ⟨fun b hb=>?_,fun b hb g d hd=>?_⟩
  · rcases hb with hb|⟨x,hx,rfl⟩
    · exact (c.oldB b hb).1
    · exact ⟨(c.satS.mem x hx).1,c.satS.lt hx⟩
  · rcases hb with hb|⟨x,hx,rfl⟩
    · exact (c.oldB b hb).2 g d hd
    · exact fun e=>c.apS g x hx d hd (.inl (c.shB x hx)) e.symm
theorem jbU {g x:Goroutine} {i j:Nat} (q: ∀(i:Nat) g,gs[i]?=some g→QuietC r g) (ch: ∀q,r=some q→ ∃k tm,w'.heap[q]?=some (.chan 0 #[] cl k k tm)) (e:i≠j) (hj:gs[j]?=some x):(after P g g' w' gs i)[j]?=some (if mayWake P g&&g'.status != .blocked&&g'.status != .waiting then jbJ cl x else x):=by
  unfold after
  rw [GC e,Array.getElem?_map,hj,Gl,(q j x hj).woken ch]
theorem jhs {g:Goroutine} {i:Nat} (q: ∀(i:Nat) g,gs[i]?=some g→QuietC r g) (ch: ∀q,r=some q→ ∃k tm,w'.heap[q]?=some (.chan 0 #[] cl k k tm)) (q':QuietC r g'): ∀(j:Nat) x,(after P g g' w' gs i)[j]?=some x→QuietC r x:=by
  intro j x hj
  have hlt:j<gs.size:=by have:=(gH.1 hj).1;rwa [ja0] at this
  have hx:gs[j]?=some gs[j]:=gR hlt
  by_cases e:i=j
  · subst e
    rw [jbb hx] at hj
    exact (gF hj)▸q'
  · rw [jbU q ch e hx] at hj
    obtain rfl:=gF hj
    split
    · exact (q j _ hx).awoken
    · exact q j _ hx
theorem CoreC.at (c:CoreC B W old Shp wa r cl Gone Live Heir Say gs w t Hl) (d:Nat):CoreC B W old Shp wa r cl Gone Live Heir Say gs (w.at d) t Hl:=
  ⟨fun i=>⟨(c.sat i).base,(c.sat i).mem,(c.sat i).apart⟩,⟨c.satS.base,c.satS.mem,c.satS.apart⟩,c.apart,c.apS,c.shB,c.oldB,c.tj,c.far,c.out,c.quiet,c.chan⟩
theorem CoreC.pick (c:CoreC B W old Shp wa r cl Gone Live Heir Say gs w t Hl) (sl:Option (Nat×Nat)) (some1: ∃(i:Nat) (g:Goroutine),gs[i]?=some g∧g.status= .running):
    ∃(i:Nat) (g:Goroutine) (d:Nat) (sl':Option (Nat×Nat)),gs[i]?=some g∧g.status= .running∧stepT P (crowd gs w sl)=runT P (crowd gs (w.at d) sl') i:=
  crowd_pick (fun g hg=>by
    obtain ⟨i,hi⟩:=Array.getElem?_of_mem hg
    exact (c.quiet i g hi).awake') some1
theorem CoreC.less (c:CoreC B W old Shp wa r cl Gone Live Heir Say gs w t Hl) (hl: ∀g,Live' g→Live g) (hG: ∀g,Gone' g→Gone g) (hH: ∀g,Heir' g→Heir g) (hS: ∀g,Say' g→Say g):CoreC B W old Shp wa r cl Gone' Live' Heir' Say' gs w t Hl:=
  ⟨c.sat,c.satS,c.apart,c.apS,c.shB,c.oldB,c.tj.less hl hG hH hS,c.far,c.out,c.quiet,c.chan⟩
theorem CoreC.weak (c:CoreC B W old Shp wa r cl Gone Live Heir Say gs w t Hl) {i:Nat} {h':Hp} (k:Weak B (Hl i) h'):CoreC B W old Shp wa r cl Gone Live Heir Say gs w t (jcr Hl i h'):=by
  have key: ∀j,∀d∈jcr Hl i h' j,∃x∈Hl j,x.b=d.b∧(d.rw=true→x.rw=true):=fun j d hd=>by
    by_cases e:j=i
    · subst e;rw [updH_same] at hd;exact k.key d hd
    · rw [jao _ _ e] at hd;exact ⟨d,hd,rfl,id⟩
  refine ⟨fun j=>?_,c.satS,fun j l hjl d hd x hx hor=>?_,fun j x hx d hd hor=>?_,c.shB,fun b hb=>⟨(c.oldB b hb).1,fun j d hd=>?_⟩,c.tj.weak (gL _) key,c.far,fun j hj=>?_,c.quiet,c.chan⟩
  · by_cases e:j=i
    · subst e;rw [updH_same];exact k.sat _ (c.sat j)
    · rw [jao _ _ e];exact c.sat j
  · obtain ⟨d',hd',e1,r1⟩:=key j d hd
    obtain ⟨x',hx',e2,r2⟩:=key l x hx
    rw [←e1,←e2];exact c.apart j l hjl d' hd' x' hx' (hor.imp r1 r2)
  · obtain ⟨d',hd',e1,r1⟩:=key j d hd
    rw [←e1];exact c.apS j x hx d' hd' (hor.imp id r1)
  · obtain ⟨x,hx,e,_⟩:=key j d hd
    rw [←e];exact (c.oldB b hb).2 j x hx
  · apply List.eq_nil_iff_forall_not_mem.2
    intro d hd
    obtain ⟨x,hx,_⟩:=key j d hd
    rw [c.out j hj] at hx;simp at hx
theorem CoreC.satAll (c:CoreC B W old Shp wa r cl Gone Live Heir Say gs w t Hl) (i:Nat):Sat B (Hl i++Shp) w:=by
  have s1:=c.sat i
  have s2:=c.satS
  refine ⟨s1.base,fun d hd=>?_,gq.2 ⟨s1.apart,s2.apart,fun a ha b hb hor e=>c.apS i b hb a ha hor.symm e.symm⟩⟩
  rcases gQ.1 hd with hd|hd
  · exact s1.mem d hd
  · exact s2.mem d hd
theorem CoreC.own (c:CoreC B W old Shp wa r cl Gone Live Heir Say gs w t Hl) {i:Nat} {g:Goroutine} {es:Array Event} (hi:gs[i]?=some g) (hst:stepG P (i==0) g w= .go g' w' es) (st:Stp B (Hl i) h' w w' es)
    (hG: ¬Gone i) (hcl:cl=true→i=0) (q:QuietC r g'):
    runT P (crowd gs w sl) i=(.next (crowd (after P g g' w' gs i) w' sl),MemOp.ofEvents i g.frame.fn g.frame.place es)∧
      CoreC B W old Shp wa r cl Gone Live Heir Say (after P g g' w' gs i) w' (t++MemOp.ofEvents i g.frame.fn g.frame.place es) (jcr Hl i h'):=by
  have hlt:i<gs.size:=(gH.1 hi).1
  obtain ⟨s1,s2⟩:=c.shared
  have keep: ∀(X:Hp),Sat B X w→ApH X (Hl i)→ ∀d∈X,w'.heap[d.b]?=w.heap[d.b]?:=fun X sX ap d hd=>
    st.old d.b (sX.lt hd) fun x hx hr=>fun e=>ap d hd x hx (.inr hr) e.symm
  have satK: ∀(X:Hp),Sat B X w→ApH X (Hl i)→Sat B X w':=fun X sX ap=>⟨st.sat.base,fun d hd=>⟨(sX.mem d hd).1,by rw [keep X sX ap d hd];exact (sX.mem d hd).2⟩,sX.apart⟩
  have one: ∀(X:Hp),Sat B X w→ApH X (Hl i)→ApH X h':=fun X sX ap d hd x hx hor=>by
    rcases st.key x hx with k|⟨y,hy,e,hr⟩
    · have:=sX.lt hd;omega
    · rw [←e];exact ap d hd y hy (hor.imp id hr)
  have ch:jr6 r cl old Shp w':=fun q e=>by
    obtain ⟨o,n,k,tm,hk⟩:=c.chan q e
    exact ⟨o,n,k,tm,by rw [st.old q (c.oldB q o).1.2 fun x hx _=>(c.oldB q o).2 i x hx];exact hk⟩
  refine ⟨runT_crowd_go hi hst,fun j=>?_,satK _ c.satS (c.apS i),fun j k hjk=>?_,fun j=>?_,c.shB,fun b hb=>?_,?_,⟨by rw [st.os];exact c.far.1,st.out.trans c.far.2.1,st.tape.trans c.far.2.2⟩,fun j hj=>?_,jhs c.quiet (fun q e=>(ch q e).2.2) q,ch⟩
  · by_cases e:j=i
    · subst e;rw [updH_same];exact st.sat
    · rw [jao _ _ e];exact satK _ (c.sat j) (c.apart j i e)
  · by_cases e1:j=i
    · subst e1
      rw [updH_same,jao _ _ (fun e=>hjk e.symm)];exact (one _ (c.sat k) (c.apart k j fun e=>hjk e.symm)).symm
    · rw [jao _ _ e1];by_cases e2:k=i
      · subst e2;rw [updH_same];exact one _ (c.sat j) (c.apart j k e1)
      · rw [jao _ _ e2];exact c.apart j k hjk
  · by_cases e:j=i
    · subst e;rw [updH_same];exact one _ c.satS (c.apS j)
    · rw [jao _ _ e];exact c.apS j
  · obtain ⟨o1,o2⟩:=c.oldB b hb
    refine ⟨⟨o1.1,GW o1.2 st.size⟩,fun j d hd=>?_⟩
    by_cases e:j=i
    · subst e
      rw [updH_same] at hd
      rcases st.key d hd with k|⟨y,hy,e,_⟩
      · omega
      · rw [←e];exact o2 j y hy
    · rw [jao _ _ e] at hd;exact o2 j d hd
  · rw [ja0];exact c.tj.own rfl hlt rfl rfl st c.sat (fun j hj=>c.apart j i hj) s1 (fun b hb=>s2 b hb i) hG hcl _ _
  · rw [ja0] at hj
    rw [jao _ _ zO];exact c.out j hj
theorem CoreC.sync (c:CoreC B W old Shp wa r cl Gone Live Heir Say gs w t Hl) {i:Nat} {g g':Goroutine} {es:Array Event} {cl':Bool} (hi:gs[i]?=some g) (hst:stepG P (i==0) g w= .go g' w' es) (q:QuietC r g') {hi':Hp}
    (sat2:Sat B (hi'++Shp') w') (size:w'.heap.size=w.heap.size) (os:w'.os=w.os) (out:w'.output=w.output) (tape:w'.tape=w.tape) (hold: ∀b,(∀c∈Shp,c.b≠b)→ ¬old b→w'.heap[b]?=w.heap[b]?) (keys:Shp'.map (·.b)=Shp.map (·.b)) (rw': ∀c∈Shp',c.rw=true)
    (ch:jr6 r cl' old Shp' w') (key: ∀x∈hi',∃y∈Hl i,y.b=x.b∧(x.rw=true→y.rw=true))
    (tj':TC B.size w.heap.size gs.size (jcr Hl i hi') (fun b=>old b∨ ∃c∈Shp,c.b=b) wa (r.getD 0) cl' Gone' Live' Heir' Say' (t++MemOp.ofEvents i g.frame.fn g.frame.place es)):
    runT P (crowd gs w sl) i=(.next (crowd (after P g g' w' gs i) w' sl),MemOp.ofEvents i g.frame.fn g.frame.place es)∧
      CoreC B W old Shp' wa r cl' Gone' Live' Heir' Say' (after P g g' w' gs i) w' (t++MemOp.ofEvents i g.frame.fn g.frame.place es) (jcr Hl i hi'):=by
  have hlt:i<gs.size:=(gH.1 hi).1
  have keep: ∀j,∀d∈Hl j,w'.heap[d.b]?=w.heap[d.b]?:=fun j d hd=>hold d.b (fun x hx he=>c.apS j x hx d hd (.inl (c.shB x hx)) he) fun ho=>(c.oldB _ ho).2 j d hd rfl
  have far': ∀j,j≠i→ApH hi' (Hl j):=fun j hj x hx d hd hor=>by
    obtain ⟨y,hy,e1,hr⟩:=key x hx
    rw [←e1];exact c.apart i j (fun e=>hj e.symm) y hy d hd (hor.imp hr id)
  have shk: ∀x∈Shp',∃y∈Shp,y.b=x.b:=fun x hx=>(jkK keys x.b).1 ⟨x,hx,rfl⟩
  obtain ⟨p1,p2,p3⟩:=gq.1 sat2.apart
  have mono: ∀{X:Hp},X.Sublist (hi'++Shp')→Sat B X w':=fun {X} hX=>⟨sat2.base,fun d hd=>sat2.mem d (hX.subset hd),sat2.apart.sublist hX⟩
  refine ⟨runT_crowd_go hi hst,fun j=>?_,mono (gM _ _),fun j k hjk=>?_,fun j=>?_,rw',fun b hb=>?_,?_,⟨os.trans c.far.1,out.trans c.far.2.1,tape.trans c.far.2.2⟩,fun j hj=>?_,jhs c.quiet (fun q e=>(ch q e).2.2) q,ch⟩
  · by_cases ej:j=i
    · subst ej;rw [updH_same];exact mono (gI _ _)
    · rw [jao _ _ ej];exact ⟨sat2.base,fun d hd=>⟨((c.sat j).mem d hd).1,by rw [keep j d hd];exact ((c.sat j).mem d hd).2⟩,(c.sat j).apart⟩
  · by_cases e1:j=i
    · subst e1
      rw [updH_same,jao _ _ (fun e=>hjk e.symm)];exact far' k (fun e=>hjk e.symm)
    · rw [jao _ _ e1];by_cases e2:k=i
      · subst e2;rw [updH_same]
        exact ApH.symm (far' j e1)
      · rw [jao _ _ e2];exact c.apart j k hjk
  · by_cases ej:j=i
    · subst ej;rw [updH_same]
      exact fun x hx d hd hor he=>p3 d hd x hx hor.symm he.symm
    · rw [jao _ _ ej];intro x hx d hd hor
      obtain ⟨y,hy,e1⟩:=shk x hx
      rw [←e1];exact c.apS j y hy d hd (.inl (c.shB y hy))
  · obtain ⟨o1,o2⟩:=c.oldB b hb
    refine ⟨⟨o1.1,by rw [size];exact o1.2⟩,fun j d hd=>?_⟩
    by_cases ej:j=i
    · subst ej;rw [updH_same] at hd
      obtain ⟨y,hy,e1,_⟩:=key d hd
      rw [←e1];exact o2 j y hy
    · rw [jao _ _ ej] at hd;exact o2 j d hd
  · rw [ja0,size];have:(fun b=>old b∨ ∃c∈Shp',c.b=b)=(fun b=>old b∨ ∃c∈Shp,c.b=b):=by
      funext b
      exact propext (or_congr Iff.rfl (jkK keys b))
    rw [this];exact tj'
  · rw [ja0] at hj
    rw [jao _ _ zO];exact c.out j hj
theorem CoreC.syncE (c:CoreC B W old Shp wa r cl Gone Live Heir Say gs w t Hl) {i:Nat} {g:Goroutine} {es:Array Event} (hi:gs[i]?=some g) (hst:stepG P (i==0) g w= .go g' w' es) (e:SEffQ B Shp Shp' w w') (q:QuietC r g') {hi':Hp} (k:Weak B (Hl i) hi')
    (tj':TC B.size w.heap.size gs.size (jcr Hl i hi') (fun b=>old b∨ ∃c∈Shp,c.b=b) wa (r.getD 0) cl Gone' Live' Heir' Say' (t++MemOp.ofEvents i g.frame.fn g.frame.place es)):
    runT P (crowd gs w sl) i=(.next (crowd (after P g g' w' gs i) w' sl),MemOp.ofEvents i g.frame.fn g.frame.place es)∧
      CoreC B W old Shp' wa r cl Gone' Live' Heir' Say' (after P g g' w' gs i) w' (t++MemOp.ofEvents i g.frame.fn g.frame.place es) (jcr Hl i hi'):=by
  refine c.sync hi hst q (e.sat hi' ((k.apps Shp).sat w (c.satAll i))) e.size e.same e.out e.tape (fun b hb _=>e.old b hb) e.keys e.rw (fun q hq=>?_) k.key tj'
  obtain ⟨o,n,k,tm,hk⟩:=c.chan q hq
  refine ⟨o,fun x hx he=>?_,k,tm,by rw [e.old q n];exact hk⟩
  obtain ⟨y,hy,ey⟩:=(jkK e.keys x.b).1 ⟨x,hx,rfl⟩
  exact n y hy (ey.trans he)
end
def fineC (Sh:Nat→Prop) (gone may:Prop) (d:Nat) (e:Event):Prop:=
  match e.loc with
  | .cell ad=>e.sync=true∧Sh ad.block∧(gone→0<d)
  | .mark .disable| .mark .enable| .mark (.acquire _)| .mark (.releaseMerge _)| .mark .noRoom| .mark (.extern _)=>True
  | .mark (.read ad)| .mark (.write ad)=>may∧Sh ad.block∧ ¬gone
  |_=>False
def jd1 (Sh:Nat→Prop) (gone may:Prop):Nat→List Event→Prop
  |_,[]=>True
  |d,e::l=>fineC Sh gone may d e∧jd1 Sh gone may (jeR d e) l
theorem jcM {Sh Sh':Nat→Prop} {G G' M M':Prop} (hS: ∀b,Sh b→Sh' b) (hG:G'→G) (hM:M→M'): ∀(l:List Event) (d:Nat),jd1 Sh G M d l→jd1 Sh' G' M' d l
  |[],_,_=>trivial
  |e::l,d,h=>by
    refine ⟨?_,jcM hS hG hM l _ h.2⟩
    have h1:=h.1
    obtain ⟨lc,wr,sy⟩:=e
    cases lc with
    |cell ad=>exact ⟨h1.1,hS _ h1.2.1,fun x=>h1.2.2 (hG x)⟩
    |mark m=>cases m<;>first|exact ⟨hM h1.1,hS _ h1.2.1,fun x=>h1.2.2 (hG x)⟩|trivial|exact h1
    |_=>exact h1
section
variable {n lim gn:Nat} {Hl:Nat→Hp} {r:Nat} {Gone Live Heir Say:Nat→Prop} {t:Trace}
theorem TC.ev (T:TC n lim gn Hl Sh wa r cl Gone Live Heir Say t) {i:Nat} (hg:i<gn) (hlv:Live i) (hSh: ∀b,Sh b→n≤b∧b<lim) (apH: ∀b,Sh b→ ∀g,∀c∈Hl g,c.b≠b) {e:Event} (hd:Deaf t i=d) (hcl:cl=true→i≠0→Gone i) (f:fineC Sh (Gone i) (Say i∧ ∀g,Say g→g=i) d e)
    (fn:FuncId) (pos:String):TC n lim gn Hl Sh wa r cl Gone Live Heir Say (t++ #[{g:=i,fn,pos,act:= .ofEvent e}])∧Deaf (t++ #[{g:=i,fn,pos,act:= .ofEvent e}]) i=jeR d e:=by
  refine ⟨T.one _ hg (fun _ _=>hlv) hSh apH (fun b hb=>?_) (fun a ha=>?_) (fun hG b hb=>?_) hcl,?_⟩
  · obtain ⟨l,wr,sy⟩:=e
    cases l with
    |cell ad=>
      obtain ⟨h1,h2,_⟩:=f
      simp only at h1
      subst h1
      have:b=⟨.cell ad,wr,.atomic⟩:=by simpa [MemAct.ofEvent,MemAct.touch?] using hb.symm
      subst this
      exact ⟨⟨_,rfl,h2⟩,.inl rfl⟩
    |mark m=>
      cases m with
      |read ad=>
        obtain ⟨h1,h2,_⟩:=f
        have:b=⟨.cell ad,false,.said⟩:=by simpa [MemAct.ofEvent,MemAct.touch?] using hb.symm
        subst this
        exact ⟨⟨_,rfl,h2⟩,.inr ⟨rfl,h1⟩⟩
      |write ad=>
        obtain ⟨h1,h2,_⟩:=f
        have:b=⟨.cell ad,true,.said⟩:=by simpa [MemAct.ofEvent,MemAct.touch?] using hb.symm
        subst this
        exact ⟨⟨_,rfl,h2⟩,.inr ⟨rfl,h1⟩⟩
      |_=>cases hb
    |_=>exact f.elim
  · obtain ⟨l,wr,sy⟩:=e
    cases l with
    |mark m=>cases m<;>first|(cases ha;done)|exact f.elim
    |cell ad=>cases ha
    |_=>exact f.elim
  · obtain ⟨l,wr,sy⟩:=e
    cases l with
    |cell ad=>
      obtain ⟨h1,h2,h3⟩:=f
      simp only at h1
      subst h1
      have:b=⟨.cell ad,wr,.atomic⟩:=by simpa [MemAct.ofEvent,MemAct.touch?] using hb.symm
      subst this
      exact ⟨rfl,by show 0<Deaf t i;rw [hd];exact h3 hG⟩
    |mark m=>
      cases m with
      |read ad=>exact absurd hG f.2.2
      |write ad=>exact absurd hG f.2.2
      |_=>cases hb
    |_=>exact f.elim
  · rw [Deaf_push,hd];obtain ⟨l,wr,sy⟩:=e
    cases l with
    |mark m=>cases m<;>simp [deafStep,MemAct.ofEvent,jeR]
    |cell ad=>simp [deafStep,MemAct.ofEvent,jeR]
    |_=>exact f.elim
theorem jok (t:Trace) (i:Nat) (fn:FuncId) (pos:String) (e:Event) (l:List Event):t++MemOp.ofEvents i fn pos (e::l).toArray=t++ #[{g:=i,fn,pos,act:= .ofEvent e}]++MemOp.ofEvents i fn pos l.toArray:=by
  rw [ofEvents_eq,ofEvents_eq,Array.append_assoc];congr 1
  apply vG
  simp
theorem TC.evs (T:TC n lim gn Hl Sh wa r cl Gone Live Heir Say t) {i:Nat} (hg:i<gn) (hlv:Live i) (hSh: ∀b,Sh b→n≤b∧b<lim) (apH: ∀b,Sh b→ ∀g,∀c∈Hl g,c.b≠b) (hd:Deaf t i=d) (hcl:cl=true→i≠0→Gone i) (fn:FuncId) (pos:String):
    ∀(l:List Event),jd1 Sh (Gone i) (Say i∧ ∀g,Say g→g=i) d l→TC n lim gn Hl Sh wa r cl Gone Live Heir Say (t++MemOp.ofEvents i fn pos l.toArray):=by
  intro l
  induction l generalizing t d with
  |nil=>intro _;simpa [ofEvents_eq] using T
  |cons e l ih=>
    intro f
    obtain ⟨T1,hd1⟩:=T.ev hg hlv hSh apH hd hcl f.1 fn pos
    rw [jok];exact ih T1 hd1 f.2
theorem TC.mutes (T:TC n lim gn Hl Sh wa r cl Gone Live Heir Say t) {i:Nat} (hg:i<gn) (hSh: ∀b,Sh b→n≤b∧b<lim) (apH: ∀b,Sh b→ ∀g,∀c∈Hl g,c.b≠b) (hcl:cl=true→i≠0→Gone i) (fn:FuncId) (pos:String):
    ∀(l:List Event),(∀e∈l,Event.mute e=true)→TC n lim gn Hl Sh wa r cl Gone Live Heir Say (t++MemOp.ofEvents i fn pos l.toArray):=by
  intro l
  induction l generalizing t with
  |nil=>intro _;simpa [ofEvents_eq] using T
  |cons e l ih=>
    intro f
    have hm:=f e gk
    have ht:(MemAct.ofEvent e).touch?=none∧ ∀a,MemAct.ofEvent e≠ .mark (.release a):=by
      obtain ⟨lc,wr,sy⟩:=e
      cases lc with
      |mark m=>cases m<;>first|(exfalso;cases hm;done)|exact ⟨rfl,fun a h=>by cases h⟩
      |_=>cases hm
    have no: ∀{X:Prop} b,(MemAct.ofEvent e).touch?=some b→X:=fun {X} b hb=>by rw [ht.1] at hb;cases hb
    have T1:=T.one {g:=i,fn,pos,act:= .ofEvent e} hg (fun b hb=>no b hb) hSh apH (fun b hb=>no b hb) ht.2 (fun _ b hb=>no b hb) hcl
    rw [jok];exact ih T1 fun e he=>f e (gN _ he)
theorem TC.word (T:TC n lim gn Hl Sh wa r cl Gone Live Heir Say t) (y:MemOp) (hg:y.g<gn) (hSh: ∀b,Sh b→n≤b∧b<lim) (apH: ∀b,Sh b→ ∀g,∀c∈Hl g,c.b≠b) (hy:y.act.touch?=none) (nr: ∀a,y.act≠ .mark (.release a)) (hcl:cl=true→y.g≠0→Gone y.g):TC n lim gn Hl Sh wa r cl Gone Live Heir Say (t++ #[y]):=
  T.one y hg (fun b hb=>by rw [hy] at hb;cases hb) hSh apH (fun b hb=>by rw [hy] at hb;cases hb) nr (fun _ b hb=>by rw [hy] at hb;cases hb) hcl
end
structure ProC where
  S:Type
  wa:Addr
  r:Nat
  Inv:Bool→Hp→(Nat→Option S)→Prop
  Blk:S→Hp→Prop
  gone:S→Prop
  heir:S→Prop
  say:S→Prop
  Msg:Value→Hp→S→S→Prop
  fin: ∀Shp F,Inv true Shp F→ ∀j,j≠0→F j=none
def jdP (Q:ProC) (F:Nat→Option Q.S):Nat→Prop:=fun i=>i≠0∧ ∀s,F i=some s→Q.gone s
def je9 (Q:ProC) (F:Nat→Option Q.S):Nat→Prop:=fun i=>i=0∨F i≠none
def jhz (Q:ProC) (F:Nat→Option Q.S):Nat→Prop:=fun i=> ∃s,F i=some s∧Q.heir s
def jpy (Q:ProC) (F:Nat→Option Q.S):Nat→Prop:=fun i=> ∃s,F i=some s∧Q.say s
def jkn (Q:ProC) (s s':Q.S):Prop:=(Q.gone s'→Q.gone s)∧(Q.heir s'→Q.heir s)∧(Q.say s'→Q.say s)
section
variable {Q:ProC} {F:Nat→Option Q.S} {i:Nat} {s:Q.S}
theorem joe (hi:i≠0) (h:F i=some s):jdP Q F i↔Q.gone s:=
  ⟨fun g=>g.2 s h,fun g=>⟨hi,fun s' h'=>by rw [h] at h';obtain rfl:=gF h';exact g⟩⟩
theorem jkQ {j:Nat} (o:Option Q.S) (e:j≠i):jdP Q (ja6 F i o) j↔jdP Q F j:=by unfold jdP;rw [jam _ _ e]
theorem jdY {o:Option Q.S} (h:F i=some s): ∀j,je9 Q (ja6 F i o) j→je9 Q F j:=by
  intro j hj
  by_cases e:j=i
  · subst e;exact .inr (by rw [h];simp)
  · unfold je9 at hj⊢;rwa [jam _ _ e] at hj
theorem jlZ {o:Option Q.S} (h:F i=some s) (hg: ∀s',o=some s'→Q.gone s'→Q.gone s) (hn:o=none→Q.gone s): ∀j,jdP Q (ja6 F i o) j→jdP Q F j:=by
  intro j hj
  by_cases e:j=i
  · subst e
    refine (joe hj.1 h).2 ?_
    cases o with
    |none=>exact hn rfl
    |some s'=>exact hg s' rfl (hj.2 s' (updS_same _ _ _))
  · exact (jkQ o e).1 hj
theorem jiE {o:Option Q.S} (h:F i=some s) (hg: ∀s',o=some s'→Q.heir s'→Q.heir s): ∀j,jhz Q (ja6 F i o) j→jhz Q F j:=by
  rintro j ⟨x,hx,hh⟩;by_cases e:j=i
  · subst e
    rw [updS_same] at hx
    exact ⟨s,h,hg x hx hh⟩
  · rw [jam _ _ e] at hx;exact ⟨x,hx,hh⟩
theorem jeY {o:Option Q.S} (h:F i=some s) (hg: ∀s',o=some s'→Q.say s'→Q.say s): ∀j,jpy Q (ja6 F i o) j→jpy Q F j:=by
  rintro j ⟨x,hx,hh⟩;by_cases e:j=i
  · subst e
    rw [updS_same] at hx
    exact ⟨s,h,hg x hx hh⟩
  · rw [jam _ _ e] at hx;exact ⟨x,hx,hh⟩
end
inductive SOutC (P:Program) (B:Array Obj) (Q:ProC) (i d:Nat) (s:Q.S) (h Shp:Hp) (cl:Bool) (F:Nat→Option Q.S) (g:Goroutine) (w:World) (K':Nat→Option Q.S→Goroutine→Hp→Prop):GStep→Prop
  |act {g':Goroutine} {w':World} {l:List Event} {Shp':Hp} {o:Option Q.S} (e:SEffQ B Shp Shp' w w') (wk:Shp'=Shp∨mayWake P g=true) (hs:g'.status= .running) (f:jd1 (fun b=> ∃c∈Shp,c.b=b) (Q.gone s) (Q.say s∧ ∀j x,F j=some x→Q.say x→j=i) d l)
      (hgo: ∀s',o=some s'→jkn Q s s') (hno:o=none→Q.gone s∧h=[]) (inv:Q.Inv cl Shp' (ja6 F i o)) (k:K' (l.foldl jeR d) o g' h):SOutC P B Q i d s h Shp cl F g w K' (.go g' w' l.toArray)
  |bye {g':Goroutine} {s':Q.S} (hs:g'.status= .running) (hd:d=0) (hg: ¬Q.gone s∧Q.gone s'∧ ¬Q.heir s'∧(Q.say s'→Q.say s)) (hi:i≠0) (nh: ∀j x,F j=some x→ ¬Q.heir x) (inv:Q.Inv cl Shp (ja6 F i (some s'))) (k:K' d (some s') g' []):SOutC P B Q i d s h Shp cl F g w K' (.go g' w #[⟨.mark (.releaseMerge Q.wa),false,true⟩])
  |join {g':Goroutine} {s':Q.S} (hs:g'.status= .running) (hd:d=0) (hg:(Q.gone s'→Q.gone s)∧(Q.say s'→Q.say s)) (inv:Q.Inv cl Shp (ja6 F i (some s'))) (k:K' d (some s') g' h):SOutC P B Q i d s h Shp cl F g w K' (.go g' w #[⟨.mark (.acquire Q.wa),false,true⟩])
  |close {g':Goroutine} {n:Nat} {tm:Bool} (hs:g'.status= .running) (hd:d=0) (hi:i≠0) (ho:cl=false) (wk:mayWake P g=true) (hc:w.heap[Q.r]?=some (.chan 0 #[] false n n tm)) (hh:Q.heir s∧h=[]) (hng: ¬Q.gone s) (hall: ∀j x,j≠0→j≠i→F j=some x→Q.gone x) (inv:Q.Inv true Shp (ja6 F i none)) (k:K' d none g' h):
      SOutC P B Q i d s h Shp cl F g w K' (.go g' {w with heap:=w.heap.setIfInBounds Q.r (.chan 0 #[] true n n tm)} #[⟨.obj Q.r,false,true⟩,⟨.obj Q.r,true,true⟩])
  |block (hi:i≠0) (hb:Q.Blk s Shp):SOutC P B Q i d s h Shp cl F g w K' (.go {g with status:= .blocked} w #[])
inductive CRunC (P:Program) (B:Array Obj) (Q:ProC) (i:Nat):Nat→Q.S→Goroutine→Hp→Prop
  |step {d:Nat} {s:Q.S} {g:Goroutine} {h:Hp} (K':Goroutine→Hp→Prop) (hg: ¬Q.gone s) (st:LStep P B false g h K') (n: ∀g' h',K' g' h'→CRunC P B Q i d s g' h'):CRunC P B Q i d s g h
  |idle {d:Nat} {s:Q.S} {g g':Goroutine} {h:Hp} (hs:g.status= .running) (e: ∀w,stepG P false g w= .go g' w #[]) (n:CRunC P B Q i d s g' h):CRunC P B Q i d s g h
  |weak {d:Nat} {s:Q.S} {g:Goroutine} {h h':Hp} (k:Weak B h h') (n:CRunC P B Q i d s g h'):CRunC P B Q i d s g h
  |sync {d:Nat} {s:Q.S} {g:Goroutine} {h:Hp} (K':Nat→Option Q.S→Goroutine→Hp→Prop) (hs:g.status= .running) (ho:g.offers=none)
      (st: ∀cl Shp F w,Q.Inv cl Shp F→F i=some s→Sat B (h++Shp) w→(∃n tm,w.heap[Q.r]?=some (.chan 0 #[] cl n n tm))→SOutC P B Q i d s h Shp cl F g w K' (stepG P false g w))
      (n: ∀d' s' g' h',K' d' (some s') g' h'→CRunC P B Q i d' s' g' h') (q: ∀d' g' h',K' d' none g' h'→ ∃k,QuitsD P k d' g'):CRunC P B Q i d s g h
  |send {s s':Q.S} {g:Goroutine} {hr hp:Hp} {v z:Value} (hs:g.status= .running) (hst:jkn Q s s') (e: ∀w,Sat B (hr++hp) w→stepG P false g w= .comm g #[scase Q.r v z] true .send w #[]) (m:Q.Msg v hp s s')
      (n:CRunC P B Q i 0 s' (Conc.served g undef) hr):CRunC P B Q i 0 s g (hr++hp)
inductive CRunCT (P:Program) (B:Array Obj) (Q:ProC) (i:Nat):TrU→Nat→Q.S→Goroutine→Hp→Prop
  |step {f:Goroutine×Hp→TrU} {d:Nat} {s:Q.S} {g:Goroutine} {h:Hp} (K':Goroutine→Hp→Prop) (hg: ¬Q.gone s) (st:LStep P B false g h K') (n: ∀g' h',K' g' h'→CRunCT P B Q i (f (g',h')) d s g' h'):CRunCT P B Q i (.node _ f) d s g h
  |idle {T:TrU} {d:Nat} {s:Q.S} {g g':Goroutine} {h:Hp} (hs:g.status= .running) (e: ∀w,stepG P false g w= .go g' w #[]) (n:CRunCT P B Q i T d s g' h):CRunCT P B Q i (.node Unit fun _=>T) d s g h
  |weak {T:TrU} {d:Nat} {s:Q.S} {g:Goroutine} {h h':Hp} (k:Weak B h h') (n:CRunCT P B Q i T d s g h'):CRunCT P B Q i T d s g h
  |sync {f:Nat×Option Q.S×Goroutine×Hp→TrU} {d:Nat} {s:Q.S} {g:Goroutine} {h:Hp} (K':Nat→Option Q.S→Goroutine→Hp→Prop) (hs:g.status= .running) (ho:g.offers=none)
      (st: ∀cl Shp F w,Q.Inv cl Shp F→F i=some s→Sat B (h++Shp) w→(∃n tm,w.heap[Q.r]?=some (.chan 0 #[] cl n n tm))→SOutC P B Q i d s h Shp cl F g w K' (stepG P false g w))
      (n: ∀d' s' g' h',K' d' (some s') g' h'→CRunCT P B Q i (f (d',some s',g',h')) d' s' g' h') (q: ∀d' g' h',K' d' none g' h'→ ∃k,QuitsD P k d' g'∧f (d',none,g',h')= .ofNat k):CRunCT P B Q i (.node _ f) d s g h
  |send {T:TrU} {s s':Q.S} {g:Goroutine} {hr hp:Hp} {v z:Value} (hs:g.status= .running) (hst:jkn Q s s') (e: ∀w,Sat B (hr++hp) w→stepG P false g w= .comm g #[scase Q.r v z] true .send w #[]) (m:Q.Msg v hp s s')
      (n:CRunCT P B Q i T 0 s' (Conc.served g undef) hr):CRunCT P B Q i (.node Unit fun _=> .node Unit fun _=>T) 0 s g (hr++hp)
theorem CRunCT.running {P:Program} {Q:ProC} {i:Nat} {s:Q.S} {g:Goroutine} (c:CRunCT P B Q i T d s g h):g.status= .running:=by
  induction c with
  |step K' hg s _ _=>exact s.1
  |idle hs=>exact hs
  |weak k _ ih=>exact ih
  |sync K' hs=>exact hs
  |send hs=>exact hs
theorem CRunC.tree {P:Program} {Q:ProC} {i:Nat} {s:Q.S} {g:Goroutine} (r:CRunC P B Q i d s g h): ∃T,CRunCT P B Q i T d s g h:=by
  classical
  induction r with
  | @step d s g h K' hg st _ ih=>
    have: ∃f:Goroutine×Hp→TrU,∀g' h',K' g' h'→CRunCT P B Q i (f (g',h')) d s g' h':=by
      refine ⟨fun x=>if y:K' x.1 x.2 then Classical.choose (ih x.1 x.2 y) else .leaf,fun g' h' y=>?_⟩
      simp only [y,dif_pos]
      exact Vy (ih g' h' y)
    obtain ⟨f,hf⟩:=this
    exact ⟨.node _ f,.step K' hg st hf⟩
  |idle hs e _ ih=>obtain ⟨T,hT⟩:=ih;exact ⟨_,.idle hs e hT⟩
  |weak k _ ih=>obtain ⟨T,hT⟩:=ih;exact ⟨T,.weak k hT⟩
  | @sync d s g h K' hs ho st n q ih=>
    have: ∃f:Nat×Option Q.S×Goroutine×Hp→TrU,(∀d' s' g' h',K' d' (some s') g' h'→CRunCT P B Q i (f (d',some s',g',h')) d' s' g' h')∧ ∀d' g' h',K' d' none g' h'→ ∃k,QuitsD P k d' g'∧f (d',none,g',h')= .ofNat k:=by
      refine ⟨fun x=>match x with
        |(d',some s',g',h')=>if y:K' d' (some s') g' h' then Classical.choose (ih d' s' g' h' y) else .leaf
        |(d',none,g',h')=>if y:K' d' none g' h' then .ofNat (Classical.choose (q d' g' h' y)) else .leaf,fun d' s' g' h' y=>?_,fun d' g' h' y=>?_⟩
      · simp only [y,dif_pos]
        exact Vy (ih d' s' g' h' y)
      · refine ⟨Classical.choose (q d' g' h' y),Vy (q d' g' h' y),?_⟩
        simp only [y,dif_pos]
    obtain ⟨f,h1,h2⟩:=this
    exact ⟨.node _ f,.sync K' hs ho st h1 h2⟩
  |send hs hst e m _ ih=>obtain ⟨T,hT⟩:=ih;exact ⟨_,.send hs hst e m hT⟩
inductive KidC (P:Program) (B:Array Obj) (Q:ProC) (i:Nat) (Shp:Hp):TrU→Nat→Option Q.S→Goroutine→Hp→Prop
  |run {T:TrU} {d:Nat} {s:Q.S} {g:Goroutine} {h:Hp} (c:CRunCT P B Q i T d s g h):KidC P B Q i Shp T d (some s) g h
  |wait {T:TrU} {d:Nat} {s:Q.S} {g:Goroutine} {h:Hp} (c:CRunCT P B Q i T d s {g with status:= .running} h) (hb:g.status= .blocked) (ho:g.offers=none) (b:Q.Blk s Shp):KidC P B Q i Shp T d (some s) g h
  |post {T:TrU} {s s':Q.S} {g:Goroutine} {hr hp:Hp} {v z:Value} (hst:jkn Q s s') (m:Q.Msg v hp s s') (n:CRunCT P B Q i T 0 s' (Conc.served g undef) hr):KidC P B Q i Shp (.node Unit fun _=>T) 0 (some s) (parked g #[scase Q.r v z] .send) (hr++hp)
  |left {k d:Nat} {g:Goroutine} (q:QuitsD P k d g):KidC P B Q i Shp (.ofNat k) d none g []
theorem ji4 {g:Goroutine} (h:g.status= .running):jbJ cl g=g:=by unfold jbJ;rw [if_neg (by rw [h];decide)]
theorem jg3 {g:Goroutine} (h:g.status≠ .blocked):jbJ cl g=g:=by unfold jbJ;rw [if_neg h]
theorem KidC.wake {P:Program} {Q:ProC} {i:Nat} {o:Option Q.S} {g:Goroutine} (k:KidC P B Q i Shp T d o g h) (hcl:cl=true→o=none):KidC P B Q i Shp' T d o (jbJ cl g) h:=by
  cases k with
  |run c=>rw [ji4 c.running];exact .run c
  |wait c hb ho b=>unfold jbJ;rw [if_pos hb,if_pos (by rw [ho];rfl)];exact .run c
  |post hst m n=>
    cases cl with
    |true=>cases hcl rfl
    |false=>exact .post hst m n
  |left q=>rw [jg3 (by rcases q.status with h|h<;>rw [h]<;>decide)];exact .left q
structure CfC (P:Program) (B:Array Obj) (W:World) (Q:ProC) (old:Nat→Prop) (F:Nat→Option Q.S) (cl:Bool) (Shp:Hp) (gs:Array Goroutine) (w:World) (t:Trace) (Hl:Nat→Hp) (Tf:Nat→TrU) (Dl:Nat→Nat):Prop where
  core:CoreC B W old Shp Q.wa (some Q.r) cl (jdP Q F) (je9 Q F) (jhz Q F) (jpy Q F) gs w t Hl
  inv:Q.Inv cl Shp F
  deaf: ∀i,Deaf t i=Dl i
  kids: ∀(i:Nat) g,i≠0→gs[i]?=some g→KidC P B Q i Shp (Tf i) (Dl i) (F i) g (Hl i)
  dom: ∀i,gs.size≤i→F i=none
theorem CfC.shut {P:Program} {Q:ProC} {F:Nat→Option Q.S} {w:World} {t:Trace} {Hl:Nat→Hp} {Tf:Nat→TrU} {Dl:Nat→Nat} (c:CfC P B W Q old F cl Shp gs w t Hl Tf Dl) (h:cl=true) {i:Nat} (hi:i≠0):F i=none:=Q.fin Shp F (h▸c.inv) i hi
theorem CfC.shutG {P:Program} {Q:ProC} {F:Nat→Option Q.S} {w:World} {t:Trace} {Hl:Nat→Hp} {Tf:Nat→TrU} {Dl:Nat→Nat} (c:CfC P B W Q old F cl Shp gs w t Hl Tf Dl) (h:cl=true) {i:Nat} (hi:i≠0):jdP Q F i:=⟨hi,fun s hs=>by rw [c.shut h hi] at hs;cases hs⟩
section
variable {P:Program} {cl cl':Bool} {Gone Gone' Live Live' Heir Heir' Say Say':Nat→Prop} {w w':World} {t:Trace} {Hl Hl':Nat→Hp} {sl:Option (Nat×Nat)}
theorem CoreC.plain (c:CoreC B W old Shp wa r cl Gone Live Heir Say gs w t Hl) {i:Nat} {g:Goroutine} {l:List Event} (hi:gs[i]?=some g) (hst:stepG P (i==0) g w= .go g' w' l.toArray) (e:SEffQ B Shp Shp' w w') (q:QuietC r g') (hlv:Live i) (hd:Deaf t i=d) (hcl:cl=true→i≠0→Gone i)
    (f:jd1 (fun b=> ∃c∈Shp,c.b=b) (Gone i) (Say i∧ ∀g,Say g→g=i) d l) (hL: ∀g,Live' g→Live g) (hG: ∀g,Gone' g→Gone g) (hH: ∀g,Heir' g→Heir g) (hS: ∀g,Say' g→Say g):
    runT P (crowd gs w sl) i=(.next (crowd (after P g g' w' gs i) w' sl),MemOp.ofEvents i g.frame.fn g.frame.place l.toArray)∧
      CoreC B W old Shp' wa r cl Gone' Live' Heir' Say' (after P g g' w' gs i) w' (t++MemOp.ofEvents i g.frame.fn g.frame.place l.toArray) Hl:=by
  have hlt:i<gs.size:=(gH.1 hi).1
  obtain ⟨s1,s2⟩:=c.shared
  have T:=(c.tj.evs hlt hlv s1 s2 hd hcl g.frame.fn g.frame.place l (jcM (fun b h=> .inr h) id id l d f)).less hL hG hH hS
  have e1:jcr Hl i (Hl i)=Hl:=by funext j;by_cases e:j=i<;>simp [jcr,e]
  have:=c.syncE (P:=P) (sl:=sl) hi hst e q (hi':=Hl i) (Weak.refl _ _) (Gone':=Gone') (Live':=Live') (Heir':=Heir') (Say':=Say') (by rw [e1];exact T)
  rw [e1] at this
  exact this
theorem CoreC.slip (c:CoreC B W old Shp wa r cl Gone Live Heir Say gs w t Hl) {i:Nat} {g:Goroutine} {es:Array Event} (hi:gs[i]?=some g) (hst:stepG P (i==0) g w= .go g' w es) (hm: ∀e∈es,Event.mute e=true) (hcl:cl=true→i≠0→Gone i) (q:QuietC r g'):
    runT P (crowd gs w sl) i=(.next (crowd (after P g g' w gs i) w sl),MemOp.ofEvents i g.frame.fn g.frame.place es)∧
      CoreC B W old Shp wa r cl Gone Live Heir Say (after P g g' w gs i) w (t++MemOp.ofEvents i g.frame.fn g.frame.place es) Hl:=by
  have hlt:i<gs.size:=(gH.1 hi).1
  obtain ⟨s1,s2⟩:=c.shared
  have T:=c.tj.mutes hlt s1 s2 hcl g.frame.fn g.frame.place es.toList fun e he=>hm e (xB.1 he)
  have e1:jcr Hl i (Hl i)=Hl:=by funext j;by_cases e:j=i<;>simp [jcr,e]
  have:=c.syncE (P:=P) (sl:=sl) hi hst (SEffQ.refl c.shB) q (hi':=Hl i) (Weak.refl _ _) (Gone':=Gone) (Live':=Live) (Heir':=Heir) (Say':=Say) (by rw [e1];exact T)
  rw [e1] at this
  exact this
variable {Q:ProC} {F F':Nat→Option Q.S} {Tf:Nat→TrU} {Dl:Nat→Nat}
theorem jcg (q: ∀(i:Nat) g,gs[i]?=some g→QuietC (some Q.r) g) (ch: ∀q,some Q.r=some q→ ∃k tm,w'.heap[q]?=some (.chan 0 #[] cl' k k tm)) (kids: ∀(i:Nat) g,i≠0→gs[i]?=some g→KidC P B Q i Shp (Tf i) (Dl i) (F i) g (Hl i)) {g:Goroutine} {i:Nat} (hs:Shp'=Shp∨(mayWake P g&&g'.status != .blocked&&g'.status != .waiting)=true)
    {j:Nat} {x:Goroutine} (hj0:j≠0) (hji:j≠i) (hcl:cl'=true→F j=none) (hx:(after P g g' w' gs i)[j]?=some x):KidC P B Q j Shp' (Tf j) (Dl j) (F j) x (Hl j):=by
  have hlt:j<gs.size:=by have:=(gH.1 hx).1;rwa [ja0] at this
  have hy:gs[j]?=some gs[j]:=gR hlt
  rw [jbU q ch (fun e=>hji e.symm) hy] at hx
  obtain rfl:=gF hx
  have k:=kids j _ hj0 hy
  split
  · exact k.wake hcl
  · rename_i hn
    rcases hs with rfl|h
    · exact k
    · exact absurd h hn
def MovedC (P:Program) (B:Array Obj) (W:World) (Q:ProC) (old:Nat→Prop) (F:Nat→Option Q.S) (cl:Bool) (gs:Array Goroutine) (w:World) (sl:Option (Nat×Nat)) (t:Trace) (Hl:Nat→Hp) (Tf:Nat→TrU) (Dl:Nat→Nat) (i:Nat) (g:Goroutine):Prop:=
  ∃g' w' u F' cl' Shp' Hl' Tf' Dl',runT P (crowd gs w sl) i=(.next (crowd (after P g g' w' gs i) w' sl),u)∧CfC P B W Q old F' cl' Shp' (after P g g' w' gs i) w' (t++u) Hl' Tf' Dl'∧Hl' 0=Hl 0∧F' 0=F 0∧Dl' 0=Dl 0∧(g'.status= .blocked→g'.offers=none)∧
    (cl'=cl∨(mayWake P g&&g'.status != .blocked&&g'.status != .waiting)=true)∧(ULt gs.size Tf' Tf∨(Tf'=Tf∧g'.status= .blocked))
end
section
variable {P:Program} {Q:ProC} {F:Nat→Option Q.S} {w:World} {t:Trace} {Hl:Nat→Hp} {Tf:Nat→TrU} {Dl:Nat→Nat} {sl:Option (Nat×Nat)}
def AtPost (P:Program) (B:Array Obj) (Q:ProC) (F:Nat→Option Q.S) (w:World) (Hl:Nat→Hp) (Tf:Nat→TrU) (Dl:Nat→Nat) (i:Nat) (g:Goroutine):Prop:=
  ∃(s s':Q.S) (hr hp:Hp) (v z:Value) (T:TrU),F i=some s∧Weak B (Hl i) (hr++hp)∧Dl i=0∧stepG P false g w= .comm g #[scase Q.r v z] true .send w #[]∧Q.Msg v hp s s'∧jkn Q s s'∧Tf i= .node Unit (fun _=> .node Unit fun _=>T)∧CRunCT P B Q i T 0 s' (Conc.served g undef) hr
theorem jiW (c:CfC P B W Q old F cl Shp gs w t Hl Tf Dl): ∃n tm,w.heap[Q.r]?=some (.chan 0 #[] cl n n tm):=(c.core.chan Q.r rfl).2.2
theorem kidC_run {i:Nat} {s:Q.S} {g:Goroutine} (r:CRunCT P B Q i T d s g h) (hi0:i≠0):
    ∀(Hl:Nat→Hp),gs[i]?=some g→Hl i=h→Tf i=T→Dl i=d→F i=some s→CfC P B W Q old F cl Shp gs w t Hl Tf Dl→MovedC P B W Q old F cl gs w sl t Hl Tf Dl i g∨AtPost P B Q F w Hl Tf Dl i g:=by
  have hz:(i==0)=false:=by simpa using hi0
  have sz: ∀{g g':Goroutine} {w':World} {j:Nat},(after P g g' w' gs i).size≤j→gs.size≤j:=fun h=>by rwa [ja0] at h
  induction r with
  | @weak T d s g h h' k n ih=>
    intro Hl hi hh hT hD hF c
    have c':CfC P B W Q old F cl Shp gs w t (jcr Hl i h') Tf Dl:=⟨c.core.weak (by rw [hh];exact k),c.inv,c.deaf,fun j x hj hx=>by
      by_cases e:j=i
      · subst e
        rw [hi] at hx
        obtain rfl:=gF hx
        rw [updH_same,hT,hD,hF];exact .run n
      · rw [jao _ _ e];exact c.kids j x hj hx,c.dom⟩
    rcases ih (jcr Hl i h') hi (updH_same _ _ _) hT hD hF c' with ⟨g',w',u,F',cl',Shp',Hl',Tf',Dl',r1,r2,r3,r4⟩|⟨s0,s',hr,hp,v,z,T',a1,a2,a3⟩
    · exact .inl ⟨g',w',u,F',cl',Shp',Hl',Tf',Dl',r1,r2,by rw [r3,jao _ _ (fun e=>hi0 e.symm)],r4⟩
    · rw [updH_same] at a2
      exact .inr ⟨s0,s',hr,hp,v,z,T',a1,by rw [hh];exact k.trans a2,a3⟩
  | @step f d s g h K' hg st n ih=>
    intro Hl hi hh hT hD hF c
    have hlt:i<gs.size:=(gH.1 hi).1
    obtain ⟨g',w',es,h',hs,stp,hk⟩:=st.2 w (by rw [←hh];exact c.core.sat i)
    have hrun:=(n g' h' hk).running
    have hcl:cl=true→i=0:=fun h=>by have:=c.shut h hi0;rw [hF] at this;cases this
    obtain ⟨r1,r2⟩:=c.core.own (P:=P) (sl:=sl) hi (by rw [hz];exact hs) (by rw [hh];exact stp) (fun x=>hg (x.2 s hF)) hcl (.runs hrun)
    refine .inl ⟨g',w',_,F,cl,Shp,_,jlb Tf i (f (g',h')),Dl,r1,⟨r2,c.inv,fun j=>(jkY stp t i _ _ j).trans (c.deaf j),fun j x hj hx=>?_,fun j hj=>c.dom j (sz hj)⟩,jao _ _ (fun e=>hi0 e.symm),rfl,rfl,(fun h=>by rw [hrun] at h;cases h),.inl rfl,.inl (jd8 hlt (by rw [hT];exact TrU.lt f (g',h')))⟩
    by_cases e:j=i
    · subst e
      rw [jbb hi] at hx
      obtain rfl:=gF hx
      rw [updH_same,updU_same,hD,hF];exact .run (n _ _ hk)
    · rw [jao _ _ e,jd7 _ _ e];exact jcg c.core.quiet r2.wake c.kids (.inl rfl) hj e (fun h=>c.shut h hj) hx
  | @idle T d s g g' h hs e n ih=>
    intro Hl hi hh hT hD hF c
    have hlt:i<gs.size:=(gH.1 hi).1
    have hrun:=n.running
    obtain ⟨r1,r2⟩:=c.core.plain (P:=P) (sl:=sl) (l:=[]) hi (by rw [hz];exact e w) (SEffQ.refl c.core.shB) (.runs hrun) (.inr (by rw [hF];simp)) rfl (fun h h'=>c.shutG h h') trivial (fun _ h=>h) (fun _ h=>h) (fun _ h=>h) (fun _ h=>h)
    refine .inl ⟨g',w,_,F,cl,Shp,Hl,jlb Tf i T,Dl,r1,⟨r2,c.inv,fun j=>by rw [show MemOp.ofEvents i g.frame.fn g.frame.place (List.toArray [])= #[] by simp [ofEvents_eq],Vj];exact c.deaf j,fun j x hj hx=>?_,fun j hj=>c.dom j (sz hj)⟩,rfl,rfl,rfl,(fun h=>by rw [hrun] at h;cases h),.inl rfl,.inl (jd8 hlt (by rw [hT];exact TrU.lt (fun _:Unit=>T) ()))⟩
    by_cases ej:j=i
    · subst ej
      rw [jbb hi] at hx
      obtain rfl:=gF hx
      rw [hh,updU_same,hD,hF];exact .run n
    · rw [jd7 _ _ ej];exact jcg c.core.quiet r2.wake c.kids (.inl rfl) hj ej (fun h=>c.shut h hj) hx
  | @send T s s' g hr hp v z hs hst e m n ih=>
    intro Hl hi hh hT hD hF c
    exact .inr ⟨s,s',hr,hp,v,z,T,hF,by rw [hh];exact Weak.refl _ _,hD,e w (by rw [←hh];exact c.core.sat i),m,hst,hT,n⟩
  | @sync f d s g h K' hs ho st n q ih=>
    intro Hl hi hh hT hD hF c
    left
    have hlt:i<gs.size:=(gH.1 hi).1
    have so:=st cl Shp F w c.inv hF (by rw [←hh];exact c.core.satAll i) (jiW c)
    have hGi:=joe (F:=F) hi0 hF
    have hlv:je9 Q F i:= .inr (by rw [hF];simp)
    have hdeaf:Deaf t i=d:=(c.deaf i).trans hD
    have hclG:cl=true→i≠0→jdP Q F i:=fun h h'=>c.shutG h h'
    have hclF:cl=false:=by
      cases cl with
      |false=>rfl
      |true=>have:=c.shut rfl hi0;rw [hF] at this;cases this
    --the others
    have oth: ∀{g':Goroutine} {w':World} {Shp':Hp} {o:Option Q.S} {Tn:TrU} {dn:Nat} {cl':Bool} (ch: ∀q,some Q.r=some q→ ∃k tm,w'.heap[q]?=some (.chan 0 #[] cl' k k tm)) (hfin:cl'=true→ ∀j,j≠0→ja6 F i o j=none) (hs:Shp'=Shp∨(mayWake P g&&g'.status != .blocked&&g'.status != .waiting)=true) (hn:Hp) {j:Nat} {x:Goroutine},j≠0→j≠i→(after P g g' w' gs i)[j]?=some x→
        KidC P B Q j Shp' (jlb Tf i Tn j) (jmr Dl i dn j) (ja6 F i o j) x (jcr Hl i hn j):=fun {g' w' Shp' o Tn dn cl'} ch hfin hsw hn {j x} hj e hx=>by
      have hf:=fun h=>hfin h j hj
      rw [jam _ _ e] at hf
      rw [jd7 _ _ e,jcs _ _ e,jam _ _ e,jao _ _ e];exact jcg c.core.quiet ch c.kids hsw hj e hf hx
    have deafs: ∀(es:Array Event) (dn:Nat),deafBehind d es=dn→ ∀j,Deaf (t++MemOp.ofEvents i g.frame.fn g.frame.place es) j=jmr Dl i dn j:=fun es dn hdn j=>by
      by_cases e:j=i
      · subst e;rw [updN_same,Deaf_own,hdeaf,hdn]
      · rw [jcs _ _ e,Deaf_other t (fun x=>e x.symm) _ fun op hop=>by obtain ⟨e',_,rfl⟩:=jdO hop;rfl];exact c.deaf j
    have doms: ∀(o:Option Q.S) (j:Nat),gs.size≤j→ja6 F i o j=none:=fun o j hj=>by rw [jam _ _ zO];exact c.dom j hj
    have nofin: ∀{o:Option Q.S},cl=true→ ∀j,j≠0→ja6 F i o j=none:=fun h=>by rw [hclF] at h;cases h
    obtain ⟨s1,s2⟩:=c.core.shared
    generalize hst:stepG P false g w=stp at so
    cases so with
    | @act g' w' l Shp' o e wk hs' fl hgo hno inv k=>
      have hw:Shp'=Shp∨(mayWake P g&&g'.status != .blocked&&g'.status != .waiting)=true:=wk.imp id fun h=>by rw [h,hs'];rfl
      have hG:jdP Q F i=Q.gone s:=propext hGi
      obtain ⟨r1,r2⟩:=c.core.plain (P:=P) (sl:=sl) (Gone':=jdP Q (ja6 F i o)) (Live':=je9 Q (ja6 F i o)) (Heir':=jhz Q (ja6 F i o)) (Say':=jpy Q (ja6 F i o)) hi (by rw [hz];exact hst) e (.runs hs') hlv hdeaf hclG (by
        rw [hG];exact jcM (fun _ h=>h) id (fun h=>⟨⟨s,hF,h.1⟩,fun j hj=>by obtain ⟨x,hx,hs⟩:=hj;exact h.2 j x hx hs⟩) l d fl) (jdY hF) (jlZ hF (fun s' e=>(hgo s' e).1) fun e=>(hno e).1) (jiE hF fun s' e=>(hgo s' e).2.1) (jeY hF fun s' e=>(hgo s' e).2.2)
      refine ⟨g',w',_,ja6 F i o,cl,Shp',jcr Hl i h,jlb Tf i (f (l.foldl jeR d,o,g',h)),jmr Dl i (l.foldl jeR d),r1,⟨by rw [←hh,updH_same'];exact r2,inv,deafs _ _ (jeS d l),fun j x hj hx=>?_,fun j hj=>doms o j (sz hj)⟩,jao _ _ (fun e=>hi0 e.symm),jam _ _ (fun e=>hi0 e.symm),jcs _ _ (fun e=>hi0 e.symm),
        (fun h=>by rw [hs'] at h;cases h),.inl rfl,.inl (jd8 hlt (by rw [hT];exact TrU.lt f _))⟩
      by_cases ej:j=i
      · subst ej
        rw [jbb hi] at hx
        obtain rfl:=gF hx
        rw [updH_same,updU_same,updN_same,updS_same];cases o with
        |none=>
          obtain ⟨k',hq,he⟩:=q _ _ _ k
          rw [he,(hno rfl).2];exact .left hq
        |some s'=>exact .run (n _ _ _ _ k)
      · exact oth r2.wake nofin hw h hj ej hx
    | @bye g' s' hs' hd hg hi0' nh inv k=>
      have hy:=jir i g.frame.fn g.frame.place (.releaseMerge Q.wa)
      have T':=c.core.tj.word {g:=i,fn:=g.frame.fn,pos:=g.frame.place,act:= .mark (.releaseMerge Q.wa)} hlt s1 s2 rfl (fun a ha=>by cases ha) hclG
      have T2:=c.core.tj.bye (Gone':=jdP Q (ja6 F i (some s'))) rfl (hdeaf.trans hd) T' (fun j hj=>by
        by_cases e:j=i
        · exact .inr e
        · exact .inl ((jkQ _ e).1 hj)) (fun j hj=>by obtain ⟨x,hx,hh⟩:=hj;exact nh j x hx hh)
      have T3:=(T2.less (Live':=je9 Q (ja6 F i (some s'))) (Heir':=jhz Q (ja6 F i (some s'))) (Say':=jpy Q (ja6 F i (some s'))) (jdY hF) (fun _ h=>h) (jiE hF fun s2 e h=>by obtain rfl:=gF e;exact absurd h hg.2.2.1) (jeY hF fun s2 e h=>by obtain rfl:=gF e;exact hg.2.2.2 h)).weak (Hl':=jcr Hl i []) (gL _) (fun j x hx=>by
        by_cases e:j=i
        · subst e;rw [updH_same] at hx;simp at hx
        · rw [jao _ _ e] at hx;exact ⟨x,hx,rfl,id⟩)
      obtain ⟨r1,r2⟩:=c.core.syncE (P:=P) (sl:=sl) (hi':=[]) hi (by rw [hz];exact hst) (SEffQ.refl c.core.shB) (.runs hs') (Weak.sub (Ge _)) (by rw [hy];exact T3)
      refine ⟨g',w,_,ja6 F i (some s'),cl,Shp,jcr Hl i [],jlb Tf i (f (d,some s',g',[])),jmr Dl i d,r1,⟨r2,inv,deafs _ _ rfl,fun j x hj hx=>?_,fun j hj=>doms _ j (sz hj)⟩,jao _ _ (fun e=>hi0 e.symm),jam _ _ (fun e=>hi0 e.symm),jcs _ _ (fun e=>hi0 e.symm),
        (fun h=>by rw [hs'] at h;cases h),.inl rfl,.inl (jd8 hlt (by rw [hT];exact TrU.lt f _))⟩
      by_cases ej:j=i
      · subst ej
        rw [jbb hi] at hx
        obtain rfl:=gF hx
        rw [updH_same,updU_same,updN_same,updS_same];exact .run (n _ _ _ _ k)
      · exact oth r2.wake nofin (.inl rfl) _ hj ej hx
    | @join g' s' hs' hd hg inv k=>
      have hy:=jir i g.frame.fn g.frame.place (.acquire Q.wa)
      have T':=c.core.tj.word {g:=i,fn:=g.frame.fn,pos:=g.frame.place,act:= .mark (.acquire Q.wa)} hlt s1 s2 rfl (fun a ha=>by cases ha) hclG
      have T2:=c.core.tj.inherit (Heir':=jhz Q (ja6 F i (some s'))) rfl (hdeaf.trans hd) T' (fun j hj=>by
        by_cases e:j=i
        · exact .inr e
        · obtain ⟨x,hx,hh⟩:=hj
          rw [jam _ _ e] at hx
          exact .inl ⟨x,hx,hh⟩)
      have T3:=T2.less (Live':=je9 Q (ja6 F i (some s'))) (Gone':=jdP Q (ja6 F i (some s'))) (Say':=jpy Q (ja6 F i (some s'))) (jdY hF) (jlZ hF (fun s2 e h=>by obtain rfl:=gF e;exact hg.1 h) (fun e=>by cases e)) (fun _ h=>h) (jeY hF fun s2 e h=>by obtain rfl:=gF e;exact hg.2 h)
      obtain ⟨r1,r2⟩:=c.core.syncE (P:=P) (sl:=sl) (hi':=Hl i) hi (by rw [hz];exact hst) (SEffQ.refl c.core.shB) (.runs hs') (Weak.refl _ _) (by rw [hy,updH_same'];exact T3)
      refine ⟨g',w,_,ja6 F i (some s'),cl,Shp,jcr Hl i h,jlb Tf i (f (d,some s',g',h)),jmr Dl i d,r1,⟨by rw [←hh];exact r2,inv,deafs _ _ rfl,fun j x hj hx=>?_,fun j hj=>doms _ j (sz hj)⟩,jao _ _ (fun e=>hi0 e.symm),jam _ _ (fun e=>hi0 e.symm),jcs _ _ (fun e=>hi0 e.symm),
        (fun h=>by rw [hs'] at h;cases h),.inl rfl,.inl (jd8 hlt (by rw [hT];exact TrU.lt f _))⟩
      by_cases ej:j=i
      · subst ej
        rw [jbb hi] at hx
        obtain rfl:=gF hx
        rw [updH_same,updU_same,updN_same,updS_same];exact .run (n _ _ _ _ k)
      · exact oth r2.wake nofin (.inl rfl) _ hj ej hx
    | @close g' nn tm hs' hd hi0' ho' wk hc hhe hng hall inv k=>
      subst ho'
      obtain ⟨o1,o2,_⟩:=c.core.chan Q.r rfl
      have hy:MemOp.ofEvents i g.frame.fn g.frame.place #[⟨.obj Q.r,false,true⟩,⟨.obj Q.r,true,true⟩]= #[{g:=i,fn:=g.frame.fn,pos:=g.frame.place,act:= .access ⟨.obj Q.r,false,true⟩}]++ #[{g:=i,fn:=g.frame.fn,pos:=g.frame.place,act:= .close Q.r}]:=by simp [ofEvents_eq,MemAct.ofEvent]
      have T0:=c.core.tj.one {g:=i,fn:=g.frame.fn,pos:=g.frame.place,act:= .access ⟨.obj Q.r,false,true⟩} hlt (fun _ _=>hlv) s1 s2 (fun b hb=>by
        have:b=⟨.obj Q.r,false,.atomic⟩:=by simpa [MemAct.touch?] using hb.symm
        subst this
        exact ⟨⟨_,rfl,.inl o1⟩,.inl rfl⟩) (fun a ha=>by cases ha) (fun hG=>absurd (hGi.1 hG) hng) hclG
      have hd0:Deaf (t++ #[{g:=i,fn:=g.frame.fn,pos:=g.frame.place,act:= .access ⟨.obj Q.r,false,true⟩}]) i=0:=by rw [Deaf_push];simp [deafStep,hdeaf,hd]
      have T':=T0.word {g:=i,fn:=g.frame.fn,pos:=g.frame.place,act:= .close Q.r} hlt s1 s2 rfl (fun a ha=>by cases ha) hclG
      have T2:=T0.close (Gone':=jdP Q (ja6 F i none)) (Heir':=jhz Q (ja6 F i none)) (y:={g:=i,fn:=g.frame.fn,pos:=g.frame.place,act:= .close Q.r}) rfl hd0 T' ⟨s,hF,hhe.1⟩ (fun j hj _ hji=>⟨hj,fun x hx=>hall j x hj hji hx⟩)
      have T3:=T2.less (Live':=je9 Q (ja6 F i none)) (Say':=jpy Q (ja6 F i none)) (jdY hF) (fun _ h=>h) (fun _ h=>h) (jeY hF fun s2 e h=>by cases e)
      obtain ⟨⟨ob1,ob2⟩,ob3⟩:=c.core.oldB _ o1
      have get: ∀b,b≠Q.r→(w.heap.setIfInBounds Q.r (.chan 0 #[] true nn nn tm))[b]?=w.heap[b]?:=fun b hb=>GC fun e=>hb e.symm
      have hnr: ∀x∈Hl i++Shp,x.b≠Q.r:=fun x hx=>by
        rcases gQ.1 hx with hx|hx
        · exact ob3 i x hx
        · exact o2 x hx
      have satw:Sat B (Hl i++Shp) {w with heap:=w.heap.setIfInBounds Q.r (.chan 0 #[] true nn nn tm)}:=by
        have sA:=c.core.satAll i
        exact ⟨fun b o hb=>by
          have hbB:=(gH.1 hb).1
          show (w.heap.setIfInBounds Q.r _)[b]?=_
          rw [get b zO];exact sA.base b o hb,fun x hx=>⟨(sA.mem x hx).1,by
          show (w.heap.setIfInBounds Q.r _)[x.b]?=_
          rw [get x.b (hnr x hx)];exact (sA.mem x hx).2⟩,sA.apart⟩
      obtain ⟨r1,r2⟩:=c.core.sync (P:=P) (sl:=sl) (hi':=Hl i) (Shp':=Shp) (cl':=true) hi (by rw [hz];exact hst) (.runs hs') satw zS rfl rfl rfl (fun b _ hb=>get b fun e=>hb (e▸o1)) rfl c.core.shB (fun q hq=>by
          obtain rfl:=gF hq
          exact ⟨o1,o2,nn,tm,GL ob2⟩) (fun x hx=>⟨x,hx,rfl,id⟩) (by rw [hy,updH_same',←Array.append_assoc];exact T3)
      refine ⟨g',_,_,ja6 F i none,true,Shp,jcr Hl i h,jlb Tf i (f (d,none,g',h)),jmr Dl i d,r1,⟨by rw [←hh];exact r2,inv,deafs _ _ rfl,fun j x hj hx=>?_,fun j hj=>doms _ j (sz hj)⟩,jao _ _ (fun e=>hi0 e.symm),jam _ _ (fun e=>hi0 e.symm),jcs _ _ (fun e=>hi0 e.symm),
        (fun h=>by rw [hs'] at h;cases h),.inr (by rw [wk,hs'];rfl),.inl (jd8 hlt (by rw [hT];exact TrU.lt f _))⟩
      by_cases ej:j=i
      · subst ej
        rw [jbb hi] at hx
        obtain rfl:=gF hx
        rw [updH_same,updU_same,updN_same,updS_same];obtain ⟨k',hq,he⟩:=q _ _ _ k
        rw [he,hhe.2];exact .left hq
      · exact oth r2.wake (fun _ j hj=>Q.fin Shp _ inv j hj) (.inl rfl) _ hj ej hx
    |block hi0' hb=>
      obtain ⟨r1,r2⟩:=c.core.plain (P:=P) (sl:=sl) (l:=[]) (g':={g with status:= .blocked}) hi (by rw [hz];exact hst) (SEffQ.refl c.core.shB) (.blocks rfl ho) hlv rfl hclG trivial (fun _ h=>h) (fun _ h=>h) (fun _ h=>h) (fun _ h=>h)
      refine ⟨_,w,_,F,cl,Shp,Hl,Tf,Dl,r1,⟨r2,c.inv,fun j=>by rw [show MemOp.ofEvents i g.frame.fn g.frame.place (List.toArray [])= #[] by simp [ofEvents_eq],Vj];exact c.deaf j,fun j x hj hx=>?_,fun j hj=>c.dom j (sz hj)⟩,rfl,rfl,rfl,fun _=>ho,.inl rfl,.inr ⟨rfl,rfl⟩⟩
      by_cases ej:j=i
      · subst ej
        rw [jbb hi] at hx
        obtain rfl:=gF hx
        rw [hh,hT,hD,hF];refine .wait ?_ rfl ho hb
        have:({{g with status:= .blocked} with status:= .running}:Goroutine)=g:=by
          obtain ⟨a,b,c,d,e⟩:=g
          simp only at hs
          subst hs
          rfl
        rw [this];exact .sync K' hs ho st n q
      · exact jcg c.core.quiet r2.wake c.kids (.inl rfl) hj ej (fun h=>c.shut h hj) hx
end
section
variable {P:Program} {Gone Gone' Live Live' Heir Heir' Say Say':Nat→Prop} {w w':World} {t:Trace} {Hl Hl':Nat→Hp} {sl:Option (Nat×Nat)}
theorem joV {i:Nat} (c: ∀(i:Nat) g,gs[i]?=some g→QuietC r g) (q:QuietC r g'): ∀(j:Nat) g,(gs.setIfInBounds i g')[j]?=some g→QuietC r g:=by
  intro j g hj
  rcases jm0 hj with ⟨_,rfl⟩|⟨_,hj'⟩
  · exact q
  · exact c j g hj'
theorem CoreC.park (c:CoreC B W old Shp wa r cl Gone Live Heir Say gs w t Hl) {i:Nat} (q:QuietC r g'):CoreC B W old Shp wa r cl Gone Live Heir Say (gs.setIfInBounds i g') w t Hl:=
  ⟨c.sat,c.satS,c.apart,c.apS,c.shB,c.oldB,by rw [GM];exact c.tj,c.far,fun j hj=>c.out j (by simpa using hj),joV c.quiet q,c.chan⟩
theorem CoreC.meet (c:CoreC B W old Shp wa r cl Gone Live Heir Say gs w t Hl) {i q:Nat} {tm:Bool} {hp:Hp} (hi0:i≠0) (hlt:i<gs.size) (h0:0<gs.size) (hq:r=some q) (hch:w.heap[q]?=some (.chan 0 #[] cl n n tm)) (hh:Hl i=hr++hp) (hdi:Deaf t i=0) (hd0:Deaf t 0=0)
    (fh:FuncId) (ph':String) (fj:FuncId) (pj:String) (gs':Array Goroutine) (hgs:gs'.size=gs.size) (qn: ∀(l:Nat) x,gs'[l]?=some x→QuietC r x):
    CoreC B W old Shp wa r cl Gone Live Heir Say gs' ((w.at d).setChan q 0 #[] cl (n+1) (n+1) tm) (t++met i 0 fh ph' fj pj q n 0) (jcr (jcr Hl i hr) 0 (Hl 0++hp)):=by
  obtain ⟨o1,o2,_⟩:=c.chan q hq
  obtain ⟨⟨ob1,ob2⟩,ob3⟩:=c.oldB q o1
  have hget: ∀b,b≠q→((w.at d).setChan q 0 #[] cl (n+1) (n+1) tm).heap[b]?=w.heap[b]?:=fun b hb=>GC fun e=>hb e.symm
  have hsz:((w.at d).setChan q 0 #[] cl (n+1) (n+1) tm).heap.size=w.heap.size:=by simp [World.setChan,World.at]
  have satK: ∀{X:Hp},Sat B X w→(∀x∈X,x.b≠q)→Sat B X ((w.at d).setChan q 0 #[] cl (n+1) (n+1) tm):=fun {X} sX hX=>⟨fun b o hb=>by
    have:=(gH.1 hb).1
    rw [hget b zO];exact sX.base b o hb,fun x hx=>⟨(sX.mem x hx).1,by rw [hget x.b (hX x hx)];exact (sX.mem x hx).2⟩,sX.apart⟩
  have si:=c.sat i
  rw [hh] at si
  obtain ⟨ai1,ai2,ai3⟩:=gq.1 si.apart
  have mi: ∀z,(z∈hr∨z∈hp)→z∈Hl i:=fun z hz=>by rw [hh];exact gQ.2 hz
  have key: ∀l,∀z∈jcr (jcr Hl i hr) 0 (Hl 0++hp) l,(l=0∧z∈Hl 0)∨(l=0∧z∈hp)∨(l=i∧z∈hr)∨(l≠0∧l≠i∧z∈Hl l):=fun l z hz=>by
    by_cases e:l=0
    · subst e;rw [updH_same] at hz
      rcases gQ.1 hz with h|h
      · exact .inl ⟨rfl,h⟩
      · exact .inr (.inl ⟨rfl,h⟩)
    · rw [jao _ _ e] at hz
      by_cases e2:l=i
      · subst e2;rw [updH_same] at hz;exact .inr (.inr (.inl ⟨rfl,hz⟩))
      · rw [jao _ _ e2] at hz;exact .inr (.inr (.inr ⟨e,e2,hz⟩))
  have from': ∀l,∀z∈jcr (jcr Hl i hr) 0 (Hl 0++hp) l,∃l',z∈Hl l':=fun l z hz=>by
    rcases key l z hz with ⟨_,m⟩|⟨_,m⟩|⟨_,m⟩|⟨_,_,m⟩
    · exact ⟨0,m⟩
    · exact ⟨i,mi z (.inr m)⟩
    · exact ⟨i,mi z (.inl m)⟩
    · exact ⟨l,m⟩
  refine ⟨fun l=>?_,satK c.satS o2,fun l l' hl z hz z' hz' hor=>?_,fun l x hx z hz hor=>?_,c.shB,fun b hb=>⟨⟨(c.oldB b hb).1.1,by rw [hsz];exact (c.oldB b hb).1.2⟩,fun l z hz=>?_⟩,?_,c.far,fun l hl=>?_,qn,fun q' hq'=>?_⟩
  · by_cases e:l=0
    · subst e;rw [updH_same]
      refine satK ⟨si.base,fun x hx=>?_,gq.2 ⟨(c.sat 0).apart,ai2,fun a ha b hb=>c.apart 0 i (fun e=>hi0 e.symm) a ha b (mi b (.inr hb))⟩⟩ fun x hx=>?_
      · rcases gQ.1 hx with h|h
        · exact (c.sat 0).mem x h
        · exact si.mem x (GF _ h)
      · rcases gQ.1 hx with h|h
        · exact ob3 0 x h
        · exact ob3 i x (mi x (.inr h))
    · rw [jao _ _ e];by_cases e2:l=i
      · subst e2;rw [updH_same]
        exact satK ⟨si.base,fun x hx=>si.mem x (GN _ hx),ai1⟩ fun x hx=>ob3 l x (mi x (.inl hx))
      · rw [jao _ _ e2];exact satK (c.sat l) (ob3 l)
  · rcases key l z hz with ⟨e1,m1⟩|⟨e1,m1⟩|⟨e1,m1⟩|⟨e1,e1',m1⟩<;>rcases key l' z' hz' with ⟨e2,m2⟩|⟨e2,m2⟩|⟨e2,m2⟩|⟨e2,e2',m2⟩
    · exact absurd (e1.trans e2.symm) hl
    · exact absurd (e1.trans e2.symm) hl
    · exact c.apart 0 i (fun e=>hi0 e.symm) z m1 z' (mi z' (.inl m2)) hor
    · exact c.apart 0 l' (fun e=>e2 e.symm) z m1 z' m2 hor
    · exact absurd (e1.trans e2.symm) hl
    · exact absurd (e1.trans e2.symm) hl
    · exact fun e=>ai3 z' m2 z m1 hor.symm e.symm
    · exact c.apart i l' (fun e=>e2' e.symm) z (mi z (.inr m1)) z' m2 hor
    · exact c.apart i 0 hi0 z (mi z (.inl m1)) z' m2 hor
    · exact ai3 z m1 z' m2 hor
    · exact absurd (e1.trans e2.symm) hl
    · exact c.apart i l' (fun e=>e2' e.symm) z (mi z (.inl m1)) z' m2 hor
    · exact c.apart l 0 e1 z m1 z' m2 hor
    · exact c.apart l i e1' z m1 z' (mi z' (.inr m2)) hor
    · exact c.apart l i e1' z m1 z' (mi z' (.inl m2)) hor
    · exact c.apart l l' hl z m1 z' m2 hor
  · obtain ⟨l',hl'⟩:=from' l z hz
    exact c.apS l' x hx z hl' hor
  · obtain ⟨l',hl'⟩:=from' l z hz
    exact (c.oldB b hb).2 l' z hl'
  · rw [hsz,hgs];exact c.tj.meet hi0 hlt h0 (fun x hx=>⟨x,mi x (.inl hx),rfl,id⟩) (fun x hx=>⟨x,mi x (.inr hx),rfl,id⟩) hdi hd0 _ _ _ _ _ _ _
  · rw [hgs] at hl
    rw [jao _ _ zO,jao _ _ zO];exact c.out l hl
  · rw [hq] at hq'
    obtain rfl:=gF hq'
    exact ⟨o1,o2,n+1,tm,by simp only [World.setChan,World.at];exact GL ob2⟩
theorem CoreC.spawn (c:CoreC B W old Shp wa r cl Gone Live Heir Say gs w t Hl) {g g' child:Goroutine} {hg hc:Hp} (hi:gs[0]?=some g) (hst:stepG P true g w= .spawn g' child w #[]) (k1:Weak B (Hl 0) hg) (k2:Weak B (Hl 0) hc) (ap:ApH hg hc) (q:QuietC r g') (qc:QuietC r child)
    (hlv:Live 0) (hsy:Say 0) (hlv': ∀j,Live' j→Live j∨j=gs.size) (hsy': ∀j,Say' j→Say j∨j=gs.size) (hd:Deaf t 0=0) (hG': ∀j,Gone' j→Gone j) (hH': ∀j,Heir' j→Heir j):
    runT P (crowd gs w sl) 0=(.next (crowd ((gs.setIfInBounds 0 g').push child) w sl),#[{g:=0,fn:=g.frame.fn,pos:=g.frame.place,act:= .go gs.size},{g:=gs.size,fn:=child.frame.fn,pos:=g.frame.place,act:= .start}])∧
      CoreC B W old Shp wa r cl Gone' Live' Heir' Say' ((gs.setIfInBounds 0 g').push child) w (t++ #[{g:=0,fn:=g.frame.fn,pos:=g.frame.place,act:= .go gs.size},{g:=gs.size,fn:=child.frame.fn,pos:=g.frame.place,act:= .start}]) (jcr (jcr Hl 0 hg) gs.size hc):=by
  have hlt:0<gs.size:=(gH.1 hi).1
  have key: ∀j,∀d∈jcr (jcr Hl 0 hg) gs.size hc j,(j=gs.size∧d∈hc)∨(j=0∧d∈hg)∨(j≠0∧j≠gs.size∧d∈Hl j):=fun j d hd=>by
    by_cases e:j=gs.size
    · subst e;rw [updH_same] at hd;exact .inl ⟨rfl,hd⟩
    · rw [jao _ _ e] at hd
      by_cases e2:j=0
      · subst e2;rw [updH_same] at hd;exact .inr (.inl ⟨rfl,hd⟩)
      · rw [jao _ _ e2] at hd;exact .inr (.inr ⟨e2,e,hd⟩)
  have from0: ∀j,∀d∈jcr (jcr Hl 0 hg) gs.size hc j,∃l,∃x∈Hl l,x.b=d.b∧(d.rw=true→x.rw=true):=fun j d hd=>by
    rcases key j d hd with ⟨_,m⟩|⟨_,m⟩|⟨_,_,m⟩
    · obtain ⟨x,hx,h⟩:=k2.key d m;exact ⟨0,x,hx,h⟩
    · obtain ⟨x,hx,h⟩:=k1.key d m;exact ⟨0,x,hx,h⟩
    · exact ⟨j,d,m,rfl,id⟩
  refine ⟨?_,fun j=>?_,c.satS,fun j l hjl d hd x hx hor=>?_,fun j x hx d hd hor=>?_,c.shB,fun b hb=>⟨(c.oldB b hb).1,fun j d hd=>?_⟩,?_,c.far,fun j hj=>?_,fun j x hj=>?_,c.chan⟩
  · rw [runT_crowd_spawn (i:=0) hi hst];rfl
  · by_cases e:j=gs.size
    · subst e;rw [updH_same];exact k2.sat _ (c.sat 0)
    · rw [jao _ _ e];by_cases e2:j=0
      · subst e2;rw [updH_same];exact k1.sat _ (c.sat 0)
      · rw [jao _ _ e2];exact c.sat j
  · have old': ∀(l:Nat),l≠0→ ∀(y z:Chunk),y∈Hl l→(z∈hc∨z∈hg)→(y.rw=true∨z.rw=true)→y.b≠z.b:=fun l hl y z hy hz ho=>by
      rcases hz with hz|hz
      · obtain ⟨z',hz',e,r⟩:=k2.key z hz
        rw [←e];exact c.apart l 0 hl y hy z' hz' (ho.imp id r)
      · obtain ⟨z',hz',e,r⟩:=k1.key z hz
        rw [←e];exact c.apart l 0 hl y hy z' hz' (ho.imp id r)
    rcases key j d hd with ⟨e1,m1⟩|⟨e1,m1⟩|⟨e1,e1',m1⟩<;>rcases key l x hx with ⟨e2,m2⟩|⟨e2,m2⟩|⟨e2,e2',m2⟩
    · exact absurd (e1.trans e2.symm) hjl
    · exact ap.symm d m1 x m2 hor
    · exact fun e=>old' l e2 x d m2 (.inl m1) hor.symm e.symm
    · exact ap d m1 x m2 hor
    · exact absurd (e1.trans e2.symm) hjl
    · exact fun e=>old' l e2 x d m2 (.inr m1) hor.symm e.symm
    · exact old' j e1 d x m1 (.inl m2) hor
    · exact old' j e1 d x m1 (.inr m2) hor
    · exact c.apart j l hjl d m1 x m2 hor
  · obtain ⟨l,y,hy,e,r⟩:=from0 j d hd
    rw [←e];exact c.apS l x hx y hy (hor.imp id r)
  · obtain ⟨l,y,hy,e,r⟩:=from0 j d hd
    rw [←e];exact (c.oldB b hb).2 l y hy
  · rw [Array.size_push,GM];exact (c.tj.less (Live':=Live) (fun _ h=>h) hG' hH' (fun _ h=>h)).spawn hlt hlv hsy hlv' hsy' (gL _) k1.key k2.key hd _ _ _
  · simp only [Array.size_push,GM] at hj
    rw [jao _ _ zO,jao _ _ zO];exact c.out j zO
  · rw [Array.getElem?_push] at hj
    split at hj
    · exact (gF hj)▸qc
    · rcases jm0 hj with ⟨rfl,rfl⟩|⟨_,hj'⟩
      · exact q
      · exact c.quiet j x hj'
end
structure MStC where
  Q:ProC
  d:Nat
  s:Q.S
inductive MRunC (P:Program) (B:Array Obj) (K:Goroutine→Hp→Prop):Option MStC→Goroutine→Hp→Prop
  |stop {g:Goroutine} {h:Hp} (k:K g h):MRunC P B K none g h
  |step {M:Option MStC} {g:Goroutine} {h:Hp} (K':Goroutine→Hp→Prop) (s:LStep P B true g h K') (c: ∀g' h',K' g' h'→MRunC P B K M g' h'):MRunC P B K M g h
  |weak {M:Option MStC} {g:Goroutine} {h h':Hp} (k:Weak B h h') (c:MRunC P B K M g h'):MRunC P B K M g h
  |phase {g:Goroutine} {h' Shp:Hp} (Q:ProC) (s0:Q.S) (hrw: ∀c∈Shp,c.rw=true) (hs0: ¬Q.heir s0) (inv:Q.Inv false Shp (fun j=>if j=0 then some s0 else none)) (c:MRunC P B K (some ⟨Q,0,s0⟩) g h'):MRunC P B K none g (h'++Shp++[⟨true,Q.r,.chan 0 #[] false 0 0 false⟩])
  |sync {Q:ProC} {d:Nat} {s:Q.S} {g:Goroutine} {h:Hp} (K':Nat→Option Q.S→Goroutine→Hp→Prop) (hs:g.status= .running)
      (st: ∀cl Shp F w,Q.Inv cl Shp F→F 0=some s→Sat B (h++Shp) w→(∃n tm,w.heap[Q.r]?=some (.chan 0 #[] cl n n tm))→SOutC P B Q 0 d s h Shp cl F g w K' (stepG P true g w))
      (c: ∀d' s' g' h',K' d' (some s') g' h'→MRunC P B K (some ⟨Q,d',s'⟩) g' h') (nn: ∀d' g' h',¬K' d' none g' h'):MRunC P B K (some ⟨Q,d,s⟩) g h
  |spawn {Q:ProC} {s:Q.S} {g g' child:Goroutine} {h h' hc:Hp} (s' sc:Q.S) (hs:g.status= .running) (hs':g'.status= .running) (e: ∀w,Sat B h w→stepG P true g w= .spawn g' child w #[]) (k1:Weak B h h') (k2:Weak B h hc) (ap: ∀w,Sat B h w→ApH h' hc)
      (hg: ¬Q.gone sc∧ ¬Q.heir sc) (hh:Q.say s∧(Q.heir s'→Q.heir s)) (inv: ∀cl Shp F j,j≠0→Q.Inv cl Shp F→F 0=some s→F j=none→Q.Inv cl Shp (ja6 (ja6 F 0 (some s')) j (some sc))) (kid: ∀j,j≠0→CRunC P B Q j 0 sc child hc) (c:MRunC P B K (some ⟨Q,0,s'⟩) g' h'):MRunC P B K (some ⟨Q,0,s⟩) g h
  |recv {Q:ProC} {s:Q.S} {g:Goroutine} {h:Hp} {z:Value} (hs:g.status= .running) (e: ∀o w,Sat B h w→stepG P true {g with offers:=o} w= .comm g #[rcase Q.r z] true (.recv true) w #[])
      (lv: ∀Shp F,Q.Inv false Shp F→F 0=some s→ ∃i x,i≠0∧F i=some x∧ ¬Q.Blk x Shp)
      (nx:Value→Hp→Q.S→Q.S→Q.S)
      (ok: ∀v hp x x' Shp F i,Q.Msg v hp x x'→i≠0→Q.Inv false Shp F→F 0=some s→F i=some x→(Q.heir (nx v hp x x')→Q.heir s)∧(Q.say (nx v hp x x')→Q.say s)∧Q.Inv false Shp (ja6 (ja6 F i (some x')) 0 (some (nx v hp x x'))))
      (c: ∀v hp x x',Q.Msg v hp x x'→(∃Shp F i,i≠0∧Q.Inv false Shp F∧F 0=some s∧F i=some x)→MRunC P B K (some ⟨Q,0,nx v hp x x'⟩) (Conc.served g (.tuple #[v,.bool true])) (h++hp))
      (fin:(∃Shp F,Q.Inv true Shp F∧F 0=some s)→MRunC P B K none (Conc.served g (.tuple #[z,.bool false])) h):MRunC P B K (some ⟨Q,0,s⟩) g h
theorem MRunC.bind {P:Program} {M:Option MStC} {g:Goroutine} (r:MRunC P B K' M g h) (c: ∀g' h',K' g' h'→MRunC P B K none g' h'):MRunC P B K M g h:=by
  induction r with
  |stop k=>exact c _ _ k
  |step K'' s _ ih=>exact .step K'' s ih
  |weak k _ ih=>exact .weak k ih
  |phase Q s0 hrw hs0 inv _ ih=>exact .phase Q s0 hrw hs0 inv ih
  |sync K' hs st _ nn ih=>exact .sync K' hs st ih nn
  |spawn s' sc hs hs' e k1 k2 ap hg hh inv kid _ ih=>exact .spawn s' sc hs hs' e k1 k2 ap hg hh inv kid ih
  |recv hs e lv nx ok _ _ ih1 ih2=>exact .recv hs e lv nx ok ih1 ih2
theorem MRunC.running {P:Program} (hK: ∀g h,K g h→g.status= .running) {M:Option MStC} {g:Goroutine} (r:MRunC P B K M g h):g.status= .running:=by
  induction r with
  |stop k=>exact hK _ _ k
  |step K'' s _ _=>exact s.1
  |weak k _ ih=>exact ih
  |phase Q s0 hrw hs0 inv _ ih=>exact ih
  |sync K' hs=>exact hs
  |spawn s' sc hs=>exact hs
  |recv hs=>exact hs
def Md.starC (P:Program) (B:Array Obj):Md P B where
  main:=true
  R:=fun K g h=>MRunC P B K none g h
  stop:= .stop
  step:=fun s n=> .step _ s n
  bind:=fun r n=>r.bind n
  weak:=fun k n=> .weak k n
structure Cf0C (P:Program) (B:Array Obj) (W:World) (old:Nat→Prop) (wa:Addr) (gs:Array Goroutine) (w:World) (t:Trace) (Hl:Nat→Hp) (Tf:Nat→TrU) (Dl:Nat→Nat):Prop where
  core:CoreC B W old [] wa none false (fun i=>i≠0) (fun i=>i=0) (fun _=>False) (fun i=>i=0) gs w t Hl
  deaf: ∀i,Deaf t i=Dl i
  d0:Dl 0=0
  kids: ∀(i:Nat) g,i≠0→gs[i]?=some g→ ∃k,Tf i= .ofNat k∧QuitsD P k (Dl i) g∧Hl i=[]
  hk: ∀(i:Nat) (x:MemOp),t[i]?=some x→x.g≠0→t.counts i→Knows t 0 i
def FinC (P:Program) (B:Array Obj) (W:World) (K:Goroutine→Hp→Prop) (gs:Array Goroutine) (w:World) (sl:Option (Nat×Nat)) (t:Trace):Prop:=
  ∃(N:Nat) (g':Goroutine) (gs':Array Goroutine) (w':World) (sl':Option (Nat×Nat)) (t':Trace) (Hl':Nat→Hp) (Tf':Nat→TrU) (Dl':Nat→Nat) (old':Nat→Prop) (wa':Addr),
    runNT P N (crowd gs w sl) t=(.next (crowd gs' w' sl'),t')∧gs'[0]?=some g'∧K g' (Hl' 0)∧Cf0C P B W old' wa' gs' w' t' Hl' Tf' Dl'
theorem FinC.step {P:Program} {B:Array Obj} {W:World} {K:Goroutine→Hp→Prop} {gs gs1:Array Goroutine} {w w1:World} {sl sl1:Option (Nat×Nat)} {t u:Trace} (h:stepT P (crowd gs w sl)=(.next (crowd gs1 w1 sl1),u)) (f:FinC P B W K gs1 w1 sl1 (t++u)):FinC P B W K gs w sl t:=by
  obtain ⟨N,g',gs',w',sl',t',Hl',Tf',Dl',old',wa',hr,q⟩:=f
  exact ⟨N+1,g',gs',w',sl',t',Hl',Tf',Dl',old',wa',jjG h hr,q⟩
end Go.Lo
