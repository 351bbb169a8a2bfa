/- A part of the proof of a law. Condition of each theorem: as its statement says. -/
import Derived.Test.YtggpepeiedkbbaaGreatDoorVR3
set_option linter.all false
variable {D E:List Go.Lo.Cd} {must f d n q1:Nat} {C:List Go.Value→Go.Lo.Hp→Prop} {l l' l0:List Go.Value} {b:Go.Lo.Tb} {p:List Int} {B:Array Go.Obj} {ops:Array Go.Oper} {h h' hr Shp Shp':Go.Lo.Hp} {r:Option Nat} {ty t:Go.TypeId} {pos:String} {af:Array Go.Edge} {K K':Go.Goroutine→Go.Lo.Hp→Prop} {ps:Array Go.Tmp} {es:List (Int×Int)} {Hl':Nat→Go.Lo.Hp} {Sh Gone Gone' Live' Heir Heir' Say Say' Sh':Nat→Prop} {wa:Go.Addr} {cl:Bool} {w' W:Go.World} {gs:Array Go.Goroutine} {g':Go.Goroutine} {T:Go.Lo.TrU}
namespace Go.Lo
def jha (b:Tb) (c:Ce):Cd:=⟨c.st,c.butt,(jbg b c).lat,jcr (jci b c)⟩
def cdT (b:Tb):List Cd:=(jac b).map (jha b)
theorem jay (b:Tb):(cdT b).length=(jac b).length:=by simp [cdT]
theorem jaq (b:Tb) {i:Nat} (h:i<(jac b).length):dA (cdT b) i=jha b ((jac b).getD i default):=by
  simp only [cdT,gB,gk,gC h]
  rfl
theorem jpH (b:Tb) (a c:Ce) (ma mc:Int):riC (jha b a) (jha b c) ma mc=jaU b a c ma mc:=rfl
def jdB (D:List Cd) (can must:Nat):Nat→Nat→Bo→List Bo
  |0,_,x=>[x]
  |f+1,w,x=>
    (if must.testBit x.length then [] else ((dA D x.length).can.filter fun v=>jaB (dA D x.length) v D x).flatMap fun v=>jdB D can must f w (x++[some v]))++
    (if w=0∨can.testBit x.length=false then [] else jdB D can must f (w-1) (x++[none]))
def jfO (D:List Cd) (can must f w:Nat) (x:Bo) (j:Nat):List Bo:=
  (((dA D x.length).can.take j).filter fun v=>jaB (dA D x.length) v D x).flatMap fun v=>jdB D can must f w (x++[some v])
theorem joG (D:List Cd) (can must f w:Nat) (x:Bo):jfO D can must f w x 0=[]:=rfl
theorem jqP {can w:Nat} {x:Bo} {j:Nat} (hj:j<(dA D x.length).can.length) (h:jaB (dA D x.length) ((dA D x.length).can.getD j 0) D x=true):jfO D can must f w x (j+1)=jfO D can must f w x j++jdB D can must f w (x++[some ((dA D x.length).can.getD j 0)]):=by
  unfold jfO
  rw [GY,gC hj,Gh,GU,vS];have e:(dA D x.length).can[j]=(dA D x.length).can.getD j 0:=by rw [gB,gC hj];rfl
  rw [e,Gq,if_pos h];simp
theorem genMJ_no {can w:Nat} {x:Bo} {j:Nat} (hj:j<(dA D x.length).can.length) (h:jaB (dA D x.length) ((dA D x.length).can.getD j 0) D x=false):jfO D can must f w x (j+1)=jfO D can must f w x j:=by
  unfold jfO
  rw [GY,gC hj,Gh,GU,vS];have e:(dA D x.length).can[j]=(dA D x.length).can.getD j 0:=by rw [gB,gC hj];rfl
  rw [e,Gq,if_neg (by rw [h];simp)];simp
theorem jjk {can w:Nat} {x:Bo} {j:Nat} (hj:(dA D x.length).can.length≤j):jfO D can must f w x j=((dA D x.length).can.filter fun v=>jaB (dA D x.length) v D x).flatMap fun v=>jdB D can must f w (x++[some v]):=by
  rw [jfO,gf hj]
theorem genMJ_le {can w:Nat} {x:Bo} {j:Nat} (hm:must.testBit x.length=false):(jfO D can must f w x j).length≤(jdB D can must (f+1) w x).length:=by
  have e: ∀l:List Int,((l.filter fun v=>jaB (dA D x.length) v D x).flatMap fun v=>jdB D can must f w (x++[some v]))=(((l.take j).filter fun v=>jaB (dA D x.length) v D x).flatMap fun v=>jdB D can must f w (x++[some v]))++(((l.drop j).filter fun v=>jaB (dA D x.length) v D x).flatMap fun v=>jdB D can must f w (x++[some v])):=by
    intro l
    rw [←vS,←GU,Vr]
  rw [jdB,if_neg (by rw [hm];simp),e (dA D x.length).can,jfO];simp only [gJ]
  omega
theorem jlj {can w:Nat} {x:Bo} (hm:must.testBit x.length=true):jdB D can must (f+1) w x=if w=0∨can.testBit x.length=false then [] else jdB D can must f (w-1) (x++[none]):=by
  rw [jdB,if_pos hm,GC]
theorem jqO {can w:Nat} {x:Bo} (hm:must.testBit x.length=false) {j:Nat} (hj:(dA D x.length).can.length≤j):jdB D can must (f+1) w x=jfO D can must f w x j++if w=0∨can.testBit x.length=false then [] else jdB D can must f (w-1) (x++[none]):=by
  rw [jdB,if_neg (by rw [hm];simp),jjk hj]
theorem jd8 {d:Cd} {v:Int} {C:List Cd} {y:Bo}: ∀{E:List Cd} {x:Bo},x.length=E.length→ja0 E x (d::C) (some v::y)=(jaB d v E x&&ja0 E x C y)
  |[],[],_=>by simp [ja0,jaB]
  |[],_::_,h=>by simp at h
  |_::_,[],h=>by simp at h
  |e::E,some u::x,h=>by
    simp only [ja0,jaB]
    rw [jd8 (by simpa using h),jfv (a:=e)];cases riC d e v u<;>cases jaB e u C y<;>cases jaB d v E x<;>simp
  |e::E,none::x,h=>by
    simp only [ja0,jaB]
    exact jd8 (by simpa using h)
theorem jff {d:Cd} {C:List Cd} {y:Bo}: ∀{E:List Cd} {x:Bo},x.length=E.length→ja0 E x (d::C) (none::y)=ja0 E x C y
  |[],[],_=>by simp [ja0]
  |[],_::_,h=>by simp at h
  |_::_,[],h=>by simp at h
  |e::E,some u::x,h=>by
    simp only [ja0,jaB]
    rw [jff (by simpa using h)]
  |e::E,none::x,h=>by
    simp only [ja0]
    exact jff (by simpa using h)
theorem jd7 {d:Cd} {o:Option Int} {C:List Cd} {y:Bo}: ∀{E:List Cd} {x:Bo},x.length=E.length→ja0 (E++[d]) (x++[o]) C y=(ja0 E x C y&&ja0 [d] [o] C y)
  |[],[],_=>by simp [ja0]
  |[],_::_,h=>by simp at h
  |_::_,[],h=>by simp at h
  |e::E,some u::x,h=>by
    simp only [gm,ja0]
    rw [jd7 (by simpa using h),Bool.and_assoc]
  |e::E,none::x,h=>by
    simp only [gm,ja0]
    exact jd7 (by simpa using h)
theorem jdP {d:Cd} {v:Int} {C:List Cd}: ∀{E:List Cd} {x:Bo},x.length=E.length→jaB d v (E++C) x=jaB d v E x
  |[],[],_=>by cases C<;>simp [jaB]
  |[],_::_,h=>by simp at h
  |_::_,[],h=>by simp at h
  |e::E,some u::x,h=>by simp only [gm,jaB];rw [jdP (by simpa using h)]
  |e::E,none::x,h=>by simp only [gm,jaB];exact jdP (by simpa using h)
theorem jcw {α β:Type} (p:α→Bool) (f:α→List β): ∀l:List α,(l.filter p).flatMap f=l.flatMap fun a=>if p a=true then f a else []
  |[]=>rfl
  |a::l=>by
    rw [List.flatMap_cons,←jcw p f l,Gq];by_cases h:p a=true
    · rw [if_pos h,if_pos h,List.flatMap_cons]
    · rw [if_neg h,if_neg h,GC]
theorem jlz {d:Cd} {v:Int} {C:List Cd} {x:Bo} (hx:x.length=E.length) (l:List Bo):
    (((l.filter (jaB d v C)).map (some v:: ·)).filter (ja0 E x (d::C))).map (x++ ·)=if jaB d v E x=true then (l.filter (ja0 (E++[d]) (x++[some v]) C)).map ((x++[some v])++ ·) else []:=by
  rw [VC,Vx,List.filter_filter];by_cases h:jaB d v E x=true
  · rw [if_pos h];have e1:List.filter (fun y=>((ja0 E x (d::C))∘(some v:: ·)) y&&jaB d v C y) l=l.filter (ja0 (E++[d]) (x++[some v]) C):=by
      refine VH fun y _=>?_
      simp only [Function.comp]
      rw [jd8 hx,jd7 hx,h,vd];simp [ja0]
    rw [e1];exact GW fun y _=>by simp
  · rw [if_neg h,xE,VE];intro y _
    simp only [Function.comp]
    rw [jd8 hx];simp [h]
theorem jjq {d:Cd} {C:List Cd} {x:Bo} (hx:x.length=E.length) (l:List Bo):
    ((l.map (none:: ·)).filter (ja0 E x (d::C))).map (x++ ·)=(l.filter (ja0 (E++[d]) (x++[none]) C)).map ((x++[none])++ ·):=by
  rw [VC,Vx];have e1:List.filter ((ja0 E x (d::C))∘(none:: ·)) l=l.filter (ja0 (E++[d]) (x++[none]) C):=by
    refine VH fun y _=>?_
    simp only [Function.comp]
    rw [jff hx,jd7 hx];simp [ja0]
  rw [e1];exact GW fun y _=>by simp
theorem jgm {can:Nat}: ∀{C E:List Cd} {x:Bo} {w:Nat},x.length=E.length→(∀i,i<(E++C).length→can.testBit i=true)→jdB (E++C) can 0 C.length w x=((jbv C w).filter (ja0 E x C)).map (x++ ·)
  |[],E,x,w,hx,_=>by
    have:ja0 E x [] []=true:=by
      rw [jeO rfl hx];intro i j v u _ hj;simp at hj
    simp [jdB,jeP,this]
  |d::C,E,x,w,hx,hc=>by
    have hE:E++d::C=(E++[d])++C:=by simp
    have hd:dA (E++d::C) x.length=d:=by
      rw [hx,dA,gB,gl (gK _)];simp
    have hcan:can.testBit x.length=true:=hc _ (by rw [hx];simp)
    rw [gU,jdB,if_neg zS,hd,jb8,GU,GI,VT,List.map_flatMap,jcw];congr 1
    · congr 1
      funext v
      rw [jdP hx,jlz hx,hE,jgm (by simp [hx]) (by rw [←hE];exact hc)]
    · cases w with
      |zero=>simp [jgg]
      |succ w=>
        rw [if_neg (by simp [hcan]),jgg,jjq hx,hE,jgm (by simp [hx]) (by rw [←hE];exact hc)];rfl
theorem genM_all {w can:Nat} (h: ∀i,i<D.length→can.testBit i=true):jdB D can 0 D.length w []=jbv D w:=by
  have:=jgm (C:=D) (E:=[]) (x:=[]) (w:=w) rfl h
  rw [GC] at this
  rw [this];have e:(jbv D w).filter (ja0 [] [] D)=jbv D w:=xC.2 fun y _=>by simp [ja0]
  rw [e];exact (GW fun y _=>by simp).trans (List.map_id _)
def jeo (s n:Nat):List Bool:=(List.range n).map fun i=>s.testBit i
theorem jb4 (s n:Nat):(jeo s n).length=n:=by simp [jeo]
theorem jka {s:Nat}: ∀{C E:List Cd} {x:Bo} {w:Nat},x.length=E.length→C.length≤w→jdB (E++C) s s C.length w x=((jfx C ((List.range' E.length C.length).map fun i=>s.testBit i)).filter (ja0 E x C)).map (x++ ·)
  |[],E,x,w,hx,_=>by
    have:ja0 E x [] []=true:=by
      rw [jeO rfl hx];intro i j v u _ hj;simp at hj
    simp [jdB,jfx,this]
  |d::C,E,x,w,hx,hw=>by
    have hE:E++d::C=(E++[d])++C:=by simp
    have hd:dA (E++d::C) x.length=d:=by
      rw [hx,dA,gB,gl (gK _)];simp
    rw [gU] at hw
    rw [gU,List.range'_succ,gx];cases ht:s.testBit x.length with
    |true=>
      rw [jlj ht,if_neg (by simp [ht];omega),←hx,ht,jfx,jjq hx,hE,jka (by simp [hx]) zO];simp [hx]
    |false=>
      rw [jdB,if_neg (by simp [ht]),if_pos (.inr ht),gb,hd,←hx,ht,jfx,VT,List.map_flatMap,jcw];congr 1
      funext v
      rw [jdP hx,jlz hx,hE,jka (by simp [hx]) zO];simp [hx]
theorem jqN {s w:Nat} (h:D.length≤w):jdB D s s D.length w []=jfx D (jeo s D.length):=by
  have:=jka (C:=D) (E:=[]) (x:=[]) (s:=s) (w:=w) rfl h
  rw [GC] at this
  rw [this];have e: ∀p,(jfx D p).filter (ja0 [] [] D)=jfx D p:=fun p=>xC.2 fun y _=>by simp [ja0]
  rw [e,jeo,List.range_eq_range'];exact (GW fun y _=>by simp).trans (List.map_id _)
def jbX:Bo→Nat
  |[]=>0
  |o::x=>(if o.isNone then 1 else 0)+2*jbX x
def valsB (x:Bo):List Int:=x.map fun o:Option Int=>o.getD 0
def jm9 (x:Bo):List Int:=(valsB x++List.replicate 12 0).take 12
theorem jby (x:Bo):(jm9 x).length=12:=by simp [jm9]
theorem jfc {x:Bo} {i:Nat} (hi:i<12):(jm9 x).getD i 0=(xA x i).getD 0:=by
  rw [jm9,gB,Gz,if_pos hi,valsB,Gs,gY];rw [xA,gB];split
  · rename_i h
    rw [gk,gC h];rfl
  · rename_i h
    rw [ge (l:=x) zO,List.getElem?_replicate];split<;>rfl
theorem jcI: ∀{x:Bo} {i:Nat},(jbX x).testBit i=decide (i<x.length∧xA x i=none)
  |[],i=>by simp [jbX]
  |o::x,0=>by
    cases o<;>simp [jbX,Nat.testBit_zero]<;>omega
  |o::x,i+1=>by
    rw [jbX,Nat.testBit_succ,show ((if o.isNone then 1 else 0)+2*jbX x)/2=jbX x by split<;>omega,jcI];simp
theorem jki: ∀{x:Bo},jbX x<2^x.length
  |[]=>by simp [jbX]
  |o::x=>by
    have:=jki (x:=x)
    rw [jbX,gU,Nat.pow_succ];split<;>omega
theorem jcz {x:Bo} (h:x.length≤12):jbX x<4096:=GP jki (by
  have:=GT (show 0<2 by omega) h
  simpa using this)
theorem jju {x:Bo} {v:Int}:jbX (x++[some v])=jbX x:=by
  apply Vy
  intro i
  rw [jcI,jcI];congr 1
  rw [gJ,vL,xA,xA,gB,gB,Gs];by_cases h:i<x.length
  · simp [h];omega
  · rw [if_neg h];by_cases h2:i=x.length
    · subst h2;simp
    · simp [h];omega
theorem joO {x:Bo}:jbX (x++[none])=jbX x|||2^x.length:=by
  apply Vy
  intro i
  rw [xJ,jcI,jcI,xB];rw [gJ,vL,xA,xA,gB,gB,Gs];by_cases h:i<x.length
  · have:x.length≠i:=by omega
    simp [h,this];omega
  · rw [if_neg h];by_cases h2:i=x.length
    · subst h2;simp
    · have:x.length≠i:=by omega
      simp [h,this];omega
theorem jpV {x:Bo} (h:x.length<12):jm9 (x++[none])=jm9 x:=by
  refine vB (by simp [jby]) fun i h1 h2=>?_
  rw [jby] at h2
  have a:=jfc (x:=x++[none]) h2
  have b:=jfc (x:=x) h2
  rw [gB,gC h1] at a
  rw [gB,gC (by rw [jby];exact h2)] at b
  simp only [GB] at a b
  rw [a,b,xA,xA,gB,gB,Gs];split
  · rfl
  · rename_i hh
    rw [ge (l:=x) zO];by_cases e:i=x.length
    · subst e;simp
    · rw [ge zN]
theorem jpU {x:Bo} {v:Int} (h:x.length<12):jm9 (x++[some v])=(jm9 x).set x.length v:=by
  refine vB (by simp [jby]) fun i h1 h2=>?_
  rw [List.length_set,jby] at h2
  have a:=jfc (x:=x++[some v]) h2
  have b:=jfc (x:=x) h2
  rw [gB,gC h1] at a
  rw [gB,gC (by rw [jby];exact h2)] at b
  simp only [GB] at a b
  rw [a,List.getElem_set,b,xA,xA,gB,gB,Gs];split
  · rename_i hh
    rw [if_neg zO]
  · rename_i hh
    by_cases e:x.length=i
    · subst e;simp
    · rw [if_neg e,ge zN,ge zO]
def boL (x:Bo):List Value:= .int .u64 (jbX x:Int)::(jm9 x).map (Value.int .i64)
theorem jaG (x:Bo):(boL x).length=13:=by simp [boL,jby]
theorem jrl (x:Bo): ∀u∈boL x,u.oneCell'=true:=by
  intro u hu
  rcases gN.1 hu with rfl|hu
  · rfl
  · obtain ⟨n,_,rfl⟩:=gQ.1 hu;rfl
abbrev boV (x:Bo):Value:= .agg (boL x).toArray
instance:Enc Bo 13 where
  enc:=boL
  len:=jaG
  one:=jrl
def jbt (l:List Int):Nat:=l.foldl (fun s z=>s|||2^z.toNat) 0
theorem jpw (l:List Int) (hl: ∀z∈l,0≤z): ∀(s i:Nat),(l.foldl (fun s z=>s|||2^z.toNat) s).testBit i=(s.testBit i||decide ((i:Int)∈l)):=by
  induction l with
  |nil=>intro s i;simp
  |cons z r ih=>
    intro s i
    rw [vz,ih fun y hy=>hl y (by simp [hy]),xJ,xB];have:=hl z zS
    have e:decide (z.toNat=i)=decide ((i:Int)=z):=decide_eq_decide.2 zO
    rw [e];simp [Bool.or_assoc]
theorem jdd {l:List Int} (hl: ∀z∈l,0≤z) (i:Nat):(jbt l).testBit i=decide ((i:Int)∈l):=by
  rw [jbt,jpw l hl,Nat.zero_testBit,VQ]
structure LnOk (n:Nat) (l:Ln):Prop where
  lat:0≤l.lat∧l.lat≤959
  len:l.figs.length=n
  fig: ∀f∈l.figs,jbl f=true
structure LsOk (n:Nat) (ls:List Ln):Prop where
  two:ls.length≤2
  ok: ∀l∈ls,LnOk n l
  up:ls.Pairwise fun a b=>a.lat<b.lat
structure TbOk (b:Tb):Prop where
  wrong:0≤b.wrong∧b.wrong≤2
  n1:1≤b.sts.length
  n3:b.sts.length≤3
  names:jdf [] b.sts=0
  waters:LsOk b.sts.length b.waters
  butts:LsOk b.sts.length b.butts
  smu:jiE b.waters+jiE b.butts≤2
theorem jhT {n:Nat}: ∀{ls:List Ln} {p:Option Int},jbS n p ls=0↔(∀l∈ls,LnOk n l)∧ls.Pairwise (fun a b=>a.lat<b.lat)∧ ∀l∈ls.head?,¬jgS p l.lat
  |[],p=>by simp [jbS]
  |l::r,p=>by
    rw [jbS];split
    · rename_i h
      refine ⟨fun e=>absurd e zA,fun ⟨h1,_⟩=>absurd (h1 l zS).lat h⟩
    · rename_i h1
      split
      · rename_i h
        exact ⟨fun e=>absurd e zA,fun ⟨_,_,h3⟩=>absurd h (h3 l zS)⟩
      · rename_i h2
        split
        · rename_i h
          exact ⟨fun e=>absurd e zA,fun ⟨h1,_⟩=>absurd (h1 l zS).len h⟩
        · rename_i h3
          split
          · rename_i h
            exact ⟨fun e=>absurd e zA,fun ⟨h1,_⟩=>absurd (h1 l zS).fig h⟩
          · rename_i h4
            rw [jhT];have l1:LnOk n l:=⟨Gl.1 h1,Gl.1 h3,Gl.1 h4⟩
            constructor
            · rintro ⟨a,c,d⟩;refine ⟨by simpa using ⟨l1,a⟩,?_,by simpa using h2⟩
              rw [vX];refine ⟨fun x hx=>?_,c⟩
              cases r with
              |nil=>simp at hx
              |cons y r=>
                have hy:l.lat<y.lat:=gu fun e=>d y zS ⟨_,rfl,by omega⟩
                rcases gN.1 hx with rfl|hx
                · exact hy
                · have:=(vX.1 c).1 x hx;omega
            · rintro ⟨a,c,_⟩;rw [vX] at c
              refine ⟨fun x hx=>a x (by simp [hx]),c.2,fun x hx=>?_⟩
              have hxm:x∈r:=List.mem_of_mem_head? hx
              rintro ⟨y,e,hle⟩;cases e
              have:=c.1 x hxm;omega
theorem jd2 {ls:List Ln}:jaA n ls=0↔LsOk n ls:=by
  rw [jaA];split
  · rename_i h
    exact ⟨fun e=>absurd e zA,fun h2=>by have:=h2.two;omega⟩
  · rename_i h
    rw [jhT];constructor
    · rintro ⟨a,c,_⟩;exact ⟨by omega,a,c⟩
    · rintro ⟨_,a,c⟩;exact ⟨a,c,fun x _=>by rintro ⟨y,e,_⟩;cases e⟩
theorem jbo:tbS b=0↔TbOk b:=by
  rw [tbS];split
  · rename_i h
    refine ⟨fun e=>absurd e h,fun k=>absurd ?_ h⟩
    rw [ja9 k.wrong ⟨k.n1,k.n3⟩];exact k.names
  · rename_i h
    have h0:=Gl.1 h
    rw [jd4] at h0
    split at h0
    · cases h0
    · rename_i h1
      split at h0
      · cases h0
      · rename_i h2
        have h2:=Gl.1 h2
        rw [jiq];split
        · rename_i h3
          exact ⟨fun e=>absurd e h3,fun k=>absurd (jd2.2 k.waters) h3⟩
        · rename_i h3
          split
          · rename_i h4
            exact ⟨fun e=>absurd e h4,fun k=>absurd (jd2.2 k.butts) h4⟩
          · rename_i h4
            split
            · rename_i h5
              exact ⟨fun e=>absurd e zA,fun k=>by have:=k.smu;omega⟩
            · rename_i h5
              exact ⟨fun _=>⟨Gl.1 h1,h2.1,h2.2,h0,jd2.1 (Gl.1 h3),jd2.1 (Gl.1 h4),by omega⟩,fun _=>rfl⟩
section
theorem TbOk.lines (k:TbOk b) (bt:Bool):LsOk b.sts.length (ja7 b bt):=by cases bt;exact k.waters;exact k.butts
end
theorem jdj {c:Ce}:jec b c=true↔0≤c.line∧c.line<(ja7 b c.butt).length∧0≤c.st∧c.st<b.sts.length:=by
  simp only [jec,gH,decide_eq_true_eq]
  omega
theorem jd3 {c:Ce} (h:jec b c=true):jbg b c∈ja7 b c.butt:=by
  have:=jdj.1 h
  exact jak zO
def keepC' (b:Tb) (c:Ce):Bool:=jec b c&&decide (jci b c≠jiN)
def jpE (n:Nat) (bt:Bool) (i:Nat):List Ce:=(List.range n).map fun (j:Nat)=>(⟨bt,(i:Int),(j:Int)⟩:Ce)
def jdu (n:Nat):List Ce:=jpE n false 0++jpE n false 1++(jpE n true 0++jpE n true 1)
theorem jc4 (b:Tb):jac b=(jdu b.sts.length).filter (keepC' b):=by
  simp only [jac,jdu,GU];rfl
theorem jgY {bt:Bool} {i:Nat} {c:Ce}:c∈jpE n bt i↔c.butt=bt∧c.line=i∧0≤c.st∧c.st<n:=by
  simp only [jpE,gQ,gP]
  constructor
  · rintro ⟨j,hj,rfl⟩;exact ⟨rfl,rfl,by simp only;omega,by simp only;omega⟩
  · rintro ⟨h1,h2,h3,h4⟩;obtain ⟨cb,cl,cs⟩:=c
    simp only at h1 h2 h3 h4
    subst h1;subst h2
    exact ⟨cs.toNat,by omega,by congr 1;omega⟩
theorem jeJ (n:Nat) (bt:Bool) (i:Nat):(jpE n bt i).Nodup:=by
  unfold List.Nodup
  rw [jpE,vf];exact (List.nodup_range (n:=n)).imp fun h e=>h (by have:=congrArg Ce.st e;simp only at this;omega)
theorem jjV (n:Nat):(jdu n).Nodup:=by
  rw [jdu,vg,vg,vg];refine ⟨⟨jeJ ..,jeJ ..,?_⟩,⟨jeJ ..,jeJ ..,?_⟩,?_⟩
  · rintro x hx y hy rfl;rw [jgY] at hx hy;omega
  · rintro x hx y hy rfl;rw [jgY] at hx hy;omega
  · rintro x hx y hy rfl;rw [gO,jgY,jgY] at hx hy
    rcases hx with hx|hx<;>rcases hy with hy|hy<;>rw [hx.1] at hy<;>cases hy.1
theorem jlE (b:Tb):(jac b).Nodup:=by rw [jc4];exact (jjV _).filter _
theorem jdl {c:Ce} (h:c∈jac b):jec b c=true∧jci b c≠jiN:=by
  rw [jc4,gS,keepC',gH,decide_eq_true_eq] at h
  exact h.2
theorem jiH (n:Nat):(jdu n).length=4*n:=by simp [jdu,jpE];omega
theorem jbu (k:TbOk b):(jac b).length≤12:=by
  rw [jc4];have:=Gy (keepC' b) (jdu b.sts.length)
  rw [jiH] at this
  have:=k.n3
  omega
theorem jqW (k:TbOk b) {c:Ce} (h:jec b c=true):jci b c∈(jbg b c).figs:=by
  have h1:=jdj.1 h
  have:=((k.lines c.butt).ok _ (jd3 h)).len
  rw [jci,gB,gC zO];exact GR _
theorem fig_ok (k:TbOk b) {c:Ce} (h:c∈jac b):ja1 (jci b c)=true:=by
  obtain ⟨h1,h2⟩:=jdl h
  have:=((k.lines c.butt).ok _ (jd3 h1)).fig _ (jqW k h1)
  rw [jbl,GK,decide_eq_true_eq] at this
  exact this.resolve_right h2
def jo9 (ls:List Ln) (i k:Nat) (f:Str):List Ln:=ls.set i {ls.getD i default with figs:=(ls.getD i default).figs.set k f}
def jdA (b:Tb) (c:Ce) (f:Str):Tb:=if c.butt then {b with butts:=jo9 b.butts c.line.toNat c.st.toNat f} else {b with waters:=jo9 b.waters c.line.toNat c.st.toNat f}
@[simp] theorem jmS (b:Tb) (c:Ce) (f:Str):(jdA b c f).sts=b.sts:=by unfold jdA;split<;>rfl
@[simp] theorem setF_wrong (b:Tb) (c:Ce) (f:Str):(jdA b c f).wrong=b.wrong:=by unfold jdA;split<;>rfl
theorem ji2 (b:Tb) (c:Ce) (f:Str) (bt:Bool):ja7 (jdA b c f) bt=if bt=c.butt then jo9 (ja7 b bt) c.line.toNat c.st.toNat f else ja7 b bt:=by
  unfold jdA ja7
  cases bt<;>cases c.butt<;>simp
def negs (p:List Int):Nat:=p.countP fun x=>decide (x<0)
def jfy (p:List Int) (i m:Nat):List Nat:=if p.getD i 0<0 then List.range m else [(p.getD i 0).toNat]
theorem meaP_sub (h:n∈(List.range 960).filter (jef p)):n∈(jfy p 0 10).flatMap fun a=>(jfy p 1 12).flatMap fun b=>(jfy p 2 8).map fun c=>96*a+8*b+c:=by
  rw [gS,gP,jef] at h
  obtain ⟨hn,h⟩:=h
  simp only [gT,gP,GK,decide_eq_true_eq] at h
  have h0:=h 0 zO
  have h1:=h 1 zO
  have h2:=h 2 zO
  simp only [jcX,List.getD_cons_zero,List.getD_cons_succ] at h0 h1 h2
  simp only [vV,gQ]
  refine ⟨n/96,?_,n/8%12,?_,n%8,?_,by omega⟩
  · unfold jfy;split
    · rw [gP];omega
    · rw [gq];omega
  · unfold jfy;split
    · rw [gP];omega
    · rw [gq];omega
  · unfold jfy;split
    · rw [gP];omega
    · rw [gq];omega
theorem jhn {α:Type} (l:List α) (f:α→Nat) (c:Nat) (h: ∀x∈l,f x=c):(l.map f).sum=l.length*c:=by
  induction l with
  |nil=>simp
  |cons a l ih=>
    rw [gx,vI,ih fun x hx=>h x (by simp [hx]),h a zS,gU,GV,xN,vq]
theorem meaP_len (p:List Int):(jhR p).length≤(jfy p 0 10).length*((jfy p 1 12).length*(jfy p 2 8).length):=by
  rw [jhR,gY];have h:=Gg (l₁:=(List.range 960).filter (jef p)) ((List.nodup_range).filter _) fun n hn=>meaP_sub hn
  refine GM h (Nat.le_of_eq ?_)
  rw [xF,jhn _ _ ((jfy p 1 12).length*(jfy p 2 8).length)];intro a _
  rw [xF,jhn _ _ ((jfy p 2 8).length)];intro b _
  rw [gY]
theorem jpT (p:List Int) (i m:Nat):(jfy p i m).length=if p.getD i 0<0 then m else 1:=by
  unfold jfy;split<;>simp
theorem meaP_12 (h:p.length=3):(jhR p).length≤12^negs p:=by
  refine GM (meaP_len p) ?_
  match p,h with
  |[a,b,c],_=>
    simp only [jpT,List.getD_cons_zero,List.getD_cons_succ,negs,VO,List.countP_nil]
    by_cases ha:a<0<;>by_cases hb:b<0<;>by_cases hc:c<0<;>simp [ha,hb,hc]
def jeR:List Cd→Nat
  |[]=>1
  |d::D=>max 1 d.can.length*jeR D
def jho:Nat→Nat→Nat
  |0,_=>1
  |n+1,0=>jho n 0
  |n+1,w+1=>jho n (w+1)+jho n w
theorem jgq: ∀(D:List Cd) (w:Nat),(jbv D w).length≤jho D.length w*jeR D
  |[],w=>by cases w<;>simp [jbv,jho,jeR]
  |d::D,w=>by
    have h1:(d.can.flatMap fun v=>((jbv D w).filter (jaB d v D)).map (some v:: ·)).length≤d.can.length*(jho D.length w*jeR D):=by
      rw [xF];have: ∀l:List Int,(l.map fun v=>(((jbv D w).filter (jaB d v D)).map (some v:: ·)).length).sum≤l.length*(jho D.length w*jeR D):=by
        intro l
        induction l with
        |nil=>simp
        |cons v l ih=>
          rw [gx,vI,gU,GV,xN,gY];have:=Gy (jaB d v D) (jbv D w)
          have:=jgq D w
          omega
      exact this d.can
    have hm:d.can.length*(jho D.length w*jeR D)≤jho D.length w*(max 1 d.can.length*jeR D):=by
      rw [Nat.mul_left_comm];exact xG _ (GJ _ (Nat.le_max_right 1 d.can.length))
    rw [jb8,gJ];cases w with
    |zero=>
      simp only [jgg,vO,gU,jho,jeR]
      omega
    |succ w=>
      simp only [jgg,gY,gU,jho,jeR]
      have h2:=jgq D w
      have h3:jho D.length w*jeR D≤jho D.length w*(max 1 d.can.length*jeR D):=xG _ (by
        have:=GJ (jeR D) (Nat.le_max_left 1 d.can.length)
        rwa [xN] at this)
      rw [GV];omega
theorem jel: ∀{n m w v:Nat},n≤m→w≤v→jho n w≤jho m v
  |0,m,w,v,_,_=>by
    have: ∀m v,1≤jho m v:=by
      intro m
      induction m with
      |zero=>intro v;exact gK 1
      |succ m ih=>intro v;cases v with
        |zero=>exact ih 0
        |succ v=>have:=ih (v+1);simp only [jho];omega
    exact this m v
  |n+1,0,_,_,h,_=>by omega
  |n+1,m+1,0,0,h,_=>by simp only [jho];exact jel zO (gK 0)
  |n+1,m+1,0,v+1,h,_=>by
    have:=jel (n:=n) (m:=m) (w:=0) (v:=v+1) zO zO
    simp only [jho];omega
  |n+1,m+1,w+1,0,_,h=>by omega
  |n+1,m+1,w+1,v+1,h,h2=>by
    have:=jel (n:=n) (m:=m) (w:=w+1) (v:=v+1) zO h2
    have:=jel (n:=n) (m:=m) (w:=w) (v:=v) zO zO
    simp only [jho];omega
theorem jfp {α:Type} (p:α→Bool) (f:α→Nat): ∀l:List α,((l.filter p).map f).sum≤(l.map f).sum
  |[]=>gK 0
  |a::l=>by
    have:=jfp p f l
    rw [Gq];split<;>simp only [gx,vI]<;>omega
theorem jiD (l:List Nat): ∀n,l.length≤n→((List.range n).map fun i=>l.getD i 0).sum=l.sum:=by
  induction l with
  |nil=>intro n _;rw [jhn _ _ 0 zS];simp
  |cons a l ih=>
    intro n hn
    obtain ⟨m,rfl⟩: ∃m,n=m+1:=⟨n-1,by simp at hn;omega⟩
    rw [List.range_succ_eq_map,gx,Vx,vI,vI,←ih m (by simpa using hn)];rfl
def jaf (b:Tb):List Bo:=jbv (cdT b) b.wrong.toNat
def jaX (b:Tb) (own:Int):Int:=if tbS b≠0 then tbS b else if own≠0 then own else if jaf b=[] then 9 else 0
theorem openS_b {own:Int} (h:tbS b≠0):jaX b own=tbS b:=by rw [jaX,if_pos h]
theorem openS_o {own:Int} (h:tbS b=0) (h2:own≠0):jaX b own=own:=by rw [jaX,if_neg (fun e=>e h),if_pos h2]
theorem openS_9 {own:Int} (h:tbS b=0) (h2:own=0) (h3:jaf b=[]):jaX b own=9:=by rw [jaX,if_neg (fun e=>e h),if_neg (fun e=>e h2),if_pos h3]
theorem jma {own:Int} (h:tbS b=0) (h2:own=0) (h3:jaf b≠[]):jaX b own=0:=by rw [jaX,if_neg (fun e=>e h),if_neg (fun e=>e h2),if_neg h3]
theorem jdG {own:Int} (h:jaX b own=0):tbS b=0∧own=0∧jaf b≠[]:=by
  unfold jaX at h
  split at h
  · contradiction
  · rename_i h1
    split at h
    · contradiction
    · rename_i h2
      split at h
      · cases h
      · rename_i h3
        exact ⟨gu h1,gu h2,h3⟩
def jlG (D:List Cd) (L:List Bo) (k:Nat):List Int:=(dA D k).can.filter fun v=>L.any fun x=>decide (xA x k=some v)
def jfk (L:List Bo) (k:Nat):Nat:=L.countP fun x=>(xA x k).isNone
def jeQ (n m:Nat):Int:=if n=0 then 2 else if n=m then 1 else 0
def jdN (bt:Bool) (st p:Int) (d:Cd) (o:Option Int) (s:Int×Int):Int×Int:=
  match o with
  |none=>s
  |some v=>
    if d.st≠st then s
    else if d.butt=bt then (if d.lat≤p then max s.1 v else s.1,if p≤d.lat then min s.2 v else s.2)
    else (if v<p then max s.1 d.lat else s.1,if p<v then min s.2 d.lat else s.2)
def bdK (D:List Cd) (x:Bo) (bt:Bool) (st p:Int) (k:Nat):Int×Int:=(List.range k).foldl (fun s i=>jdN bt st p (dA D i) (xA x i) s) (0,959)
theorem jbR (D:List Cd) (x:Bo) (bt:Bool) (st p:Int) (k:Nat):bdK D x bt st p (k+1)=jdN bt st p (dA D k) (xA x k) (bdK D x bt st p k):=by
  rw [bdK,GO,vQ];rfl
def bdA (D:List Cd) (x:Bo) (bt:Bool) (st p:Int):Int×Int:=bdK D x bt st p D.length
def spB (f:Bo→Int×Int) (L:List Bo):Int×Int:=L.foldl (fun s x=>(min s.1 (f x).1,max s.2 (f x).2)) (959,0)
def jpl (f:Bo→Int×Int) (L:List Bo) (k:Nat):Int×Int:=spB f (L.take k)
theorem jkC (f:Bo→Int×Int) (L:List Bo) (k:Nat) (h:k<L.length):jpl f L (k+1)=(min (jpl f L k).1 (f (L.getD k [])).1,max (jpl f L k).2 (f (L.getD k [])).2):=by
  rw [jpl,GY,gC h,Gh,spB,vQ,gB,gC h];rfl
theorem spBK_all (f:Bo→Int×Int) (L:List Bo):jpl f L L.length=spB f L:=by rw [jpl,vC]
def jfg (L:List Bo) (i:Nat) (v:Int):Nat:=L.countP fun x=>decide (xA x i=some v)
def jdh (L:List Bo) (i:Nat):Nat:=L.foldl (fun s x=>match xA x i with|some v=>max s (jfg L i v)|none=>s) 0
def jgu (L:List Bo) (s:Option Nat×Nat) (i:Nat):Option Nat×Nat:=if 0<jdh L i∧jdh L i<s.2 then (some i,jdh L i) else s
def jlJ (L:List Bo) (k:Nat):Option Nat×Nat:=(List.range k).foldl (jgu L) (none,L.length)
theorem jfY (L:List Bo) (k:Nat):jlJ L (k+1)=jgu L (jlJ L k) k:=by rw [jlJ,GO,vQ];rfl
end Go.Lo
namespace Go.Lo
open Go.Proofs
open Go.Conc (G)
section
variable {P:Program} {m:Md P B} {l l' l'':List Value} {S h h' H:Hp} {i:Nat} {kd:Kd} {r:List (Nat×Kd)} {d:Option Tmp} {g:Option (Nat×Bool)}
theorem jfL {u:TypeId} {x y:Operand} {a c:Bool} (ho:ops[i]?=some ⟨d,.binOp .eql t x y u,ty,pos,af,g⟩) (hw:Wt ops l g) (hb:P.underlying t=some .bool) [KHeap kd S h H] [ex:OpV l x (.bool a)] [ey:OpV l y (.bool c)] [pt:PutV l d (.bool true) l'] [pf:PutV l d (.bool false) l'']
    (yes:a=c→RegK m S ops r l' h C) (no:a≠c→RegK m S ops r l'' h C):RegK m S ops ((i,kd)::r) l h C:=by
  by_cases e:a=c
  · exact k_eqBT ho hw hb e (yes e)
  · exact RegK.rd (v:= .bool false) ho hw (by
      simp only [execOp,ex.eq,ey.eq]
      refine Reads.value (Reads.bind (a:=()) (Reads.pure _) ?_)
      show Reads P B (Op.equal t (.bool a) (.bool c)>>=fun b=>pure (Value.bool b)) H _
      have:=jdX (P:=P) (B:=B) (H:=H) hb a c
      rw [show (a==c)=false from by simpa using e] at this
      exact Reads.bind this (Reads.pure _)) (no e)
end
end Go.Lo
namespace Go.Lo
open Go.Conc (G)
def jos (fn:FuncId) (l:List Value) (ps:Array Tmp) (a c:Code) (q1:Nat):Obj:= .loop {state:= .done,pending:=some .ret,fn,tmps:=l.toArray,params:=ps,assign:=a,body:=c,defers:=q1}
section
variable {P:Program} {m:Md P B} {b:Frame} {ds:List Deferred} {k:List Item} {cs:List Frame}
theorem jkN {f:FuncId} {q:Nat} {fn:FuncId} {a c:Code} {fr:Frame} {F E:Hp} (hh:h=F++⟨true,q,jfi fn l0 ps a c q1 .busy⟩::E) (n:m.R K (G (fr.finish (.bool false)) cs) (F++⟨true,q,jos fn l0 ps a c q1⟩::E)):
    m.R K (Gr (bR f q) l ds (.code .ret::k) (fr::cs)) h:=by
  subst hh
  have key:Tri P B (Instr.endRound q (some .ret)) (F++⟨true,q,jfi fn l0 ps a c q1 .busy⟩::E) fun j h'=>j= .bool false∧m.R K (G (fr.finish (.bool false)) cs) h':=by
    unfold Instr.endRound
    refine Tri.bind (Reads.tri (a:={state:= .busy,pending:=none,fn,tmps:=l0.toArray,params:=ps,assign:=a,body:=c,defers:=q1}) (Reads.bind (jbk (rw:=true) (o:=jfi fn l0 ps a c q1 .busy) zS rfl) (Reads.pure _)) ?_)
    exact Tri.bind (jbs (o':=jos fn l0 ps a c q1) rfl rfl (Tri.pure ⟨rfl,n⟩))
  refine m.step (K':=fun g' h'=>m.R K g' h') ⟨rfl,fun w sw=>?_⟩ fun g' h' x=>x
  obtain ⟨j,w',h',hr,st',rfl,n'⟩:=key w sw
  refine ⟨_,w',seen P f ((Instr.endRound q (some .ret)).events P w #[]),h',?_,st'.events fun e he=>jck _ _ _ e he,n'⟩
  simp [Gr,Fr,G,stepG,stepG.exec,bR,bF,hr,GStep.after,doReturn]
theorem jjR {q:Nat} {fn:FuncId} {a c:Code} {F E:Hp} (hh:h=F++⟨true,q,jos fn l0 ps a c q1⟩::E) (n:m.R K (Gr b l ds (.code .ret::k) cs) (F++E)):
    m.R K (Gr b l ds (.endRangeFunc q::k) cs) h:=by
  subst hh
  have key:Tri P B (Instr.endLoop q) (F++⟨true,q,jos fn l0 ps a c q1⟩::E) fun j h'=>j=some .ret∧m.R K (Gr b l ds (.code .ret::k) cs) h':=by
    unfold Instr.endLoop
    refine Tri.bind (Reads.tri (a:={state:= .done,pending:=some .ret,fn,tmps:=l0.toArray,params:=ps,assign:=a,body:=c,defers:=q1}) (Reads.bind (jbk (rw:=true) (o:=jos fn l0 ps a c q1) zS rfl) (Reads.pure _)) ?_)
    have hb:(LoopState.done==LoopState.busy)=false:=rfl
    simp only [hb,gr,if_false]
    refine Tri.bind (jbs rfl rfl (Tri.pure ⟨rfl,m.weak (Weak.sub ?_) n⟩))
    exact VZ (Vj _ _) _
  refine m.step (K':=fun g' h'=>m.R K g' h') ⟨rfl,fun w sw=>?_⟩ fun g' h' x=>x
  obtain ⟨j,w',h',hr,st',rfl,n'⟩:=key w sw
  refine ⟨_,w',seen P b.fn ((Instr.endLoop q).events P w #[]),h',?_,st'.events fun e he=>jck _ _ _ e he,n'⟩
  simp [Gr,Fr,G,stepG,stepG.exec,hr,GStep.after]
end
def jdk:List (Int×Int)→Nat→List MapEntry
  |[],_=>[]
  |e::r,b=>⟨.int .i64 e.1,.int .i64 e.2,b⟩::jdk r (b+1)
def jqa (l:List (Int×Int)):Obj:= .map (jdk l 0).toArray l.length
def jcU (x:Int):List (Int×Int)→Nat→Option (Nat×Int)
  |[],_=>none
  |e::r,i=>if e.1=x then some (i,e.2) else jcU x r (i+1)
def cntI (l:List (Int×Int)) (x:Int):Int:=match jcU x l 0 with|some (_,n)=>n|none=>0
def jiQ (l:List (Int×Int)) (x n:Int):List (Int×Int):=match jcU x l 0 with|some (i,_)=>l.set i (x,n)|none=>l++[(x,n)]
theorem jgK (x:Int): ∀(l:List (Int×Int)) (b i:Nat),Instr.findNow (.int .i64) (.int .i64 x) (jdk l b) i=some ((jcU x l i).map fun p=>(p.1,.int .i64 p.2))
  |[],_,_=>rfl
  |e::r,b,i=>by
    unfold jdk Instr.findNow jcU
    simp only [Instr.sameNow,if_true]
    by_cases hk:e.1=x
    · rw [if_pos hk,show (x==e.1)=true by simp [hk]];rfl
    · rw [if_neg hk,show (x==e.1)=false by simp;exact fun h=>hk h.symm];exact jgK x r (b+1) (i+1)
theorem jfU: ∀(l:List (Int×Int)) (b j:Nat),(jdk l b)[j]?=(l[j]?).map fun e=>⟨.int .i64 e.1,.int .i64 e.2,b+j⟩
  |[],_,_=>by simp [jdk]
  |e::r,b,0=>by simp [jdk]
  |e::r,b,j+1=>by simp [jdk,jfU r (b+1) j,vw,vq 1 j]
theorem jgL: ∀(l r:List (Int×Int)) (b:Nat),jdk (l++r) b=jdk l b++jdk r (b+l.length)
  |[],r,b=>by simp [jdk]
  |e::l,r,b=>by simp [jdk,jgL l r (b+1),vw,vq 1]
theorem jgn (x:Int): ∀(l:List (Int×Int)) (i j:Nat) (n:Int),jcU x l i=some (j,n)→ ∃p,j=i+p∧l[p]?=some (x,n)
  |[],_,_,_,h=>by simp [jcU] at h
  |e::r,i,j,n,h=>by
    unfold jcU at h
    split at h
    · rename_i hk
      obtain ⟨rfl,rfl⟩:=Prod.mk.inj (gD h)
      obtain ⟨e1,e2⟩:=e
      subst hk
      exact ⟨0,rfl,rfl⟩
    · obtain ⟨p,rfl,hp⟩:=jgn x r (i+1) j n h
      exact ⟨p+1,by omega,by simpa using hp⟩
theorem jq6 (l:List (Int×Int)) (j:Nat) (x n v:Int) (hj:l[j]?=some (x,n)):(jdk l 0).toArray.modify j (fun e=>{e with key:= .int .i64 x,val:= .int .i64 v})=(jdk (l.set j (x,v)) 0).toArray:=by
  apply Array.ext_getElem?
  intro i
  rw [Array.getElem?_modify,gV,gV,jfU,jfU,vh];by_cases e:j=i
  · subst e
    have hlt:=(Gw.1 hj).1
    simp [hlt]
  · simp [e]
section
variable {P:Program} {m:Md P B} {S h h' H:Hp} {i:Nat} {kd:Kd} {r:List (Nat×Kd)} {d:Option Tmp} {g:Option (Nat×Bool)}
theorem jhG (ht:P.underlying t=some (.int .i64)) (x:Int) (l:List (Int×Int)):Reads P B (Instr.findKey t (.int .i64 x) (jdk l 0)) h ((jcU x l 0).map fun p=>(p.1,.int .i64 p.2)):=by
  unfold Instr.findKey
  refine Reads.bind (jai ht).reads ?_
  rw [jgK];exact Reads.pure _
theorem jgA (dd:Nat) {e:Bool} (ht:P.underlying t=some (.int .i64)) (n:Int):Reads P B (Instr.checkKey e (dd+1) t (.int .i64 n)) h ():=by
  unfold Instr.checkKey
  refine Reads.bind (jai ht).reads ?_
  exact Reads.pure _
theorem k_mkmapI (ho:ops[i]?=some ⟨d,.makeMap t none,ty,pos,af,g⟩) (hw:Wt ops l g) (n: ∀q,RegK m S ops r (put l d (.map (some q))) (h++[⟨true,q,jqa []⟩]) C):RegK m S ops ((i,.free)::r) l h C:=jqo ho hw n
theorem jla {t k e q:Nat} {x y:Operand} {rw:Bool} {v:Int} (ht:P.underlying t=some (.map k e)) (hk:P.underlying k=some (.int .i64)) (ho:ops[i]?=some ⟨d,.lookup t x y false,ty,pos,af,g⟩) (hw:Wt ops l g) [KHeap kd S h H] [ex:OpV l x (.map (some q))] [ey:OpV l y (.int .i64 v)]
    [hq:Has H q rw (jqa es)] [ZeroT P e (.int .i64 0)] [PutV l d (.int .i64 (cntI es v)) l'] (n:RegK m S ops r l' h C):RegK m S ops ((i,kd)::r) l h C:=
  RegK.rd (v:= .int .i64 (cntI es v)) ho hw (by
    simp only [execOp,ex.eq,ey.eq]
    refine Reads.value ?_
    unfold Instr.lookup
    refine Reads.bind (jai ht).reads ?_
    dsimp only
    refine Reads.bind (jbk hq.mem rfl) ?_
    dsimp only [jqa]
    refine Reads.bind (Reads.pure _) ?_
    refine Reads.bind (jgA 9999 hk v) ?_
    refine Reads.bind (jhG hk v es) ?_
    unfold cntI
    cases jcU v es 0 with
    |none=>exact Reads.bind reads_zero (Reads.pure _)
    |some p=>exact Reads.pure _) n
theorem jqq {t k e q:Nat} {x y z:Operand} {rw:Bool} {v w:Int} (ht:P.underlying t=some (.map k e)) (hk:P.underlying k=some (.int .i64)) (ho:ops[i]?=some ⟨none,.mapUpdate t x y z,ty,pos,af,g⟩) (hw:Wt ops l g) [ex:OpV l x (.map (some q))] [ey:OpV l y (.int .i64 v)] [ez:OpV l z (.int .i64 w)]
    [hq:Has h q rw (jqa es)] [u:Upd h q (jqa (jiQ es v w)) h'] (n:RegK m S ops r l h' C):RegK m S ops ((i,.free)::r) l h C:=by
  obtain ⟨o1,h1,h2,e1,e2⟩:=u.ex
  refine RegK.ke (.inr rfl) ho hw ?_
  refine jf5 hq.mem ⟨o1,h1,h2,e1,rfl⟩ ?_
  simp only [execOp,ex.eq,ey.eq,ez.eq]
  refine Tri.bind ?_
  unfold Instr.mapUpdate
  refine Tri.bind ((jai ht).reads.tri ?_)
  refine Tri.bind ((jbk (o:=jqa es) (rw:=true) zS rfl).tri ?_)
  refine Tri.bind ((jgA 9999 hk v).tri ?_)
  refine Tri.bind ((jhG hk v es).tri ?_)
  cases hf:jcU v es 0 with
  |none=>
    have e3:jiQ es v w=es++[(v,w)]:=by simp only [jiQ,hf]
    simp only [vZ]
    refine jbs rfl rfl ?_
    refine Tri.pure ⟨.inl (by trivial),?_⟩
    have:(Obj.map ((jdk es 0).toArray.push {key:= .int .i64 v,val:= .int .i64 w,born:=es.length}) (es.length+1))=jqa (jiQ es v w):=by
      rw [e3,jqa,jgL];simp [jdk]
    show RegK m S ops r _ (h1++⟨true,q,Obj.map ((jdk es 0).toArray.push {key:= .int .i64 v,val:= .int .i64 w,born:=es.length}) (es.length+1)⟩::h2) C
    rw [this,←e2];exact n
  |some p=>
    obtain ⟨p,c⟩:=p
    obtain ⟨p',hp,hget⟩:=jgn v es 0 p c hf
    rw [gz] at hp
    subst hp
    have e3:jiQ es v w=es.set p (v,w):=by simp only [jiQ,hf]
    have hold:(((jdk es 0).toArray[p]?).map (·.key)).getD (.int .i64 v)= .int .i64 v:=by
      rw [gV,jfU,hget];rfl
    simp only [Gn]
    refine Tri.bind ?_
    have key: ∀(Q:Value→Hp→Prop) (hh:Hp),Q (.int .i64 v) hh→Tri P B (Instr.keyThatStays (((jdk es 0).toArray[p]?.map (·.key)).getD (.int .i64 v)) (.int .i64 v)) hh Q:=by
      intro Q hh hQ
      rw [hold];unfold Instr.keyThatStays
      split
      · exact Tri.pure hQ
      · refine Tri.bind (jc7 rfl fun z=>Tri.pure ?_)
        split<;>exact hQ
    refine key _ _ ?_
    refine jbs rfl rfl ?_
    refine Tri.pure ⟨.inl (by trivial),?_⟩
    have:(Obj.map ((jdk es 0).toArray.modify p fun e=>{e with key:= .int .i64 v,val:= .int .i64 w}) es.length)=jqa (jiQ es v w):=by
      rw [e3,jq6 es p v c w hget,jqa,List.length_set]
    show RegK m S ops r _ (h1++⟨true,q,Obj.map ((jdk es 0).toArray.modify p fun e=>{e with key:= .int .i64 v,val:= .int .i64 w}) es.length⟩::h2) C
    rw [this,←e2];exact n
end
theorem jln (l:List (Int×Int)) (x:Int) (a:Int×Int): ∀i,jcU x (l++[a]) i=match jcU x l i with|some p=>some p|none=>if a.1=x then some (i+l.length,a.2) else none:=by
  induction l with
  |nil=>intro i;simp [jcU]
  |cons e r ih=>
    intro i
    rw [gm];unfold jcU
    split
    · rfl
    · rw [ih (i+1),gU,show i+1+r.length=i+(r.length+1) by omega]
theorem jlm (x w x':Int): ∀(l:List (Int×Int)) (i p:Nat) (c:Int),jcU x l i=some (i+p,c)→jcU x' (l.set p (x,w)) i=if x'=x then some (i+p,w) else jcU x' l i
  |[],_,_,_,h=>by simp [jcU] at h
  |e::r,i,0,c,h=>by
    have hk:e.1=x:=by
      unfold jcU at h
      split at h
      · assumption
      · obtain ⟨p,hp,_⟩:=jgn x r (i+1) (i+0) c h;omega
    rw [List.set_cons_zero];unfold jcU
    by_cases e':x'=x
    · rw [if_pos e',if_pos e'.symm];rfl
    · rw [if_neg e',if_neg (fun y=>e' y.symm),if_neg (fun y=>e' (y.symm.trans hk))]
  |e::r,i,p+1,c,h=>by
    have hk: ¬e.1=x:=fun hk=>by
      unfold jcU at h
      rw [if_pos hk] at h
      have:=(Prod.mk.inj (gD h)).1
      omega
    rw [List.set_cons_succ];unfold jcU at h⊢
    rw [if_neg hk] at h
    have ih:=jlm x w x' r (i+1) p c (by rw [h,show i+(p+1)=i+1+p by omega])
    by_cases e':x'=x
    · rw [if_pos e'] at ih⊢
      rw [if_neg (fun y=>hk (y.trans e')),ih,show i+1+p=i+(p+1) by omega]
    · rw [if_neg e'] at ih⊢
      split
      · rfl
      · exact ih
theorem jlA (l:List (Int×Int)) (x w x':Int):cntI (jiQ l x w) x'=if x'=x then w else cntI l x':=by
  unfold jiQ
  cases hf:jcU x l 0 with
  |none=>
    simp only [cntI,jln]
    by_cases e:x'=x
    · subst e
      simp [hf]
    · rw [if_neg e,if_neg (fun y=>e y.symm)];cases jcU x' l 0<;>rfl
  |some p=>
    obtain ⟨p,c⟩:=p
    have:=jlm x w x' l 0 p c (by rw [hf,gz])
    simp only [cntI,this]
    by_cases e:x'=x
    · rw [if_pos e,if_pos e]
    · rw [if_neg e,if_neg e]
end Go.Lo
namespace Go.Lo
open Go.Conc
def Cl (t:Trace) (r i:Nat):Prop:= ∃p,t.act? p=some (.close r)∧t.heard p∧Before t i p
theorem Cl.app {t:Trace} {r i:Nat} (u:Trace) (h:Cl t r i):Cl (t++u) r i:=
  let ⟨p,h1,h2,h3⟩:=h
  have hp:=lt_of_act? h1
  ⟨p,by rw [act?_old hp];exact h1,(heard_old hp).2 h2,h3.app u⟩
structure TC (n lim gn:Nat) (Hl:Nat→Hp) (Sh:Nat→Prop) (wa:Addr) (r:Nat) (cl:Bool) (Gone Live Heir Say:Nat→Prop) (t:Trace):Prop where
  clean: ∀said,¬Race said t
  low: ∀i a b,touchAt t i=some a→blk a.loc=some b→b<lim
  base: ∀i a b,touchAt t i=some a→blk a.loc=some b→b<n→a.write=false
  plain: ∀i a b,touchAt t i=some a→blk a.loc=some b→Sh b∨a.kind= .plain
  known: ∀g,∀c∈Hl g,∀i a,touchAt t i=some a→blk a.loc=some c.b→(c.rw=true∨a.write=true)→Knows t g i
  sh: ∀b,Sh b→ ∀i a,touchAt t i=some a→blk a.loc=some b→(a.kind= .plain→ ∀g,Live g→Knows t g i)∧(a.kind= .said→ ∀g,Say g→Knows t g i)
  gone:cl=false→ ∀(i:Nat) (x:MemOp),t[i]?=some x→Gone x.g→t.counts i→Rel t wa i∨Knows t 0 i
  heir:cl=false→ ∀j,Heir j→ ∀(i:Nat) (x:MemOp),t[i]?=some x→Gone x.g→t.counts i→Knows t j i∨Knows t 0 i
  shut:cl=true→ ∀(i:Nat) (x:MemOp),t[i]?=some x→x.g≠0→t.counts i→Cl t r i∨Knows t 0 i
  norel: ∀a,NoRelease a t
  gs: ∀op∈t,op.g<gn
section
variable {n lim lim' gn:Nat} {Hl Hl':Nat→Hp} {r:Nat} {Gone Gone' Live Live' Heir Heir' Say Say':Nat→Prop} {t u:Trace}
theorem jc8 {t:Trace} {y:MemOp} (h: ∀b,y.act.touch?=some b→b.kind= .atomic∧0<Deaf t y.g): ¬(t++ #[y]).counts t.size:=by
  rintro ⟨a,ha,_,hk⟩;obtain ⟨z,hz,hza⟩:=touch_of ha
  rw [jcQ] at hz
  obtain rfl:=gD hz
  obtain ⟨k1,k2⟩:=h a hza
  rcases hk with hk|hk
  · exact absurd k1 hk
  · exact absurd hk (jiI k2)
theorem TC.one (T:TC n lim gn Hl Sh wa r cl Gone Live Heir Say t) (y:MemOp) (hg:y.g<gn) (hlv: ∀b,y.act.touch?=some b→Live y.g) (hSh: ∀b,Sh b→n≤b∧b<lim) (apH: ∀b,Sh b→ ∀g,∀c∈Hl g,c.b≠b)
    (ok: ∀b,y.act.touch?=some b→(∃s,blk b.loc=some s∧Sh s)∧(b.kind= .atomic∨(b.kind= .said∧Say y.g∧ ∀g,Say g→g=y.g)))
    (nr: ∀a,y.act≠ .mark (.release a)) (hgo:Gone y.g→ ∀b,y.act.touch?=some b→b.kind= .atomic∧0<Deaf t y.g) (hcl:cl=true→y.g≠0→Gone y.g):
    TC n lim gn Hl Sh wa r cl Gone Live Heir Say (t++ #[y]):=by
  refine ⟨fun said=>noRace_append (g:=y.g) (T.clean said) (fun op hop=>?_) fun i a ha op hop b hb hc=>?_,fun i a b ha hb=>?_,fun i a b ha hb hlt=>?_,fun i a b ha hb=>?_,fun g c hc i a ha hb hor=>?_,fun b hb i a ha hl=>?_,fun hc i x hx hG hct=>?_,fun hc j hj i x hx hG hct=>?_,fun hc i x hx h0 hct=>?_,
    fun a=>(T.norel a).app fun op hop=>?_,fun op hop=>?_⟩
  · have:op=y:=by simpa using hop
    subst this;rfl
  · have:op=y:=by simpa using hop
    subst this
    obtain ⟨⟨s,hs,hS⟩,hk⟩:=ok b hb
    have hl:blk a.loc=some s:=by rw [hc.1];exact hs
    obtain ⟨p1,p2⟩:=T.sh s hS i a ha hl
    rcases hc.2.2.2 with h|h|⟨_,h,h'⟩
    · exact p1 h _ (hlv b hb)
    · rcases hk with hk|⟨hk,_⟩<;>(rw [hk] at h;cases h)
    · rcases hk with hk|⟨_,h0,_⟩
      · rw [hk] at h';cases h'
      · exact p2 h _ h0
  · rcases jdF ha with ha|⟨_,ha⟩
    · exact T.low i a b ha hb
    · obtain ⟨⟨s,hs,hS⟩,_⟩:=ok a ha
      rw [hs] at hb
      obtain rfl:=gD hb
      exact (hSh _ hS).2
  · rcases jdF ha with ha|⟨_,ha⟩
    · exact T.base i a b ha hb hlt
    · obtain ⟨⟨s,hs,hS⟩,_⟩:=ok a ha
      rw [hs] at hb
      obtain rfl:=gD hb
      have:=(hSh _ hS).1;omega
  · rcases jdF ha with ha|⟨_,ha⟩
    · exact T.plain i a b ha hb
    · obtain ⟨⟨s,hs,hS⟩,_⟩:=ok a ha
      rw [hs] at hb
      obtain rfl:=gD hb
      exact .inl hS
  · rcases jdF ha with ha|⟨_,ha⟩
    · exact (T.known g c hc i a ha hb hor).app _
    · obtain ⟨⟨s,hs,hS⟩,_⟩:=ok a ha
      rw [hs] at hb
      exact absurd (gD hb).symm (apH s hS g c hc)
  · rcases jdF ha with ha|⟨ei,ha⟩
    · obtain ⟨p1,p2⟩:=T.sh b hb i a ha hl
      exact ⟨fun h g hg=>(p1 h g hg).app _,fun h g hg=>(p2 h g hg).app _⟩
    · obtain ⟨_,hk⟩:=ok a ha
      refine ⟨fun h=>?_,fun h=>?_⟩
      · rcases hk with hk|⟨hk,_⟩<;>(rw [hk] at h;cases h)
      · rcases hk with hk|⟨_,_,h0⟩
        · rw [hk] at h;cases h
        · intro g hg'
          rw [h0 g hg',ei];exact knows_own (jcQ t y)
  · rcases jcb hx with ⟨hi,hx'⟩|⟨rfl,rfl⟩
    · exact (T.gone hc i x hx' hG ((counts_old hi).1 hct)).imp (fun h=>h.app _) fun h=>h.app _
    · exact absurd hct (jc8 (hgo hG))
  · rcases jcb hx with ⟨hi,hx'⟩|⟨rfl,rfl⟩
    · exact (T.heir hc j hj i x hx' hG ((counts_old hi).1 hct)).imp (fun h=>h.app _) fun h=>h.app _
    · exact absurd hct (jc8 (hgo hG))
  · rcases jcb hx with ⟨hi,hx'⟩|⟨rfl,rfl⟩
    · exact (T.shut hc i x hx' h0 ((counts_old hi).1 hct)).imp (fun h=>h.app _) fun h=>h.app _
    · exact absurd hct (jc8 (hgo (hcl hc h0)))
  · have:op=y:=by simpa using hop
    subst this;exact nr a
  · rcases vU.1 hop with h|h
    · exact T.gs op h
    · have:op=y:=by simpa using h
      subst this;exact hg
theorem TC.weak (T:TC n lim gn Hl Sh wa r cl Gone Live Heir Say t) (hlim:lim≤lim') (key: ∀g,∀c'∈Hl' g,∃c∈Hl g,c.b=c'.b∧(c'.rw=true→c.rw=true)):TC n lim' gn Hl' Sh wa r cl Gone Live Heir Say t:=
  ⟨T.clean,fun i a b ha hb=>GP (T.low i a b ha hb) hlim,T.base,T.plain,fun g c' hc' i a ha hb hor=>by
    obtain ⟨c,hc,e,hr⟩:=key g c' hc'
    exact T.known g c hc i a ha (e▸hb) (hor.imp hr id),T.sh,T.gone,T.heir,T.shut,T.norel,T.gs⟩
theorem TC.less (T:TC n lim gn Hl Sh wa r cl Gone Live Heir Say t) (hl: ∀g,Live' g→Live g) (hG: ∀g,Gone' g→Gone g) (hH: ∀g,Heir' g→Heir g) (hS: ∀g,Say' g→Say g):TC n lim gn Hl Sh wa r cl Gone' Live' Heir' Say' t:=
  ⟨T.clean,T.low,T.base,T.plain,T.known,fun b hb i a ha hx=>⟨fun h g hg=>(T.sh b hb i a ha hx).1 h g (hl g hg),fun h g hg=>(T.sh b hb i a ha hx).2 h g (hS g hg)⟩,
    fun hc i x hx hg=>T.gone hc i x hx (hG _ hg),fun hc j hj i x hx hg=>T.heir hc j (hH j hj) i x hx (hG _ hg),T.shut,T.norel,T.gs⟩
theorem TC.bye (T:TC n lim gn Hl Sh wa r cl Gone Live Heir Say t) {y:MemOp} (hy:y.act= .mark (.releaseMerge wa)) (hd:Deaf t y.g=0) (T':TC n lim gn Hl Sh wa r cl Gone Live Heir Say (t++ #[y])) (hG: ∀g,Gone' g→Gone g∨g=y.g) (hH: ∀g,¬Heir g):
    TC n lim gn Hl Sh wa r cl Gone' Live Heir Say (t++ #[y]):=by
  refine ⟨T'.clean,T'.low,T'.base,T'.plain,T'.known,T'.sh,fun hc i x hx hg hct=>?_,fun _ j hj=>absurd hj (hH j),T'.shut,T'.norel,T'.gs⟩
  rcases hG _ hg with h|h
  · exact T'.gone hc i x hx h hct
  · rcases jcb hx with ⟨hi,hx'⟩|⟨rfl,rfl⟩
    · refine .inl (released hy hd ?_)
      rw [←h];exact knows_own hx'
    · exact absurd hct (jc8 fun b hb=>by rw [hy] at hb;cases hb)
theorem TC.inherit (T:TC n lim gn Hl Sh wa r cl Gone Live Heir Say t) {y:MemOp} (hy:y.act= .mark (.acquire wa)) (hd:Deaf t y.g=0) (T':TC n lim gn Hl Sh wa r cl Gone Live Heir Say (t++ #[y])) (hH: ∀g,Heir' g→Heir g∨g=y.g):
    TC n lim gn Hl Sh wa r cl Gone Live Heir' Say (t++ #[y]):=by
  refine ⟨T'.clean,T'.low,T'.base,T'.plain,T'.known,T'.sh,T'.gone,fun hc j hj i x hx hg hct=>?_,T'.shut,T'.norel,T'.gs⟩
  rcases hH _ hj with h|rfl
  · exact T'.heir hc j h i x hx hg hct
  · rcases jcb hx with ⟨hi,hx'⟩|⟨rfl,rfl⟩
    · rcases T.gone hc i x hx' hg ((counts_old hi).1 hct) with h|h
      · exact .inl (acquired (T.norel wa) hy hd h)
      · exact .inr (h.app _)
    · exact absurd hct (jc8 fun b hb=>by rw [hy] at hb;cases hb)
theorem TC.close (T:TC n lim gn Hl Sh wa r false Gone Live Heir Say t) {y:MemOp} (hy:y.act= .close r) (hd:Deaf t y.g=0) (T':TC n lim gn Hl Sh wa r false Gone Live Heir Say (t++ #[y])) (hH:Heir y.g) (hall: ∀g,g≠0→g<gn→g≠y.g→Gone g):
    TC n lim gn Hl Sh wa r true Gone' Live Heir' Say (t++ #[y]):=by
  have own: ∀i,Knows t y.g i→Cl (t++ #[y]) r i:=fun i h=>⟨t.size,by rw [act?_of (jcQ t y),hy],jeM hd,.inr (h.hb_new (gK _) (jcQ t y) rfl)⟩
  refine ⟨T'.clean,T'.low,T'.base,T'.plain,T'.known,T'.sh,(fun h=>by cases h),(fun h=>by cases h),fun _ i x hx h0 hct=>?_,T'.norel,T'.gs⟩
  rcases jcb hx with ⟨hi,hx'⟩|⟨rfl,rfl⟩
  · by_cases e:x.g=y.g
    · refine .inl (own i ?_)
      rw [←e];exact knows_own hx'
    · have hlt:=T.gs x (VI hx')
      rcases T.heir rfl _ hH i x hx' (hall _ h0 hlt e) ((counts_old hi).1 hct) with h|h
      · exact .inl (own i h)
      · exact .inr (h.app _)
  · exact absurd hct (jc8 fun b hb=>by rw [hy] at hb;cases hb)
theorem TC.heard0 (T:TC n lim gn Hl Sh wa r true Gone Live Heir Say t) {y:MemOp} (h0:y.g=0) (hy:y.act= .recvClosed r) (hd:Deaf t y.g=0):
    ∀(i:Nat) (x:MemOp),(t++ #[y])[i]?=some x→x.g≠0→(t++ #[y]).counts i→Knows (t++ #[y]) 0 i:=by
  intro i x hx hx0 hct
  rcases jcb hx with ⟨hi,hx'⟩|⟨rfl,rfl⟩
  · rcases T.shut rfl i x hx' hx0 ((counts_old hi).1 hct) with ⟨p,h1,h2,h3⟩|h
    · have hp:=lt_of_act? h1
      refine ⟨t.size,y,jcQ t y,h0,.inr ((h3.app _).hb ?_)⟩
      exact .single (.inr ⟨.closed (by rw [act?_old hp];exact h1) (by rw [act?_of (jcQ t y),hy]),(heard_old hp).2 h2,jeM hd⟩)
    · exact h.app _
  · exact absurd h0 hx0
theorem TC.own (T:TC n lim gn Hl Sh wa r cl Gone Live Heir Say t) (hn:B.size=n) {g:Nat} (hgn:g<gn) {w:World} {es:Array Event} (hlim:w.heap.size=lim) (hlim':w'.heap.size=lim') (st:Stp B (Hl g) h' w w' es)
    (hs: ∀j,Sat B (Hl j) w) (ap: ∀j,j≠g→ApH (Hl j) (Hl g)) (hSh: ∀b,Sh b→n≤b∧b<lim) (apS: ∀b,Sh b→ ∀c∈Hl g,c.b≠b) (hL: ¬Gone g) (hcl:cl=true→g=0) (fn:FuncId) (pos:String):
    TC n lim' gn (jch Hl g h') Sh wa r cl Gone Live Heir Say (t++MemOp.ofEvents g fn pos es):=by
  subst hlim;subst hlim';subst hn
  have hev: ∀op∈MemOp.ofEvents g fn pos es,op.g=g∧(∀m,op.act= .mark m→Neutral m)∧ ∀a,op.act.touch?=some a→a.kind= .plain∧ ∃b,blk a.loc=some b∧Allowed B (Hl g) w.heap.size w'.heap.size a.write b:=by
    intro op hop
    obtain ⟨e,he,rfl⟩:=jdw hop
    refine ⟨rfl,(st.evs e he).word,fun a ha=>⟨?_,(st.evs e he).touch ha⟩⟩
    rcases st.evs e he with rfl|⟨hsy,o⟩
    · cases ha
    · obtain ⟨l,wr,sy⟩:=e
      simp only at hsy
      subst hsy
      cases l with
      |cell x=>
        have:a=⟨.cell x,wr,.plain⟩:=by simpa [MemAct.ofEvent,MemAct.touch?] using ha.symm
        rw [this]
      |obj x=>
        have:a=⟨.obj x,wr,.plain⟩:=by simpa [MemAct.ofEvent,MemAct.touch?] using ha.symm
        rw [this]
      |output=>exact o.elim
      |goroutines=>exact o.elim
      |mark m=>exact o.elim
  have hnew: ∀op∈MemOp.ofEvents g fn pos es,∀a b,op.act.touch?=some a→blk a.loc=some b→Allowed B (Hl g) w.heap.size w'.heap.size a.write b:=fun op hop a b ha hb=>by
    obtain ⟨b',hb',hal⟩:=((hev op hop).2.2 a ha).2
    rw [hb] at hb'
    obtain rfl:=gD hb'
    exact hal
  refine ⟨fun said=>noRace_append (T.clean said) (fun op hop=>(hev op hop).1) fun i a ha op hop b hb hc=>?_,fun i a b ha hb=>?_,fun i a b ha hb hlt=>?_,fun i a b ha hb=>?_,fun j c hc i a ha0 hb hor=>?_,fun b hb i a ha hl=>?_,fun hc i x hx hg ht=>?_,fun hc j hj i x hx hg ht=>?_,fun hc i x hx h0 ht=>?_,
    fun a=>(T.norel a).app fun op hop e=>?_,fun op hop=>?_⟩
  · obtain ⟨bb,hbb,hal⟩:=((hev op hop).2.2 b hb).2
    have e:blk a.loc=some bb:=by rw [hc.1];exact hbb
    rcases hal with hal|⟨d,hd,e',hr⟩|⟨h1,h2⟩
    · have:=T.low i a bb ha e;omega
    · exact T.known g d hd i a ha (by rw [e'];exact e) (hc.2.2.1.symm.imp hr id)
    · have:=T.base i a bb ha e h2
      rcases hc.2.2.1 with h3|h3
      · rw [this] at h3;cases h3
      · rw [h1] at h3;cases h3
  · rcases jb2 ha with ha|⟨op,ho,_,hoa⟩
    · exact GP (T.low i a b ha hb) st.size
    · rcases hnew op ho a b hoa hb with hal|⟨d,hd,e',_⟩|⟨_,h2⟩
      · exact hal.2
      · have:=(hs g).lt hd;have:=st.size;omega
      · have:=(hs g).size;have:=st.size;omega
  · rcases jb2 ha with ha|⟨op,ho,_,hoa⟩
    · exact T.base i a b ha hb hlt
    · rcases hnew op ho a b hoa hb with hal|⟨d,hd,e',hr⟩|⟨h1,h2⟩
      · have:=(hs g).size;omega
      · have:=((hs g).mem d hd).1;omega
      · exact h1
  · rcases jb2 ha with ha|⟨op,ho,_,hoa⟩
    · exact T.plain i a b ha hb
    · exact .inr ((hev op ho).2.2 a hoa).1
  · rcases jb2 ha0 with ha|⟨op,ho,hx,hoa⟩
    · by_cases e:j=g
      · subst e
        rw [updH_same] at hc
        rcases st.key c hc with k|⟨d,hd,e',hr⟩
        · have:=T.low i a c.b ha hb;omega
        · exact (T.known j d hd i a ha (by rw [e'];exact hb) (hor.imp hr id)).app _
      · rw [jan _ _ e] at hc
        exact (T.known j c hc i a ha hb hor).app _
    · by_cases e:j=g
      · subst e
        have:=knows_own hx
        rwa [(hev op ho).1] at this
      · rw [jan _ _ e] at hc
        exfalso
        rcases hnew op ho a c.b hoa hb with hal|⟨d,hd,e',hr⟩|⟨h1,h2⟩
        · have:=(hs j).lt hc;omega
        · exact ap j e c hc d hd (hor.imp id hr) e'.symm
        · have:=((hs j).mem c hc).1;omega
  · rcases jb2 ha with ha|⟨op,ho,hx,hoa⟩
    · obtain ⟨p1,p2⟩:=T.sh b hb i a ha hl
      exact ⟨fun h g hg=>(p1 h g hg).app _,fun h g hg=>(p2 h g hg).app _⟩
    · exfalso
      have:=hSh b hb
      rcases hnew op ho a b hoa hl with hal|⟨d,hd,e',hr⟩|⟨h1,h2⟩
      · omega
      · exact apS b hb d hd e'
      · omega
  · rcases getElem?_append_cases hx with ⟨hi,hx'⟩|⟨_,hxu⟩
    · exact (T.gone hc i x hx' hg ((counts_old hi).1 ht)).imp (fun h=>h.app _) fun h=>h.app _
    · exact absurd ((hev x hxu).1▸hg) hL
  · rcases getElem?_append_cases hx with ⟨hi,hx'⟩|⟨_,hxu⟩
    · exact (T.heir hc j hj i x hx' hg ((counts_old hi).1 ht)).imp (fun h=>h.app _) fun h=>h.app _
    · exact absurd ((hev x hxu).1▸hg) hL
  · rcases getElem?_append_cases hx with ⟨hi,hx'⟩|⟨_,hxu⟩
    · exact (T.shut hc i x hx' h0 ((counts_old hi).1 ht)).imp (fun h=>h.app _) fun h=>h.app _
    · exact absurd ((hev x hxu).1.trans (hcl hc)) h0
  · have:=(hev op hop).2.1 _ e;cases this
  · rcases vU.1 hop with h|h
    · exact T.gs op h
    · rw [(hev op h).1];exact hgn
theorem TC.share (T:TC n lim gn Hl Sh wa r cl Gone Live Heir Say t) (hlv: ∀g,Live g→g=0) (hk: ∀(i:Nat) (x:MemOp),t[i]?=some x→x.g≠0→t.counts i→Knows t 0 i) {wa':Addr} {r':Nat} (hS: ∀b,Sh b→Sh' b)
    (kS: ∀b,Sh' b→Sh b∨ ∃c∈Hl 0,c.b=b∧c.rw=true) (k1: ∀x'∈h',∃x∈Hl 0,x.b=x'.b∧(x'.rw=true→x.rw=true)) (hs0: ∀g,Say' g→g=0) (hsay: ∀g,Say' g→Say g) (hH: ∀g,¬Heir' g):
    TC n lim gn (jch Hl 0 h') Sh' wa' r' false (fun g=>g≠0∧Gone' g) Live Heir' Say' t:=by
  refine ⟨T.clean,T.low,T.base,fun i a b ha hb=>(T.plain i a b ha hb).imp (hS b) id,fun g c hc i a ha hb hor=>?_,fun b hb i a ha hl=>?_,fun _ i x hx hg hct=> .inr (hk i x hx hg.1 hct),fun _ j hj=>absurd hj (hH j),(fun h=>by cases h),T.norel,T.gs⟩
  · by_cases e:g=0
    · subst e
      rw [updH_same] at hc
      obtain ⟨x,hx,e,hr⟩:=k1 c hc
      exact T.known 0 x hx i a ha (by rw [e];exact hb) (hor.imp hr id)
    · rw [jan _ _ e] at hc
      exact T.known g c hc i a ha hb hor
  · rcases kS b hb with h|⟨c,hc,e,hr⟩
    · exact ⟨(T.sh b h i a ha hl).1,fun hk' g hg=>(T.sh b h i a ha hl).2 hk' g (hsay g hg)⟩
    · have:=T.known 0 c hc i a ha (by rw [e];exact hl) (.inl hr)
      exact ⟨fun _ g hg=>by obtain rfl:=hlv g hg;exact this,fun _ g hg=>by rw [hs0 g hg];exact this⟩
theorem TC.spawn (T:TC n lim gn Hl Sh wa r cl Gone Live Heir Say t) {g:Nat} (hgn:g<gn) (hlv:Live g) (hsy:Say g) (hlv': ∀j,Live' j→Live j∨j=gn) (hsy': ∀j,Say' j→Say j∨j=gn) (hlim:lim≤lim') {hg hc:Hp} (k1: ∀x'∈hg,∃x∈Hl g,x.b=x'.b∧(x'.rw=true→x.rw=true)) (k2: ∀x'∈hc,∃x∈Hl g,x.b=x'.b∧(x'.rw=true→x.rw=true))
    (hd:Deaf t g=0) (fh:FuncId) (ph:String) (fc:FuncId):
    TC n lim' (gn+1) (jch (jch Hl g hg) gn hc) Sh wa r cl Gone Live' Heir Say' (t++ #[{g:=g,fn:=fh,pos:=ph,act:= .go gn},{g:=gn,fn:=fc,pos:=ph,act:= .start}]):=by
  have hdc:Deaf t gn=0:=jij fun op hop=>by have:=T.gs op hop;omega
  generalize hu:(#[{g:=g,fn:=fh,pos:=ph,act:= .go gn},{g:=gn,fn:=fc,pos:=ph,act:= .start}]:Trace)=u
  have mem: ∀op∈u,op={g:=g,fn:=fh,pos:=ph,act:= .go gn}∨op={g:=gn,fn:=fc,pos:=ph,act:= .start}:=by
    intro op hop
    subst hu
    simpa using hop
  have hn: ∀op∈u,op.act.touch?=none:=fun op hop=>by rcases mem op hop with rfl|rfl<;>rfl
  have e0:(t++u)[t.size]?=some {g:=g,fn:=fh,pos:=ph,act:= .go gn}:=by subst hu;simp
  have e1:(t++u)[t.size+1]?=some {g:=gn,fn:=fc,pos:=ph,act:= .start}:=by subst hu;simp
  have hh0:(t++u).heard t.size:=⟨g,g?_of e0,by rw [deaf_old (gK _)];exact hd⟩
  have hh1:(t++u).heard (t.size+1):=⟨gn,g?_of e1,by rw [deaf_succ e0,deaf_old (gK _)];exact hdc⟩
  have edge:HappensBefore (t++u) t.size (t.size+1):=Relation.TransGen.single (.inr ⟨.spawn (act?_of e0) (act?_of e1) (g?_of e1),hh0,hh1⟩)
  have told: ∀i a,touchAt (t++u) i=some a→touchAt t i=some a:=fun i a ha=>by
    rcases jb2 ha with h|⟨op,ho,_,hoa⟩
    · exact h
    · rw [hn op ho] at hoa;cases hoa
  have newc: ∀i (x:MemOp),(t++u)[i]?=some x→x∈u→(t++u).counts i→False:=fun i x hx hxu ht=>by
    obtain ⟨a,ha,_⟩:=ht
    obtain ⟨z,hz,hza⟩:=touch_of ha
    rw [hx] at hz
    obtain rfl:=gD hz
    rw [hn _ hxu] at hza;cases hza
  have pass: ∀i,Knows t g i→Knows (t++u) gn i:=fun i h=>⟨t.size+1,_,e1,rfl,.inr ((h.hb_new (gK _) e0 rfl).trans edge)⟩
  refine ⟨fun said=>noRace_appendMute (T.clean said) hn,fun i a b ha hb=>GP (T.low i a b (told i a ha) hb) hlim,fun i a b ha hb hlt=>T.base i a b (told i a ha) hb hlt,fun i a b ha hb=>T.plain i a b (told i a ha) hb,fun j x hx i a ha hb hor=>?_,
    fun b hb i a ha hl=>?_,fun hc i x hx hg' ht=>?_,fun hc j hj i x hx hg' ht=>?_,fun hc i x hx h0 ht=>?_,fun a=>(T.norel a).app fun op hop e=>?_,fun op hop=>?_⟩
  · have ha:=told i a ha
    by_cases ec:j=gn
    · subst ec
      rw [updH_same] at hx
      obtain ⟨y,hy,e,hr⟩:=k2 x hx
      exact pass i (T.known g y hy i a ha (by rw [e];exact hb) (hor.imp hr id))
    · rw [jan _ _ ec] at hx
      by_cases eg:j=g
      · subst eg
        rw [updH_same] at hx
        obtain ⟨y,hy,e,hr⟩:=k1 x hx
        exact (T.known j y hy i a ha (by rw [e];exact hb) (hor.imp hr id)).app u
      · rw [jan _ _ eg] at hx
        exact (T.known j x hx i a ha hb hor).app u
  · obtain ⟨p1,p2⟩:=T.sh b hb i a (told i a ha) hl
    refine ⟨fun h j hj=>?_,fun h j hj=>?_⟩
    · rcases hlv' j hj with e|e
      · exact (p1 h j e).app u
      · subst e;exact pass i (p1 h g hlv)
    · rcases hsy' j hj with e|e
      · exact (p2 h j e).app u
      · subst e;exact pass i (p2 h g hsy)
  · rcases getElem?_append_cases hx with ⟨hi,hx'⟩|⟨_,hxu⟩
    · exact (T.gone hc i x hx' hg' ((counts_old hi).1 ht)).imp (fun h=>h.app _) fun h=>h.app _
    · exact (newc i x hx hxu ht).elim
  · rcases getElem?_append_cases hx with ⟨hi,hx'⟩|⟨_,hxu⟩
    · exact (T.heir hc j hj i x hx' hg' ((counts_old hi).1 ht)).imp (fun h=>h.app _) fun h=>h.app _
    · exact (newc i x hx hxu ht).elim
  · rcases getElem?_append_cases hx with ⟨hi,hx'⟩|⟨_,hxu⟩
    · exact (T.shut hc i x hx' h0 ((counts_old hi).1 ht)).imp (fun h=>h.app _) fun h=>h.app _
    · exact (newc i x hx hxu ht).elim
  · rcases mem op hop with rfl|rfl<;>cases e
  · rcases vU.1 hop with h|h
    · have:=T.gs op h;omega
    · rcases mem op h with rfl|rfl
      · simp only;omega
      · simp only;omega
theorem TC.meet (T:TC n lim gn Hl Sh wa r cl Gone Live Heir Say t) {i:Nat} (hi0:i≠0) (hin:i<gn) (h0n:0<gn) {hp:Hp} (k1: ∀x'∈hr,∃x∈Hl i,x.b=x'.b∧(x'.rw=true→x.rw=true)) (k2: ∀x'∈hp,∃x∈Hl i,x.b=x'.b∧(x'.rw=true→x.rw=true))
    (hdi:Deaf t i=0) (hd0:Deaf t 0=0) (fh:FuncId) (ph:String) (fj:FuncId) (pj:String) (c k cap:Nat):
    TC n lim gn (jch (jch Hl i hr) 0 (Hl 0++hp)) Sh wa r cl Gone Live Heir Say (t++met i 0 fh ph fj pj c k cap):=by
  generalize hu:met i 0 fh ph fj pj c k cap=u
  have mem: ∀op∈u,(op.g=i∨op.g=0)∧op.act.touch?=none∧ ∀m,op.act≠ .mark m:=by
    intro op hop
    subst hu
    simp only [met,Vn,gN,vJ,or_false] at hop
    rcases hop with rfl|rfl|rfl|rfl
    · exact ⟨.inl rfl,rfl,fun m h=>by cases h⟩
    · exact ⟨.inr rfl,rfl,fun m h=>by cases h⟩
    · exact ⟨.inl rfl,rfl,fun m h=>by cases h⟩
    · exact ⟨.inr rfl,rfl,fun m h=>by cases h⟩
  have hn: ∀op∈u,op.act.touch?=none:=fun op hop=>(mem op hop).2.1
  have e0:(t++u)[t.size]?=some {g:=i,fn:=fh,pos:=ph,act:= .send c k}:=by subst hu;simp [met]
  have e3:(t++u)[t.size+3]?=some {g:=0,fn:=fj,pos:=pj,act:= .recvDone c k}:=by subst hu;simp [met]
  have e1:(t++u)[t.size+1]?=some {g:=0,fn:=fj,pos:=pj,act:= .recv c k cap}:=by subst hu;simp [met]
  have e2:(t++u)[t.size+2]?=some {g:=i,fn:=fh,pos:=ph,act:= .sendDone c k}:=by subst hu;simp [met]
  have hh0:(t++u).heard t.size:=⟨i,g?_of e0,by rw [deaf_old (gK _)];exact hdi⟩
  have hh3:(t++u).heard (t.size+3):=⟨0,g?_of e3,by rw [deaf_succ e2,deaf_succ e1,deaf_succ e0,deaf_old (gK _)];exact hd0⟩
  have edge:HappensBefore (t++u) t.size (t.size+3):=Relation.TransGen.single (.inr ⟨.handOver (act?_of e0) (act?_of e3),hh0,hh3⟩)
  have told: ∀i a,touchAt (t++u) i=some a→touchAt t i=some a:=fun i a ha=>by
    rcases jb2 ha with h|⟨op,ho,_,hoa⟩
    · exact h
    · rw [hn op ho] at hoa;cases hoa
  have newc: ∀i (x:MemOp),(t++u)[i]?=some x→x∈u→(t++u).counts i→False:=fun i x hx hxu ht=>by
    obtain ⟨a,ha,_⟩:=ht
    obtain ⟨z,hz,hza⟩:=touch_of ha
    rw [hx] at hz
    obtain rfl:=gD hz
    rw [hn _ hxu] at hza;cases hza
  have pass: ∀q,Knows t i q→Knows (t++u) 0 q:=fun q h=>⟨t.size+3,_,e3,rfl,.inr ((h.hb_new (gK _) e0 rfl).trans edge)⟩
  refine ⟨fun said=>noRace_appendMute (T.clean said) hn,fun i a b ha hb=>T.low i a b (told i a ha) hb,fun i a b ha hb hlt=>T.base i a b (told i a ha) hb hlt,fun i a b ha hb=>T.plain i a b (told i a ha) hb,fun j x hx q a ha hb hor=>?_,
    fun b hb q a ha hl=>?_,fun hc q x hx hg' ht=>?_,fun hc j hj q x hx hg' ht=>?_,fun hc q x hx h0 ht=>?_,fun a=>(T.norel a).app fun op hop e=>?_,fun op hop=>?_⟩
  · have ha:=told q a ha
    by_cases ej:j=0
    · subst ej
      rw [updH_same] at hx
      rcases gO.1 hx with hx|hx
      · exact (T.known 0 x hx q a ha hb hor).app _
      · obtain ⟨y,hy,e,hr⟩:=k2 x hx
        exact pass q (T.known i y hy q a ha (by rw [e];exact hb) (hor.imp hr id))
    · rw [jan _ _ ej] at hx
      by_cases eg:j=i
      · subst eg
        rw [updH_same] at hx
        obtain ⟨y,hy,e,hr⟩:=k1 x hx
        exact (T.known j y hy q a ha (by rw [e];exact hb) (hor.imp hr id)).app u
      · rw [jan _ _ eg] at hx
        exact (T.known j x hx q a ha hb hor).app u
  · obtain ⟨p1,p2⟩:=T.sh b hb q a (told q a ha) hl
    exact ⟨fun h j hj=>(p1 h j hj).app u,fun h j hj=>(p2 h j hj).app u⟩
  · rcases getElem?_append_cases hx with ⟨hi,hx'⟩|⟨_,hxu⟩
    · exact (T.gone hc q x hx' hg' ((counts_old hi).1 ht)).imp (fun h=>h.app _) fun h=>h.app _
    · exact (newc q x hx hxu ht).elim
  · rcases getElem?_append_cases hx with ⟨hi,hx'⟩|⟨_,hxu⟩
    · exact (T.heir hc j hj q x hx' hg' ((counts_old hi).1 ht)).imp (fun h=>h.app _) fun h=>h.app _
    · exact (newc q x hx hxu ht).elim
  · rcases getElem?_append_cases hx with ⟨hi,hx'⟩|⟨_,hxu⟩
    · exact (T.shut hc q x hx' h0 ((counts_old hi).1 ht)).imp (fun h=>h.app _) fun h=>h.app _
    · exact (newc q x hx hxu ht).elim
  · exact (mem op hop).2.2 _ e
  · rcases vU.1 hop with h|h
    · exact T.gs op h
    · rcases (mem op h).1 with e|e<;>omega
theorem TC.zero {h0:Hp}:TC n lim gn (fun _=>h0) (fun _=>False) wa r cl Gone Live Heir Say #[]:=by
  have none: ∀i a,touchAt (#[]:Trace) i=some a→False:=fun i a ha=>by
    obtain ⟨x,hx,_⟩:=touch_of ha
    simp at hx
  exact ⟨fun said=>by rintro ⟨i,j,_,⟨a,b,ha,_⟩,_⟩;exact none i a ha,fun i a b ha=>(none i a ha).elim,fun i a b ha=>(none i a ha).elim,fun i a b ha=>(none i a ha).elim,fun g c _ i a ha=>(none i a ha).elim,
    fun b hb=>hb.elim,fun _ i x hx=>by simp at hx,fun _ _ _ i x hx=>by simp at hx,fun _ i x hx=>by simp at hx,fun a i=>by simp [Trace.act?],fun op hop=>by simp at hop⟩
end
inductive QuietC (r:Option Nat):Goroutine→Prop
  |runs {g:Goroutine} (h:g.status= .running):QuietC r g
  |ended {g:Goroutine} (h:g.status= .finished):QuietC r g
  |blocks {g:Goroutine} (h:g.status= .blocked) (ho:g.offers=none):QuietC r g
  |parks {g:Goroutine} {c:CommCase} {shape:CommShape} {q:Nat} (hr:r=some q) (hc:c.chan= .chan (some q)):QuietC r (parked g #[c] shape)
def jbz (cl:Bool) (g:Goroutine):Goroutine:=if g.status= .blocked then (if g.offers.isNone||cl then {g with status:= .running} else g) else g
theorem QuietC.woken {P:Program} {g a a':Goroutine} {w:World} (q:QuietC r g) (ch: ∀q,r=some q→ ∃k tm,w.heap[q]?=some (.chan 0 #[] cl k k tm)):woken P a a' w g=if mayWake P a&&a'.status != .blocked&&a'.status != .waiting then jbz cl g else g:=by
  unfold Conc.woken
  split
  · cases q with
    |runs h=>unfold Goroutine.again jbz;rw [h,if_neg zA]
    |ended h=>unfold Goroutine.again jbz;rw [h,if_neg zA]
    |blocks h ho=>unfold Goroutine.again jbz;rw [h,ho,if_pos rfl];rfl
    | @parks g c shape q hr hc=>
      obtain ⟨k,tm,e⟩:=ch q hr
      cases cl<;>simp [Goroutine.again,jbz,parked,hc,e]
  · rfl
theorem QuietC.awoken {g:Goroutine} (q:QuietC r g):QuietC r (jbz cl g):=by
  unfold jbz
  split
  · split
    · exact .runs rfl
    · exact q
  · exact q
theorem QuietC.awake' {g:Goroutine} (q:QuietC r g):awake g:=by
  cases q with
  |runs h=>exact awake_of (.inl h)
  |ended h=>exact awake_of (.inr (.inr h))
  |blocks h ho=>exact awake_of (.inr (.inl h))
  |parks hr hc=>exact awake_of (.inr (.inl rfl))
def jrp (r:Option Nat) (cl:Bool) (old:Nat→Prop) (Shp:Hp) (w:World):Prop:= ∀q,r=some q→old q∧(∀c∈Shp,c.b≠q)∧ ∃k tm,w.heap[q]?=some (.chan 0 #[] cl k k tm)
structure SEffQ (B:Array Obj) (Shp Shp':Hp) (w w':World):Prop extends SEff B Shp Shp' w w' where
  same:w'.os=w.os
theorem SEffQ.refl {w:World} (h: ∀c∈Shp,c.rw=true):SEffQ B Shp Shp w w:=⟨SEff.refl h,rfl⟩
structure CoreC (B:Array Obj) (W:World) (old:Nat→Prop) (Shp:Hp) (wa:Addr) (r:Option Nat) (cl:Bool) (Gone Live Heir Say:Nat→Prop) (gs:Array Goroutine) (w:World) (t:Trace) (Hl:Nat→Hp):Prop where
  sat: ∀i,Sat B (Hl i) w
  satS:Sat B Shp w
  apart: ∀i j,i≠j→ApH (Hl i) (Hl j)
  apS: ∀i,ApH Shp (Hl i)
  shB: ∀c∈Shp,c.rw=true
  oldB: ∀b,old b→(B.size≤b∧b<w.heap.size)∧ ∀i,∀c∈Hl i,c.b≠b
  tj:TC B.size w.heap.size gs.size Hl (fun b=>old b∨ ∃c∈Shp,c.b=b) wa (r.getD 0) cl Gone Live Heir Say t
  far:w.os=W.os∧w.output=W.output∧w.tape=W.tape
  out: ∀i,gs.size≤i→Hl i=[]
  quiet: ∀(i:Nat) g,gs[i]?=some g→QuietC r g
  chan:jrp r cl old Shp w
section
variable {P:Program} {old:Nat→Prop} {Gone Gone' Live Live' Heir Heir' Say Say':Nat→Prop} {w w':World} {t:Trace} {Hl Hl':Nat→Hp} {sl:Option (Nat×Nat)}
theorem CoreC.wake (c:CoreC B W old Shp wa r cl Gone Live Heir Say gs w t Hl): ∀q,r=some q→ ∃k tm,w.heap[q]?=some (.chan 0 #[] cl k k tm):=fun q e=>(c.chan q e).2.2
theorem CoreC.shared (c:CoreC B W old Shp wa r cl Gone Live Heir Say gs w t Hl):(∀b,(old b∨ ∃c∈Shp,c.b=b)→B.size≤b∧b<w.heap.size)∧(∀b,(old b∨ ∃c∈Shp,c.b=b)→ ∀g,∀d∈Hl g,d.b≠b):=by
  refine ⟨fun b hb=>?_,fun b hb g d hd=>?_⟩
  · rcases hb with hb|⟨x,hx,rfl⟩
    · exact (c.oldB b hb).1
    · exact ⟨(c.satS.mem x hx).1,c.satS.lt hx⟩
  · rcases hb with hb|⟨x,hx,rfl⟩
    · exact (c.oldB b hb).2 g d hd
    · exact fun e=>c.apS g x hx d hd (.inl (c.shB x hx)) e.symm
theorem jbN {g x:Goroutine} {i j:Nat} (q: ∀(i:Nat) g,gs[i]?=some g→QuietC r g) (ch: ∀q,r=some q→ ∃k tm,w'.heap[q]?=some (.chan 0 #[] cl k k tm)) (e:i≠j) (hj:gs[j]?=some x):(after P g g' w' gs i)[j]?=some (if mayWake P g&&g'.status != .blocked&&g'.status != .waiting then jbz cl x else x):=by
  unfold after
  rw [gw e,Array.getElem?_map,hj,Gn,(q j x hj).woken ch]
theorem jgP {g:Goroutine} {i:Nat} (q: ∀(i:Nat) g,gs[i]?=some g→QuietC r g) (ch: ∀q,r=some q→ ∃k tm,w'.heap[q]?=some (.chan 0 #[] cl k k tm)) (q':QuietC r g'): ∀(j:Nat) x,(after P g g' w' gs i)[j]?=some x→QuietC r x:=by
  intro j x hj
  have hlt:j<gs.size:=by have:=(gF.1 hj).1;rwa [jaS] at this
  have hx:gs[j]?=some gs[j]:=gM hlt
  by_cases e:i=j
  · subst e
    rw [ja4 hx] at hj
    exact (gD hj)▸q'
  · rw [jbN q ch e hx] at hj
    obtain rfl:=gD hj
    split
    · exact (q j _ hx).awoken
    · exact q j _ hx
theorem CoreC.at (c:CoreC B W old Shp wa r cl Gone Live Heir Say gs w t Hl) (d:Nat):CoreC B W old Shp wa r cl Gone Live Heir Say gs (w.at d) t Hl:=
  ⟨fun i=>⟨(c.sat i).base,(c.sat i).mem,(c.sat i).apart⟩,⟨c.satS.base,c.satS.mem,c.satS.apart⟩,c.apart,c.apS,c.shB,c.oldB,c.tj,c.far,c.out,c.quiet,c.chan⟩
theorem CoreC.pick (c:CoreC B W old Shp wa r cl Gone Live Heir Say gs w t Hl) (sl:Option (Nat×Nat)) (some1: ∃(i:Nat) (g:Goroutine),gs[i]?=some g∧g.status= .running):
    ∃(i:Nat) (g:Goroutine) (d:Nat) (sl':Option (Nat×Nat)),gs[i]?=some g∧g.status= .running∧stepT P (crowd gs w sl)=runT P (crowd gs (w.at d) sl') i:=
  crowd_pick (fun g hg=>by
    obtain ⟨i,hi⟩:=Array.getElem?_of_mem hg
    exact (c.quiet i g hi).awake') some1
theorem CoreC.less (c:CoreC B W old Shp wa r cl Gone Live Heir Say gs w t Hl) (hl: ∀g,Live' g→Live g) (hG: ∀g,Gone' g→Gone g) (hH: ∀g,Heir' g→Heir g) (hS: ∀g,Say' g→Say g):CoreC B W old Shp wa r cl Gone' Live' Heir' Say' gs w t Hl:=
  ⟨c.sat,c.satS,c.apart,c.apS,c.shB,c.oldB,c.tj.less hl hG hH hS,c.far,c.out,c.quiet,c.chan⟩
theorem CoreC.weak (c:CoreC B W old Shp wa r cl Gone Live Heir Say gs w t Hl) {i:Nat} {h':Hp} (k:Weak B (Hl i) h'):CoreC B W old Shp wa r cl Gone Live Heir Say gs w t (jch Hl i h'):=by
  have key: ∀j,∀d∈jch Hl i h' j,∃x∈Hl j,x.b=d.b∧(d.rw=true→x.rw=true):=fun j d hd=>by
    by_cases e:j=i
    · subst e;rw [updH_same] at hd;exact k.key d hd
    · rw [jan _ _ e] at hd;exact ⟨d,hd,rfl,id⟩
  refine ⟨fun j=>?_,c.satS,fun j l hjl d hd x hx hor=>?_,fun j x hx d hd hor=>?_,c.shB,fun b hb=>⟨(c.oldB b hb).1,fun j d hd=>?_⟩,c.tj.weak (gK _) key,c.far,fun j hj=>?_,c.quiet,c.chan⟩
  · by_cases e:j=i
    · subst e;rw [updH_same];exact k.sat _ (c.sat j)
    · rw [jan _ _ e];exact c.sat j
  · obtain ⟨d',hd',e1,r1⟩:=key j d hd
    obtain ⟨x',hx',e2,r2⟩:=key l x hx
    rw [←e1,←e2];exact c.apart j l hjl d' hd' x' hx' (hor.imp r1 r2)
  · obtain ⟨d',hd',e1,r1⟩:=key j d hd
    rw [←e1];exact c.apS j x hx d' hd' (hor.imp id r1)
  · obtain ⟨x,hx,e,_⟩:=key j d hd
    rw [←e];exact (c.oldB b hb).2 j x hx
  · apply List.eq_nil_iff_forall_not_mem.2
    intro d hd
    obtain ⟨x,hx,_⟩:=key j d hd
    rw [c.out j hj] at hx;simp at hx
theorem CoreC.satAll (c:CoreC B W old Shp wa r cl Gone Live Heir Say gs w t Hl) (i:Nat):Sat B (Hl i++Shp) w:=by
  have s1:=c.sat i
  have s2:=c.satS
  refine ⟨s1.base,fun d hd=>?_,gy.2 ⟨s1.apart,s2.apart,fun a ha b hb hor e=>c.apS i b hb a ha hor.symm e.symm⟩⟩
  rcases gO.1 hd with hd|hd
  · exact s1.mem d hd
  · exact s2.mem d hd
theorem CoreC.own (c:CoreC B W old Shp wa r cl Gone Live Heir Say gs w t Hl) {i:Nat} {g:Goroutine} {es:Array Event} (hi:gs[i]?=some g) (hst:stepG P (i==0) g w= .go g' w' es) (st:Stp B (Hl i) h' w w' es)
    (hG: ¬Gone i) (hcl:cl=true→i=0) (q:QuietC r g'):
    runT P (crowd gs w sl) i=(.next (crowd (after P g g' w' gs i) w' sl),MemOp.ofEvents i g.frame.fn g.frame.place es)∧
      CoreC B W old Shp wa r cl Gone Live Heir Say (after P g g' w' gs i) w' (t++MemOp.ofEvents i g.frame.fn g.frame.place es) (jch Hl i h'):=by
  have hlt:i<gs.size:=(gF.1 hi).1
  obtain ⟨s1,s2⟩:=c.shared
  have keep: ∀(X:Hp),Sat B X w→ApH X (Hl i)→ ∀d∈X,w'.heap[d.b]?=w.heap[d.b]?:=fun X sX ap d hd=>
    st.old d.b (sX.lt hd) fun x hx hr=>fun e=>ap d hd x hx (.inr hr) e.symm
  have satK: ∀(X:Hp),Sat B X w→ApH X (Hl i)→Sat B X w':=fun X sX ap=>⟨st.sat.base,fun d hd=>⟨(sX.mem d hd).1,by rw [keep X sX ap d hd];exact (sX.mem d hd).2⟩,sX.apart⟩
  have one: ∀(X:Hp),Sat B X w→ApH X (Hl i)→ApH X h':=fun X sX ap d hd x hx hor=>by
    rcases st.key x hx with k|⟨y,hy,e,hr⟩
    · have:=sX.lt hd;omega
    · rw [←e];exact ap d hd y hy (hor.imp id hr)
  have ch:jrp r cl old Shp w':=fun q e=>by
    obtain ⟨o,n,k,tm,hk⟩:=c.chan q e
    exact ⟨o,n,k,tm,by rw [st.old q (c.oldB q o).1.2 fun x hx _=>(c.oldB q o).2 i x hx];exact hk⟩
  refine ⟨runT_crowd_go hi hst,fun j=>?_,satK _ c.satS (c.apS i),fun j k hjk=>?_,fun j=>?_,c.shB,fun b hb=>?_,?_,⟨by rw [st.os];exact c.far.1,st.out.trans c.far.2.1,st.tape.trans c.far.2.2⟩,fun j hj=>?_,jgP c.quiet (fun q e=>(ch q e).2.2) q,ch⟩
  · by_cases e:j=i
    · subst e;rw [updH_same];exact st.sat
    · rw [jan _ _ e];exact satK _ (c.sat j) (c.apart j i e)
  · by_cases e1:j=i
    · subst e1
      rw [updH_same,jan _ _ (fun e=>hjk e.symm)];exact (one _ (c.sat k) (c.apart k j fun e=>hjk e.symm)).symm
    · rw [jan _ _ e1];by_cases e2:k=i
      · subst e2;rw [updH_same];exact one _ (c.sat j) (c.apart j k e1)
      · rw [jan _ _ e2];exact c.apart j k hjk
  · by_cases e:j=i
    · subst e;rw [updH_same];exact one _ c.satS (c.apS j)
    · rw [jan _ _ e];exact c.apS j
  · obtain ⟨o1,o2⟩:=c.oldB b hb
    refine ⟨⟨o1.1,GP o1.2 st.size⟩,fun j d hd=>?_⟩
    by_cases e:j=i
    · subst e
      rw [updH_same] at hd
      rcases st.key d hd with k|⟨y,hy,e,_⟩
      · omega
      · rw [←e];exact o2 j y hy
    · rw [jan _ _ e] at hd;exact o2 j d hd
  · rw [jaS];exact c.tj.own rfl hlt rfl rfl st c.sat (fun j hj=>c.apart j i hj) s1 (fun b hb=>s2 b hb i) hG hcl _ _
  · rw [jaS] at hj
    rw [jan _ _ zO];exact c.out j hj
theorem CoreC.sync (c:CoreC B W old Shp wa r cl Gone Live Heir Say gs w t Hl) {i:Nat} {g g':Goroutine} {es:Array Event} {cl':Bool} (hi:gs[i]?=some g) (hst:stepG P (i==0) g w= .go g' w' es) (q:QuietC r g') {hi':Hp}
    (sat2:Sat B (hi'++Shp') w') (size:w'.heap.size=w.heap.size) (os:w'.os=w.os) (out:w'.output=w.output) (tape:w'.tape=w.tape) (hold: ∀b,(∀c∈Shp,c.b≠b)→ ¬old b→w'.heap[b]?=w.heap[b]?) (keys:Shp'.map (·.b)=Shp.map (·.b)) (rw': ∀c∈Shp',c.rw=true)
    (ch:jrp r cl' old Shp' w') (key: ∀x∈hi',∃y∈Hl i,y.b=x.b∧(x.rw=true→y.rw=true))
    (tj':TC B.size w.heap.size gs.size (jch Hl i hi') (fun b=>old b∨ ∃c∈Shp,c.b=b) wa (r.getD 0) cl' Gone' Live' Heir' Say' (t++MemOp.ofEvents i g.frame.fn g.frame.place es)):
    runT P (crowd gs w sl) i=(.next (crowd (after P g g' w' gs i) w' sl),MemOp.ofEvents i g.frame.fn g.frame.place es)∧
      CoreC B W old Shp' wa r cl' Gone' Live' Heir' Say' (after P g g' w' gs i) w' (t++MemOp.ofEvents i g.frame.fn g.frame.place es) (jch Hl i hi'):=by
  have hlt:i<gs.size:=(gF.1 hi).1
  have keep: ∀j,∀d∈Hl j,w'.heap[d.b]?=w.heap[d.b]?:=fun j d hd=>hold d.b (fun x hx he=>c.apS j x hx d hd (.inl (c.shB x hx)) he) fun ho=>(c.oldB _ ho).2 j d hd rfl
  have far': ∀j,j≠i→ApH hi' (Hl j):=fun j hj x hx d hd hor=>by
    obtain ⟨y,hy,e1,hr⟩:=key x hx
    rw [←e1];exact c.apart i j (fun e=>hj e.symm) y hy d hd (hor.imp hr id)
  have shk: ∀x∈Shp',∃y∈Shp,y.b=x.b:=fun x hx=>(jj0 keys x.b).1 ⟨x,hx,rfl⟩
  obtain ⟨p1,p2,p3⟩:=gy.1 sat2.apart
  have mono: ∀{X:Hp},X.Sublist (hi'++Shp')→Sat B X w':=fun {X} hX=>⟨sat2.base,fun d hd=>sat2.mem d (hX.subset hd),sat2.apart.sublist hX⟩
  refine ⟨runT_crowd_go hi hst,fun j=>?_,mono (gX _ _),fun j k hjk=>?_,fun j=>?_,rw',fun b hb=>?_,?_,⟨os.trans c.far.1,out.trans c.far.2.1,tape.trans c.far.2.2⟩,fun j hj=>?_,jgP c.quiet (fun q e=>(ch q e).2.2) q,ch⟩
  · by_cases ej:j=i
    · subst ej;rw [updH_same];exact mono (gI _ _)
    · rw [jan _ _ ej];exact ⟨sat2.base,fun d hd=>⟨((c.sat j).mem d hd).1,by rw [keep j d hd];exact ((c.sat j).mem d hd).2⟩,(c.sat j).apart⟩
  · by_cases e1:j=i
    · subst e1
      rw [updH_same,jan _ _ (fun e=>hjk e.symm)];exact far' k (fun e=>hjk e.symm)
    · rw [jan _ _ e1];by_cases e2:k=i
      · subst e2;rw [updH_same]
        exact ApH.symm (far' j e1)
      · rw [jan _ _ e2];exact c.apart j k hjk
  · by_cases ej:j=i
    · subst ej;rw [updH_same]
      exact fun x hx d hd hor he=>p3 d hd x hx hor.symm he.symm
    · rw [jan _ _ ej];intro x hx d hd hor
      obtain ⟨y,hy,e1⟩:=shk x hx
      rw [←e1];exact c.apS j y hy d hd (.inl (c.shB y hy))
  · obtain ⟨o1,o2⟩:=c.oldB b hb
    refine ⟨⟨o1.1,by rw [size];exact o1.2⟩,fun j d hd=>?_⟩
    by_cases ej:j=i
    · subst ej;rw [updH_same] at hd
      obtain ⟨y,hy,e1,_⟩:=key d hd
      rw [←e1];exact o2 j y hy
    · rw [jan _ _ ej] at hd;exact o2 j d hd
  · rw [jaS,size];have:(fun b=>old b∨ ∃c∈Shp',c.b=b)=(fun b=>old b∨ ∃c∈Shp,c.b=b):=by
      funext b
      exact propext (or_congr Iff.rfl (jj0 keys b))
    rw [this];exact tj'
  · rw [jaS] at hj
    rw [jan _ _ zO];exact c.out j hj
theorem CoreC.syncE (c:CoreC B W old Shp wa r cl Gone Live Heir Say gs w t Hl) {i:Nat} {g:Goroutine} {es:Array Event} (hi:gs[i]?=some g) (hst:stepG P (i==0) g w= .go g' w' es) (e:SEffQ B Shp Shp' w w') (q:QuietC r g') {hi':Hp} (k:Weak B (Hl i) hi')
    (tj':TC B.size w.heap.size gs.size (jch Hl i hi') (fun b=>old b∨ ∃c∈Shp,c.b=b) wa (r.getD 0) cl Gone' Live' Heir' Say' (t++MemOp.ofEvents i g.frame.fn g.frame.place es)):
    runT P (crowd gs w sl) i=(.next (crowd (after P g g' w' gs i) w' sl),MemOp.ofEvents i g.frame.fn g.frame.place es)∧
      CoreC B W old Shp' wa r cl Gone' Live' Heir' Say' (after P g g' w' gs i) w' (t++MemOp.ofEvents i g.frame.fn g.frame.place es) (jch Hl i hi'):=by
  refine c.sync hi hst q (e.sat hi' ((k.apps Shp).sat w (c.satAll i))) e.size e.same e.out e.tape (fun b hb _=>e.old b hb) e.keys e.rw (fun q hq=>?_) k.key tj'
  obtain ⟨o,n,k,tm,hk⟩:=c.chan q hq
  refine ⟨o,fun x hx he=>?_,k,tm,by rw [e.old q n];exact hk⟩
  obtain ⟨y,hy,ey⟩:=(jj0 e.keys x.b).1 ⟨x,hx,rfl⟩
  exact n y hy (ey.trans he)
end
def fineC (Sh:Nat→Prop) (gone may:Prop) (d:Nat) (e:Event):Prop:=
  match e.loc with
  | .cell ad=>e.sync=true∧Sh ad.block∧(gone→0<d)
  | .mark .disable| .mark .enable| .mark (.acquire _)| .mark (.releaseMerge _)| .mark .noRoom| .mark (.extern _)=>True
  | .mark (.read ad)| .mark (.write ad)=>may∧Sh ad.block∧ ¬gone
  |_=>False
def jdM (Sh:Nat→Prop) (gone may:Prop):Nat→List Event→Prop
  |_,[]=>True
  |d,e::l=>fineC Sh gone may d e∧jdM Sh gone may (jey d e) l
theorem jcx {Sh Sh':Nat→Prop} {G G' M M':Prop} (hS: ∀b,Sh b→Sh' b) (hG:G'→G) (hM:M→M'): ∀(l:List Event) (d:Nat),jdM Sh G M d l→jdM Sh' G' M' d l
  |[],_,_=>trivial
  |e::l,d,h=>by
    refine ⟨?_,jcx hS hG hM l _ h.2⟩
    have h1:=h.1
    obtain ⟨lc,wr,sy⟩:=e
    cases lc with
    |cell ad=>exact ⟨h1.1,hS _ h1.2.1,fun x=>h1.2.2 (hG x)⟩
    |mark m=>cases m<;>first|exact ⟨hM h1.1,hS _ h1.2.1,fun x=>h1.2.2 (hG x)⟩|trivial|exact h1
    |_=>exact h1
section
variable {n lim gn:Nat} {Hl:Nat→Hp} {r:Nat} {Gone Live Heir Say:Nat→Prop} {t:Trace}
theorem TC.ev (T:TC n lim gn Hl Sh wa r cl Gone Live Heir Say t) {i:Nat} (hg:i<gn) (hlv:Live i) (hSh: ∀b,Sh b→n≤b∧b<lim) (apH: ∀b,Sh b→ ∀g,∀c∈Hl g,c.b≠b) {e:Event} (hd:Deaf t i=d) (hcl:cl=true→i≠0→Gone i) (f:fineC Sh (Gone i) (Say i∧ ∀g,Say g→g=i) d e)
    (fn:FuncId) (pos:String):TC n lim gn Hl Sh wa r cl Gone Live Heir Say (t++ #[{g:=i,fn,pos,act:= .ofEvent e}])∧Deaf (t++ #[{g:=i,fn,pos,act:= .ofEvent e}]) i=jey d e:=by
  refine ⟨T.one _ hg (fun _ _=>hlv) hSh apH (fun b hb=>?_) (fun a ha=>?_) (fun hG b hb=>?_) hcl,?_⟩
  · obtain ⟨l,wr,sy⟩:=e
    cases l with
    |cell ad=>
      obtain ⟨h1,h2,_⟩:=f
      simp only at h1
      subst h1
      have:b=⟨.cell ad,wr,.atomic⟩:=by simpa [MemAct.ofEvent,MemAct.touch?] using hb.symm
      subst this
      exact ⟨⟨_,rfl,h2⟩,.inl rfl⟩
    |mark m=>
      cases m with
      |read ad=>
        obtain ⟨h1,h2,_⟩:=f
        have:b=⟨.cell ad,false,.said⟩:=by simpa [MemAct.ofEvent,MemAct.touch?] using hb.symm
        subst this
        exact ⟨⟨_,rfl,h2⟩,.inr ⟨rfl,h1⟩⟩
      |write ad=>
        obtain ⟨h1,h2,_⟩:=f
        have:b=⟨.cell ad,true,.said⟩:=by simpa [MemAct.ofEvent,MemAct.touch?] using hb.symm
        subst this
        exact ⟨⟨_,rfl,h2⟩,.inr ⟨rfl,h1⟩⟩
      |_=>cases hb
    |_=>exact f.elim
  · obtain ⟨l,wr,sy⟩:=e
    cases l with
    |mark m=>cases m<;>first|(cases ha;done)|exact f.elim
    |cell ad=>cases ha
    |_=>exact f.elim
  · obtain ⟨l,wr,sy⟩:=e
    cases l with
    |cell ad=>
      obtain ⟨h1,h2,h3⟩:=f
      simp only at h1
      subst h1
      have:b=⟨.cell ad,wr,.atomic⟩:=by simpa [MemAct.ofEvent,MemAct.touch?] using hb.symm
      subst this
      exact ⟨rfl,by show 0<Deaf t i;rw [hd];exact h3 hG⟩
    |mark m=>
      cases m with
      |read ad=>exact absurd hG f.2.2
      |write ad=>exact absurd hG f.2.2
      |_=>cases hb
    |_=>exact f.elim
  · rw [Deaf_push,hd];obtain ⟨l,wr,sy⟩:=e
    cases l with
    |mark m=>cases m<;>simp [deafStep,MemAct.ofEvent,jey]
    |cell ad=>simp [deafStep,MemAct.ofEvent,jey]
    |_=>exact f.elim
theorem jnJ (t:Trace) (i:Nat) (fn:FuncId) (pos:String) (e:Event) (l:List Event):t++MemOp.ofEvents i fn pos (e::l).toArray=t++ #[{g:=i,fn,pos,act:= .ofEvent e}]++MemOp.ofEvents i fn pos l.toArray:=by
  rw [ofEvents_eq,ofEvents_eq,Array.append_assoc];congr 1
  apply Gv
  simp
theorem TC.evs (T:TC n lim gn Hl Sh wa r cl Gone Live Heir Say t) {i:Nat} (hg:i<gn) (hlv:Live i) (hSh: ∀b,Sh b→n≤b∧b<lim) (apH: ∀b,Sh b→ ∀g,∀c∈Hl g,c.b≠b) (hd:Deaf t i=d) (hcl:cl=true→i≠0→Gone i) (fn:FuncId) (pos:String):
    ∀(l:List Event),jdM Sh (Gone i) (Say i∧ ∀g,Say g→g=i) d l→TC n lim gn Hl Sh wa r cl Gone Live Heir Say (t++MemOp.ofEvents i fn pos l.toArray):=by
  intro l
  induction l generalizing t d with
  |nil=>intro _;simpa [ofEvents_eq] using T
  |cons e l ih=>
    intro f
    obtain ⟨T1,hd1⟩:=T.ev hg hlv hSh apH hd hcl f.1 fn pos
    rw [jnJ];exact ih T1 hd1 f.2
theorem TC.mutes (T:TC n lim gn Hl Sh wa r cl Gone Live Heir Say t) {i:Nat} (hg:i<gn) (hSh: ∀b,Sh b→n≤b∧b<lim) (apH: ∀b,Sh b→ ∀g,∀c∈Hl g,c.b≠b) (hcl:cl=true→i≠0→Gone i) (fn:FuncId) (pos:String):
    ∀(l:List Event),(∀e∈l,Event.mute e=true)→TC n lim gn Hl Sh wa r cl Gone Live Heir Say (t++MemOp.ofEvents i fn pos l.toArray):=by
  intro l
  induction l generalizing t with
  |nil=>intro _;simpa [ofEvents_eq] using T
  |cons e l ih=>
    intro f
    have hm:=f e gd
    have ht:(MemAct.ofEvent e).touch?=none∧ ∀a,MemAct.ofEvent e≠ .mark (.release a):=by
      obtain ⟨lc,wr,sy⟩:=e
      cases lc with
      |mark m=>cases m<;>first|(exfalso;cases hm;done)|exact ⟨rfl,fun a h=>by cases h⟩
      |_=>cases hm
    have no: ∀{X:Prop} b,(MemAct.ofEvent e).touch?=some b→X:=fun {X} b hb=>by rw [ht.1] at hb;cases hb
    have T1:=T.one {g:=i,fn,pos,act:= .ofEvent e} hg (fun b hb=>no b hb) hSh apH (fun b hb=>no b hb) ht.2 (fun _ b hb=>no b hb) hcl
    rw [jnJ];exact ih T1 fun e he=>f e (gL _ he)
theorem TC.word (T:TC n lim gn Hl Sh wa r cl Gone Live Heir Say t) (y:MemOp) (hg:y.g<gn) (hSh: ∀b,Sh b→n≤b∧b<lim) (apH: ∀b,Sh b→ ∀g,∀c∈Hl g,c.b≠b) (hy:y.act.touch?=none) (nr: ∀a,y.act≠ .mark (.release a)) (hcl:cl=true→y.g≠0→Gone y.g):TC n lim gn Hl Sh wa r cl Gone Live Heir Say (t++ #[y]):=
  T.one y hg (fun b hb=>by rw [hy] at hb;cases hb) hSh apH (fun b hb=>by rw [hy] at hb;cases hb) nr (fun _ b hb=>by rw [hy] at hb;cases hb) hcl
end
structure ProC where
  S:Type
  wa:Addr
  r:Nat
  Inv:Bool→Hp→(Nat→Option S)→Prop
  Blk:S→Hp→Prop
  gone:S→Prop
  heir:S→Prop
  say:S→Prop
  Msg:Value→Hp→S→S→Prop
  fin: ∀Shp F,Inv true Shp F→ ∀j,j≠0→F j=none
def jdy (Q:ProC) (F:Nat→Option Q.S):Nat→Prop:=fun i=>i≠0∧ ∀s,F i=some s→Q.gone s
def jeT (Q:ProC) (F:Nat→Option Q.S):Nat→Prop:=fun i=>i=0∨F i≠none
def jgU (Q:ProC) (F:Nat→Option Q.S):Nat→Prop:=fun i=> ∃s,F i=some s∧Q.heir s
def joU (Q:ProC) (F:Nat→Option Q.S):Nat→Prop:=fun i=> ∃s,F i=some s∧Q.say s
def jjJ (Q:ProC) (s s':Q.S):Prop:=(Q.gone s'→Q.gone s)∧(Q.heir s'→Q.heir s)∧(Q.say s'→Q.say s)
section
variable {Q:ProC} {F:Nat→Option Q.S} {i:Nat} {s:Q.S}
theorem jnB (hi:i≠0) (h:F i=some s):jdy Q F i↔Q.gone s:=
  ⟨fun g=>g.2 s h,fun g=>⟨hi,fun s' h'=>by rw [h] at h';obtain rfl:=gD h';exact g⟩⟩
theorem jj7 {j:Nat} (o:Option Q.S) (e:j≠i):jdy Q (jaY F i o) j↔jdy Q F j:=by unfold jdy;rw [jam _ _ e]
theorem jdI {o:Option Q.S} (h:F i=some s): ∀j,jeT Q (jaY F i o) j→jeT Q F j:=by
  intro j hj
  by_cases e:j=i
  · subst e;exact .inr (by rw [h];simp)
  · unfold jeT at hj⊢;rwa [jam _ _ e] at hj
theorem jlg {o:Option Q.S} (h:F i=some s) (hg: ∀s',o=some s'→Q.gone s'→Q.gone s) (hn:o=none→Q.gone s): ∀j,jdy Q (jaY F i o) j→jdy Q F j:=by
  intro j hj
  by_cases e:j=i
  · subst e
    refine (jnB hj.1 h).2 ?_
    cases o with
    |none=>exact hn rfl
    |some s'=>exact hg s' rfl (hj.2 s' (updS_same _ _ _))
  · exact (jj7 o e).1 hj
theorem jh3 {o:Option Q.S} (h:F i=some s) (hg: ∀s',o=some s'→Q.heir s'→Q.heir s): ∀j,jgU Q (jaY F i o) j→jgU Q F j:=by
  rintro j ⟨x,hx,hh⟩;by_cases e:j=i
  · subst e
    rw [updS_same] at hx
    exact ⟨s,h,hg x hx hh⟩
  · rw [jam _ _ e] at hx;exact ⟨x,hx,hh⟩
theorem jeG {o:Option Q.S} (h:F i=some s) (hg: ∀s',o=some s'→Q.say s'→Q.say s): ∀j,joU Q (jaY F i o) j→joU Q F j:=by
  rintro j ⟨x,hx,hh⟩;by_cases e:j=i
  · subst e
    rw [updS_same] at hx
    exact ⟨s,h,hg x hx hh⟩
  · rw [jam _ _ e] at hx;exact ⟨x,hx,hh⟩
end
inductive SOutC (P:Program) (B:Array Obj) (Q:ProC) (i d:Nat) (s:Q.S) (h Shp:Hp) (cl:Bool) (F:Nat→Option Q.S) (g:Goroutine) (w:World) (K':Nat→Option Q.S→Goroutine→Hp→Prop):GStep→Prop
  |act {g':Goroutine} {w':World} {l:List Event} {Shp':Hp} {o:Option Q.S} (e:SEffQ B Shp Shp' w w') (wk:Shp'=Shp∨mayWake P g=true) (hs:g'.status= .running) (f:jdM (fun b=> ∃c∈Shp,c.b=b) (Q.gone s) (Q.say s∧ ∀j x,F j=some x→Q.say x→j=i) d l)
      (hgo: ∀s',o=some s'→jjJ Q s s') (hno:o=none→Q.gone s∧h=[]) (inv:Q.Inv cl Shp' (jaY F i o)) (k:K' (l.foldl jey d) o g' h):SOutC P B Q i d s h Shp cl F g w K' (.go g' w' l.toArray)
  |bye {g':Goroutine} {s':Q.S} (hs:g'.status= .running) (hd:d=0) (hg: ¬Q.gone s∧Q.gone s'∧ ¬Q.heir s'∧(Q.say s'→Q.say s)) (hi:i≠0) (nh: ∀j x,F j=some x→ ¬Q.heir x) (inv:Q.Inv cl Shp (jaY F i (some s'))) (k:K' d (some s') g' []):SOutC P B Q i d s h Shp cl F g w K' (.go g' w #[⟨.mark (.releaseMerge Q.wa),false,true⟩])
  |join {g':Goroutine} {s':Q.S} (hs:g'.status= .running) (hd:d=0) (hg:(Q.gone s'→Q.gone s)∧(Q.say s'→Q.say s)) (inv:Q.Inv cl Shp (jaY F i (some s'))) (k:K' d (some s') g' h):SOutC P B Q i d s h Shp cl F g w K' (.go g' w #[⟨.mark (.acquire Q.wa),false,true⟩])
  |close {g':Goroutine} {n:Nat} {tm:Bool} (hs:g'.status= .running) (hd:d=0) (hi:i≠0) (ho:cl=false) (wk:mayWake P g=true) (hc:w.heap[Q.r]?=some (.chan 0 #[] false n n tm)) (hh:Q.heir s∧h=[]) (hng: ¬Q.gone s) (hall: ∀j x,j≠0→j≠i→F j=some x→Q.gone x) (inv:Q.Inv true Shp (jaY F i none)) (k:K' d none g' h):
      SOutC P B Q i d s h Shp cl F g w K' (.go g' {w with heap:=w.heap.setIfInBounds Q.r (.chan 0 #[] true n n tm)} #[⟨.obj Q.r,false,true⟩,⟨.obj Q.r,true,true⟩])
  |block (hi:i≠0) (hb:Q.Blk s Shp):SOutC P B Q i d s h Shp cl F g w K' (.go {g with status:= .blocked} w #[])
inductive CRunC (P:Program) (B:Array Obj) (Q:ProC) (i:Nat):Nat→Q.S→Goroutine→Hp→Prop
  |step {d:Nat} {s:Q.S} {g:Goroutine} {h:Hp} (K':Goroutine→Hp→Prop) (hg: ¬Q.gone s) (st:LStep P B false g h K') (n: ∀g' h',K' g' h'→CRunC P B Q i d s g' h'):CRunC P B Q i d s g h
  |idle {d:Nat} {s:Q.S} {g g':Goroutine} {h:Hp} (hs:g.status= .running) (e: ∀w,stepG P false g w= .go g' w #[]) (n:CRunC P B Q i d s g' h):CRunC P B Q i d s g h
  |weak {d:Nat} {s:Q.S} {g:Goroutine} {h h':Hp} (k:Weak B h h') (n:CRunC P B Q i d s g h'):CRunC P B Q i d s g h
  |sync {d:Nat} {s:Q.S} {g:Goroutine} {h:Hp} (K':Nat→Option Q.S→Goroutine→Hp→Prop) (hs:g.status= .running) (ho:g.offers=none)
      (st: ∀cl Shp F w,Q.Inv cl Shp F→F i=some s→Sat B (h++Shp) w→(∃n tm,w.heap[Q.r]?=some (.chan 0 #[] cl n n tm))→SOutC P B Q i d s h Shp cl F g w K' (stepG P false g w))
      (n: ∀d' s' g' h',K' d' (some s') g' h'→CRunC P B Q i d' s' g' h') (q: ∀d' g' h',K' d' none g' h'→ ∃k,QuitsD P k d' g'):CRunC P B Q i d s g h
  |send {s s':Q.S} {g:Goroutine} {hr hp:Hp} {v z:Value} (hs:g.status= .running) (hst:jjJ Q s s') (e: ∀w,Sat B (hr++hp) w→stepG P false g w= .comm g #[scase Q.r v z] true .send w #[]) (m:Q.Msg v hp s s')
      (n:CRunC P B Q i 0 s' (Conc.served g undef) hr):CRunC P B Q i 0 s g (hr++hp)
inductive CRunCT (P:Program) (B:Array Obj) (Q:ProC) (i:Nat):TrU→Nat→Q.S→Goroutine→Hp→Prop
  |step {f:Goroutine×Hp→TrU} {d:Nat} {s:Q.S} {g:Goroutine} {h:Hp} (K':Goroutine→Hp→Prop) (hg: ¬Q.gone s) (st:LStep P B false g h K') (n: ∀g' h',K' g' h'→CRunCT P B Q i (f (g',h')) d s g' h'):CRunCT P B Q i (.node _ f) d s g h
  |idle {T:TrU} {d:Nat} {s:Q.S} {g g':Goroutine} {h:Hp} (hs:g.status= .running) (e: ∀w,stepG P false g w= .go g' w #[]) (n:CRunCT P B Q i T d s g' h):CRunCT P B Q i (.node Unit fun _=>T) d s g h
  |weak {T:TrU} {d:Nat} {s:Q.S} {g:Goroutine} {h h':Hp} (k:Weak B h h') (n:CRunCT P B Q i T d s g h'):CRunCT P B Q i T d s g h
  |sync {f:Nat×Option Q.S×Goroutine×Hp→TrU} {d:Nat} {s:Q.S} {g:Goroutine} {h:Hp} (K':Nat→Option Q.S→Goroutine→Hp→Prop) (hs:g.status= .running) (ho:g.offers=none)
      (st: ∀cl Shp F w,Q.Inv cl Shp F→F i=some s→Sat B (h++Shp) w→(∃n tm,w.heap[Q.r]?=some (.chan 0 #[] cl n n tm))→SOutC P B Q i d s h Shp cl F g w K' (stepG P false g w))
      (n: ∀d' s' g' h',K' d' (some s') g' h'→CRunCT P B Q i (f (d',some s',g',h')) d' s' g' h') (q: ∀d' g' h',K' d' none g' h'→ ∃k,QuitsD P k d' g'∧f (d',none,g',h')= .ofNat k):CRunCT P B Q i (.node _ f) d s g h
  |send {T:TrU} {s s':Q.S} {g:Goroutine} {hr hp:Hp} {v z:Value} (hs:g.status= .running) (hst:jjJ Q s s') (e: ∀w,Sat B (hr++hp) w→stepG P false g w= .comm g #[scase Q.r v z] true .send w #[]) (m:Q.Msg v hp s s')
      (n:CRunCT P B Q i T 0 s' (Conc.served g undef) hr):CRunCT P B Q i (.node Unit fun _=> .node Unit fun _=>T) 0 s g (hr++hp)
theorem CRunCT.running {P:Program} {Q:ProC} {i:Nat} {s:Q.S} {g:Goroutine} (c:CRunCT P B Q i T d s g h):g.status= .running:=by
  induction c with
  |step K' hg s _ _=>exact s.1
  |idle hs=>exact hs
  |weak k _ ih=>exact ih
  |sync K' hs=>exact hs
  |send hs=>exact hs
theorem CRunC.tree {P:Program} {Q:ProC} {i:Nat} {s:Q.S} {g:Goroutine} (r:CRunC P B Q i d s g h): ∃T,CRunCT P B Q i T d s g h:=by
  classical
  induction r with
  | @step d s g h K' hg st _ ih=>
    have: ∃f:Goroutine×Hp→TrU,∀g' h',K' g' h'→CRunCT P B Q i (f (g',h')) d s g' h':=by
      refine ⟨fun x=>if y:K' x.1 x.2 then Classical.choose (ih x.1 x.2 y) else .leaf,fun g' h' y=>?_⟩
      simp only [y,dif_pos]
      exact Vs (ih g' h' y)
    obtain ⟨f,hf⟩:=this
    exact ⟨.node _ f,.step K' hg st hf⟩
  |idle hs e _ ih=>obtain ⟨T,hT⟩:=ih;exact ⟨_,.idle hs e hT⟩
  |weak k _ ih=>obtain ⟨T,hT⟩:=ih;exact ⟨T,.weak k hT⟩
  | @sync d s g h K' hs ho st n q ih=>
    have: ∃f:Nat×Option Q.S×Goroutine×Hp→TrU,(∀d' s' g' h',K' d' (some s') g' h'→CRunCT P B Q i (f (d',some s',g',h')) d' s' g' h')∧ ∀d' g' h',K' d' none g' h'→ ∃k,QuitsD P k d' g'∧f (d',none,g',h')= .ofNat k:=by
      refine ⟨fun x=>match x with
        |(d',some s',g',h')=>if y:K' d' (some s') g' h' then Classical.choose (ih d' s' g' h' y) else .leaf
        |(d',none,g',h')=>if y:K' d' none g' h' then .ofNat (Classical.choose (q d' g' h' y)) else .leaf,fun d' s' g' h' y=>?_,fun d' g' h' y=>?_⟩
      · simp only [y,dif_pos]
        exact Vs (ih d' s' g' h' y)
      · refine ⟨Classical.choose (q d' g' h' y),Vs (q d' g' h' y),?_⟩
        simp only [y,dif_pos]
    obtain ⟨f,h1,h2⟩:=this
    exact ⟨.node _ f,.sync K' hs ho st h1 h2⟩
  |send hs hst e m _ ih=>obtain ⟨T,hT⟩:=ih;exact ⟨_,.send hs hst e m hT⟩
inductive KidC (P:Program) (B:Array Obj) (Q:ProC) (i:Nat) (Shp:Hp):TrU→Nat→Option Q.S→Goroutine→Hp→Prop
  |run {T:TrU} {d:Nat} {s:Q.S} {g:Goroutine} {h:Hp} (c:CRunCT P B Q i T d s g h):KidC P B Q i Shp T d (some s) g h
  |wait {T:TrU} {d:Nat} {s:Q.S} {g:Goroutine} {h:Hp} (c:CRunCT P B Q i T d s {g with status:= .running} h) (hb:g.status= .blocked) (ho:g.offers=none) (b:Q.Blk s Shp):KidC P B Q i Shp T d (some s) g h
  |post {T:TrU} {s s':Q.S} {g:Goroutine} {hr hp:Hp} {v z:Value} (hst:jjJ Q s s') (m:Q.Msg v hp s s') (n:CRunCT P B Q i T 0 s' (Conc.served g undef) hr):KidC P B Q i Shp (.node Unit fun _=>T) 0 (some s) (parked g #[scase Q.r v z] .send) (hr++hp)
  |left {k d:Nat} {g:Goroutine} (q:QuitsD P k d g):KidC P B Q i Shp (.ofNat k) d none g []
theorem jiw {g:Goroutine} (h:g.status= .running):jbz cl g=g:=by unfold jbz;rw [if_neg (by rw [h];decide)]
theorem jgt {g:Goroutine} (h:g.status≠ .blocked):jbz cl g=g:=by unfold jbz;rw [if_neg h]
theorem KidC.wake {P:Program} {Q:ProC} {i:Nat} {o:Option Q.S} {g:Goroutine} (k:KidC P B Q i Shp T d o g h) (hcl:cl=true→o=none):KidC P B Q i Shp' T d o (jbz cl g) h:=by
  cases k with
  |run c=>rw [jiw c.running];exact .run c
  |wait c hb ho b=>unfold jbz;rw [if_pos hb,if_pos (by rw [ho];rfl)];exact .run c
  |post hst m n=>
    cases cl with
    |true=>cases hcl rfl
    |false=>exact .post hst m n
  |left q=>rw [jgt (by rcases q.status with h|h<;>rw [h]<;>decide)];exact .left q
structure CfC (P:Program) (B:Array Obj) (W:World) (Q:ProC) (old:Nat→Prop) (F:Nat→Option Q.S) (cl:Bool) (Shp:Hp) (gs:Array Goroutine) (w:World) (t:Trace) (Hl:Nat→Hp) (Tf:Nat→TrU) (Dl:Nat→Nat):Prop where
  core:CoreC B W old Shp Q.wa (some Q.r) cl (jdy Q F) (jeT Q F) (jgU Q F) (joU Q F) gs w t Hl
  inv:Q.Inv cl Shp F
  deaf: ∀i,Deaf t i=Dl i
  kids: ∀(i:Nat) g,i≠0→gs[i]?=some g→KidC P B Q i Shp (Tf i) (Dl i) (F i) g (Hl i)
  dom: ∀i,gs.size≤i→F i=none
theorem CfC.shut {P:Program} {Q:ProC} {old:Nat→Prop} {F:Nat→Option Q.S} {w:World} {t:Trace} {Hl:Nat→Hp} {Tf:Nat→TrU} {Dl:Nat→Nat} (c:CfC P B W Q old F cl Shp gs w t Hl Tf Dl) (h:cl=true) {i:Nat} (hi:i≠0):F i=none:=Q.fin Shp F (h▸c.inv) i hi
theorem CfC.shutG {P:Program} {Q:ProC} {old:Nat→Prop} {F:Nat→Option Q.S} {w:World} {t:Trace} {Hl:Nat→Hp} {Tf:Nat→TrU} {Dl:Nat→Nat} (c:CfC P B W Q old F cl Shp gs w t Hl Tf Dl) (h:cl=true) {i:Nat} (hi:i≠0):jdy Q F i:=⟨hi,fun s hs=>by rw [c.shut h hi] at hs;cases hs⟩
section
variable {P:Program} {old:Nat→Prop} {cl cl':Bool} {Gone Gone' Live Live' Heir Heir' Say Say':Nat→Prop} {w w':World} {t:Trace} {Hl Hl':Nat→Hp} {sl:Option (Nat×Nat)}
theorem CoreC.plain (c:CoreC B W old Shp wa r cl Gone Live Heir Say gs w t Hl) {i:Nat} {g:Goroutine} {l:List Event} (hi:gs[i]?=some g) (hst:stepG P (i==0) g w= .go g' w' l.toArray) (e:SEffQ B Shp Shp' w w') (q:QuietC r g') (hlv:Live i) (hd:Deaf t i=d) (hcl:cl=true→i≠0→Gone i)
    (f:jdM (fun b=> ∃c∈Shp,c.b=b) (Gone i) (Say i∧ ∀g,Say g→g=i) d l) (hL: ∀g,Live' g→Live g) (hG: ∀g,Gone' g→Gone g) (hH: ∀g,Heir' g→Heir g) (hS: ∀g,Say' g→Say g):
    runT P (crowd gs w sl) i=(.next (crowd (after P g g' w' gs i) w' sl),MemOp.ofEvents i g.frame.fn g.frame.place l.toArray)∧
      CoreC B W old Shp' wa r cl Gone' Live' Heir' Say' (after P g g' w' gs i) w' (t++MemOp.ofEvents i g.frame.fn g.frame.place l.toArray) Hl:=by
  have hlt:i<gs.size:=(gF.1 hi).1
  obtain ⟨s1,s2⟩:=c.shared
  have T:=(c.tj.evs hlt hlv s1 s2 hd hcl g.frame.fn g.frame.place l (jcx (fun b h=> .inr h) id id l d f)).less hL hG hH hS
  have e1:jch Hl i (Hl i)=Hl:=by funext j;by_cases e:j=i<;>simp [jch,e]
  have:=c.syncE (P:=P) (sl:=sl) hi hst e q (hi':=Hl i) (Weak.refl _ _) (Gone':=Gone') (Live':=Live') (Heir':=Heir') (Say':=Say') (by rw [e1];exact T)
  rw [e1] at this
  exact this
theorem CoreC.slip (c:CoreC B W old Shp wa r cl Gone Live Heir Say gs w t Hl) {i:Nat} {g:Goroutine} {es:Array Event} (hi:gs[i]?=some g) (hst:stepG P (i==0) g w= .go g' w es) (hm: ∀e∈es,Event.mute e=true) (hcl:cl=true→i≠0→Gone i) (q:QuietC r g'):
    runT P (crowd gs w sl) i=(.next (crowd (after P g g' w gs i) w sl),MemOp.ofEvents i g.frame.fn g.frame.place es)∧
      CoreC B W old Shp wa r cl Gone Live Heir Say (after P g g' w gs i) w (t++MemOp.ofEvents i g.frame.fn g.frame.place es) Hl:=by
  have hlt:i<gs.size:=(gF.1 hi).1
  obtain ⟨s1,s2⟩:=c.shared
  have T:=c.tj.mutes hlt s1 s2 hcl g.frame.fn g.frame.place es.toList fun e he=>hm e (Vt.1 he)
  have e1:jch Hl i (Hl i)=Hl:=by funext j;by_cases e:j=i<;>simp [jch,e]
  have:=c.syncE (P:=P) (sl:=sl) hi hst (SEffQ.refl c.shB) q (hi':=Hl i) (Weak.refl _ _) (Gone':=Gone) (Live':=Live) (Heir':=Heir) (Say':=Say) (by rw [e1];exact T)
  rw [e1] at this
  exact this
variable {Q:ProC} {F F':Nat→Option Q.S} {Tf:Nat→TrU} {Dl:Nat→Nat}
theorem jb6 (q: ∀(i:Nat) g,gs[i]?=some g→QuietC (some Q.r) g) (ch: ∀q,some Q.r=some q→ ∃k tm,w'.heap[q]?=some (.chan 0 #[] cl' k k tm)) (kids: ∀(i:Nat) g,i≠0→gs[i]?=some g→KidC P B Q i Shp (Tf i) (Dl i) (F i) g (Hl i)) {g:Goroutine} {i:Nat} (hs:Shp'=Shp∨(mayWake P g&&g'.status != .blocked&&g'.status != .waiting)=true)
    {j:Nat} {x:Goroutine} (hj0:j≠0) (hji:j≠i) (hcl:cl'=true→F j=none) (hx:(after P g g' w' gs i)[j]?=some x):KidC P B Q j Shp' (Tf j) (Dl j) (F j) x (Hl j):=by
  have hlt:j<gs.size:=by have:=(gF.1 hx).1;rwa [jaS] at this
  have hy:gs[j]?=some gs[j]:=gM hlt
  rw [jbN q ch (fun e=>hji e.symm) hy] at hx
  obtain rfl:=gD hx
  have k:=kids j _ hj0 hy
  split
  · exact k.wake hcl
  · rename_i hn
    rcases hs with rfl|h
    · exact k
    · exact absurd h hn
def MovedC (P:Program) (B:Array Obj) (W:World) (Q:ProC) (old:Nat→Prop) (F:Nat→Option Q.S) (cl:Bool) (gs:Array Goroutine) (w:World) (sl:Option (Nat×Nat)) (t:Trace) (Hl:Nat→Hp) (Tf:Nat→TrU) (Dl:Nat→Nat) (i:Nat) (g:Goroutine):Prop:=
  ∃g' w' u F' cl' Shp' Hl' Tf' Dl',runT P (crowd gs w sl) i=(.next (crowd (after P g g' w' gs i) w' sl),u)∧CfC P B W Q old F' cl' Shp' (after P g g' w' gs i) w' (t++u) Hl' Tf' Dl'∧Hl' 0=Hl 0∧F' 0=F 0∧Dl' 0=Dl 0∧(g'.status= .blocked→g'.offers=none)∧
    (cl'=cl∨(mayWake P g&&g'.status != .blocked&&g'.status != .waiting)=true)∧(ULt gs.size Tf' Tf∨(Tf'=Tf∧g'.status= .blocked))
end
section
variable {P:Program} {Q:ProC} {old:Nat→Prop} {F:Nat→Option Q.S} {w:World} {t:Trace} {Hl:Nat→Hp} {Tf:Nat→TrU} {Dl:Nat→Nat} {sl:Option (Nat×Nat)}
def AtPost (P:Program) (B:Array Obj) (Q:ProC) (F:Nat→Option Q.S) (w:World) (Hl:Nat→Hp) (Tf:Nat→TrU) (Dl:Nat→Nat) (i:Nat) (g:Goroutine):Prop:=
  ∃(s s':Q.S) (hr hp:Hp) (v z:Value) (T:TrU),F i=some s∧Weak B (Hl i) (hr++hp)∧Dl i=0∧stepG P false g w= .comm g #[scase Q.r v z] true .send w #[]∧Q.Msg v hp s s'∧jjJ Q s s'∧Tf i= .node Unit (fun _=> .node Unit fun _=>T)∧CRunCT P B Q i T 0 s' (Conc.served g undef) hr
theorem jin (c:CfC P B W Q old F cl Shp gs w t Hl Tf Dl): ∃n tm,w.heap[Q.r]?=some (.chan 0 #[] cl n n tm):=(c.core.chan Q.r rfl).2.2
theorem kidC_run {i:Nat} {s:Q.S} {g:Goroutine} (r:CRunCT P B Q i T d s g h) (hi0:i≠0):
    ∀(Hl:Nat→Hp),gs[i]?=some g→Hl i=h→Tf i=T→Dl i=d→F i=some s→CfC P B W Q old F cl Shp gs w t Hl Tf Dl→MovedC P B W Q old F cl gs w sl t Hl Tf Dl i g∨AtPost P B Q F w Hl Tf Dl i g:=by
  have hz:(i==0)=false:=by simpa using hi0
  have sz: ∀{g g':Goroutine} {w':World} {j:Nat},(after P g g' w' gs i).size≤j→gs.size≤j:=fun h=>by rwa [jaS] at h
  induction r with
  | @weak T d s g h h' k n ih=>
    intro Hl hi hh hT hD hF c
    have c':CfC P B W Q old F cl Shp gs w t (jch Hl i h') Tf Dl:=⟨c.core.weak (by rw [hh];exact k),c.inv,c.deaf,fun j x hj hx=>by
      by_cases e:j=i
      · subst e
        rw [hi] at hx
        obtain rfl:=gD hx
        rw [updH_same,hT,hD,hF];exact .run n
      · rw [jan _ _ e];exact c.kids j x hj hx,c.dom⟩
    rcases ih (jch Hl i h') hi (updH_same _ _ _) hT hD hF c' with ⟨g',w',u,F',cl',Shp',Hl',Tf',Dl',r1,r2,r3,r4⟩|⟨s0,s',hr,hp,v,z,T',a1,a2,a3⟩
    · exact .inl ⟨g',w',u,F',cl',Shp',Hl',Tf',Dl',r1,r2,by rw [r3,jan _ _ (fun e=>hi0 e.symm)],r4⟩
    · rw [updH_same] at a2
      exact .inr ⟨s0,s',hr,hp,v,z,T',a1,by rw [hh];exact k.trans a2,a3⟩
  | @step f d s g h K' hg st n ih=>
    intro Hl hi hh hT hD hF c
    have hlt:i<gs.size:=(gF.1 hi).1
    obtain ⟨g',w',es,h',hs,stp,hk⟩:=st.2 w (by rw [←hh];exact c.core.sat i)
    have hrun:=(n g' h' hk).running
    have hcl:cl=true→i=0:=fun h=>by have:=c.shut h hi0;rw [hF] at this;cases this
    obtain ⟨r1,r2⟩:=c.core.own (P:=P) (sl:=sl) hi (by rw [hz];exact hs) (by rw [hh];exact stp) (fun x=>hg (x.2 s hF)) hcl (.runs hrun)
    refine .inl ⟨g',w',_,F,cl,Shp,_,jkq Tf i (f (g',h')),Dl,r1,⟨r2,c.inv,fun j=>(jke stp t i _ _ j).trans (c.deaf j),fun j x hj hx=>?_,fun j hj=>c.dom j (sz hj)⟩,jan _ _ (fun e=>hi0 e.symm),rfl,rfl,(fun h=>by rw [hrun] at h;cases h),.inl rfl,.inl (jdS hlt (by rw [hT];exact TrU.lt f (g',h')))⟩
    by_cases e:j=i
    · subst e
      rw [ja4 hi] at hx
      obtain rfl:=gD hx
      rw [updH_same,updU_same,hD,hF];exact .run (n _ _ hk)
    · rw [jan _ _ e,jdR _ _ e];exact jb6 c.core.quiet r2.wake c.kids (.inl rfl) hj e (fun h=>c.shut h hj) hx
  | @idle T d s g g' h hs e n ih=>
    intro Hl hi hh hT hD hF c
    have hlt:i<gs.size:=(gF.1 hi).1
    have hrun:=n.running
    obtain ⟨r1,r2⟩:=c.core.plain (P:=P) (sl:=sl) (l:=[]) hi (by rw [hz];exact e w) (SEffQ.refl c.core.shB) (.runs hrun) (.inr (by rw [hF];simp)) rfl (fun h h'=>c.shutG h h') trivial (fun _ h=>h) (fun _ h=>h) (fun _ h=>h) (fun _ h=>h)
    refine .inl ⟨g',w,_,F,cl,Shp,Hl,jkq Tf i T,Dl,r1,⟨r2,c.inv,fun j=>by rw [show MemOp.ofEvents i g.frame.fn g.frame.place (List.toArray [])= #[] by simp [ofEvents_eq],Vc];exact c.deaf j,fun j x hj hx=>?_,fun j hj=>c.dom j (sz hj)⟩,rfl,rfl,rfl,(fun h=>by rw [hrun] at h;cases h),.inl rfl,.inl (jdS hlt (by rw [hT];exact TrU.lt (fun _:Unit=>T) ()))⟩
    by_cases ej:j=i
    · subst ej
      rw [ja4 hi] at hx
      obtain rfl:=gD hx
      rw [hh,updU_same,hD,hF];exact .run n
    · rw [jdR _ _ ej];exact jb6 c.core.quiet r2.wake c.kids (.inl rfl) hj ej (fun h=>c.shut h hj) hx
  | @send T s s' g hr hp v z hs hst e m n ih=>
    intro Hl hi hh hT hD hF c
    exact .inr ⟨s,s',hr,hp,v,z,T,hF,by rw [hh];exact Weak.refl _ _,hD,e w (by rw [←hh];exact c.core.sat i),m,hst,hT,n⟩
  | @sync f d s g h K' hs ho st n q ih=>
    intro Hl hi hh hT hD hF c
    left
    have hlt:i<gs.size:=(gF.1 hi).1
    have so:=st cl Shp F w c.inv hF (by rw [←hh];exact c.core.satAll i) (jin c)
    have hGi:=jnB (F:=F) hi0 hF
    have hlv:jeT Q F i:= .inr (by rw [hF];simp)
    have hdeaf:Deaf t i=d:=(c.deaf i).trans hD
    have hclG:cl=true→i≠0→jdy Q F i:=fun h h'=>c.shutG h h'
    have hclF:cl=false:=by
      cases cl with
      |false=>rfl
      |true=>have:=c.shut rfl hi0;rw [hF] at this;cases this
    --the others
    have oth: ∀{g':Goroutine} {w':World} {Shp':Hp} {o:Option Q.S} {Tn:TrU} {dn:Nat} {cl':Bool} (ch: ∀q,some Q.r=some q→ ∃k tm,w'.heap[q]?=some (.chan 0 #[] cl' k k tm)) (hfin:cl'=true→ ∀j,j≠0→jaY F i o j=none) (hs:Shp'=Shp∨(mayWake P g&&g'.status != .blocked&&g'.status != .waiting)=true) (hn:Hp) {j:Nat} {x:Goroutine},j≠0→j≠i→(after P g g' w' gs i)[j]?=some x→
        KidC P B Q j Shp' (jkq Tf i Tn j) (jlK Dl i dn j) (jaY F i o j) x (jch Hl i hn j):=fun {g' w' Shp' o Tn dn cl'} ch hfin hsw hn {j x} hj e hx=>by
      have hf:=fun h=>hfin h j hj
      rw [jam _ _ e] at hf
      rw [jdR _ _ e,jcj _ _ e,jam _ _ e,jan _ _ e];exact jb6 c.core.quiet ch c.kids hsw hj e hf hx
    have deafs: ∀(es:Array Event) (dn:Nat),deafBehind d es=dn→ ∀j,Deaf (t++MemOp.ofEvents i g.frame.fn g.frame.place es) j=jlK Dl i dn j:=fun es dn hdn j=>by
      by_cases e:j=i
      · subst e;rw [updN_same,Deaf_own,hdeaf,hdn]
      · rw [jcj _ _ e,Deaf_other t (fun x=>e x.symm) _ fun op hop=>by obtain ⟨e',_,rfl⟩:=jdw hop;rfl];exact c.deaf j
    have doms: ∀(o:Option Q.S) (j:Nat),gs.size≤j→jaY F i o j=none:=fun o j hj=>by rw [jam _ _ zO];exact c.dom j hj
    have nofin: ∀{o:Option Q.S},cl=true→ ∀j,j≠0→jaY F i o j=none:=fun h=>by rw [hclF] at h;cases h
    obtain ⟨s1,s2⟩:=c.core.shared
    generalize hst:stepG P false g w=stp at so
    cases so with
    | @act g' w' l Shp' o e wk hs' fl hgo hno inv k=>
      have hw:Shp'=Shp∨(mayWake P g&&g'.status != .blocked&&g'.status != .waiting)=true:=wk.imp id fun h=>by rw [h,hs'];rfl
      have hG:jdy Q F i=Q.gone s:=propext hGi
      obtain ⟨r1,r2⟩:=c.core.plain (P:=P) (sl:=sl) (Gone':=jdy Q (jaY F i o)) (Live':=jeT Q (jaY F i o)) (Heir':=jgU Q (jaY F i o)) (Say':=joU Q (jaY F i o)) hi (by rw [hz];exact hst) e (.runs hs') hlv hdeaf hclG (by
        rw [hG];exact jcx (fun _ h=>h) id (fun h=>⟨⟨s,hF,h.1⟩,fun j hj=>by obtain ⟨x,hx,hs⟩:=hj;exact h.2 j x hx hs⟩) l d fl) (jdI hF) (jlg hF (fun s' e=>(hgo s' e).1) fun e=>(hno e).1) (jh3 hF fun s' e=>(hgo s' e).2.1) (jeG hF fun s' e=>(hgo s' e).2.2)
      refine ⟨g',w',_,jaY F i o,cl,Shp',jch Hl i h,jkq Tf i (f (l.foldl jey d,o,g',h)),jlK Dl i (l.foldl jey d),r1,⟨by rw [←hh,updH_same'];exact r2,inv,deafs _ _ (jez d l),fun j x hj hx=>?_,fun j hj=>doms o j (sz hj)⟩,jan _ _ (fun e=>hi0 e.symm),jam _ _ (fun e=>hi0 e.symm),jcj _ _ (fun e=>hi0 e.symm),
        (fun h=>by rw [hs'] at h;cases h),.inl rfl,.inl (jdS hlt (by rw [hT];exact TrU.lt f _))⟩
      by_cases ej:j=i
      · subst ej
        rw [ja4 hi] at hx
        obtain rfl:=gD hx
        rw [updH_same,updU_same,updN_same,updS_same];cases o with
        |none=>
          obtain ⟨k',hq,he⟩:=q _ _ _ k
          rw [he,(hno rfl).2];exact .left hq
        |some s'=>exact .run (n _ _ _ _ k)
      · exact oth r2.wake nofin hw h hj ej hx
    | @bye g' s' hs' hd hg hi0' nh inv k=>
      have hy:=jhO i g.frame.fn g.frame.place (.releaseMerge Q.wa)
      have T':=c.core.tj.word {g:=i,fn:=g.frame.fn,pos:=g.frame.place,act:= .mark (.releaseMerge Q.wa)} hlt s1 s2 rfl (fun a ha=>by cases ha) hclG
      have T2:=c.core.tj.bye (Gone':=jdy Q (jaY F i (some s'))) rfl (hdeaf.trans hd) T' (fun j hj=>by
        by_cases e:j=i
        · exact .inr e
        · exact .inl ((jj7 _ e).1 hj)) (fun j hj=>by obtain ⟨x,hx,hh⟩:=hj;exact nh j x hx hh)
      have T3:=(T2.less (Live':=jeT Q (jaY F i (some s'))) (Heir':=jgU Q (jaY F i (some s'))) (Say':=joU Q (jaY F i (some s'))) (jdI hF) (fun _ h=>h) (jh3 hF fun s2 e h=>by obtain rfl:=gD e;exact absurd h hg.2.2.1) (jeG hF fun s2 e h=>by obtain rfl:=gD e;exact hg.2.2.2 h)).weak (Hl':=jch Hl i []) (gK _) (fun j x hx=>by
        by_cases e:j=i
        · subst e;rw [updH_same] at hx;simp at hx
        · rw [jan _ _ e] at hx;exact ⟨x,hx,rfl,id⟩)
      obtain ⟨r1,r2⟩:=c.core.syncE (P:=P) (sl:=sl) (hi':=[]) hi (by rw [hz];exact hst) (SEffQ.refl c.core.shB) (.runs hs') (Weak.sub (vm _)) (by rw [hy];exact T3)
      refine ⟨g',w,_,jaY F i (some s'),cl,Shp,jch Hl i [],jkq Tf i (f (d,some s',g',[])),jlK Dl i d,r1,⟨r2,inv,deafs _ _ rfl,fun j x hj hx=>?_,fun j hj=>doms _ j (sz hj)⟩,jan _ _ (fun e=>hi0 e.symm),jam _ _ (fun e=>hi0 e.symm),jcj _ _ (fun e=>hi0 e.symm),
        (fun h=>by rw [hs'] at h;cases h),.inl rfl,.inl (jdS hlt (by rw [hT];exact TrU.lt f _))⟩
      by_cases ej:j=i
      · subst ej
        rw [ja4 hi] at hx
        obtain rfl:=gD hx
        rw [updH_same,updU_same,updN_same,updS_same];exact .run (n _ _ _ _ k)
      · exact oth r2.wake nofin (.inl rfl) _ hj ej hx
    | @join g' s' hs' hd hg inv k=>
      have hy:=jhO i g.frame.fn g.frame.place (.acquire Q.wa)
      have T':=c.core.tj.word {g:=i,fn:=g.frame.fn,pos:=g.frame.place,act:= .mark (.acquire Q.wa)} hlt s1 s2 rfl (fun a ha=>by cases ha) hclG
      have T2:=c.core.tj.inherit (Heir':=jgU Q (jaY F i (some s'))) rfl (hdeaf.trans hd) T' (fun j hj=>by
        by_cases e:j=i
        · exact .inr e
        · obtain ⟨x,hx,hh⟩:=hj
          rw [jam _ _ e] at hx
          exact .inl ⟨x,hx,hh⟩)
      have T3:=T2.less (Live':=jeT Q (jaY F i (some s'))) (Gone':=jdy Q (jaY F i (some s'))) (Say':=joU Q (jaY F i (some s'))) (jdI hF) (jlg hF (fun s2 e h=>by obtain rfl:=gD e;exact hg.1 h) (fun e=>by cases e)) (fun _ h=>h) (jeG hF fun s2 e h=>by obtain rfl:=gD e;exact hg.2 h)
      obtain ⟨r1,r2⟩:=c.core.syncE (P:=P) (sl:=sl) (hi':=Hl i) hi (by rw [hz];exact hst) (SEffQ.refl c.core.shB) (.runs hs') (Weak.refl _ _) (by rw [hy,updH_same'];exact T3)
      refine ⟨g',w,_,jaY F i (some s'),cl,Shp,jch Hl i h,jkq Tf i (f (d,some s',g',h)),jlK Dl i d,r1,⟨by rw [←hh];exact r2,inv,deafs _ _ rfl,fun j x hj hx=>?_,fun j hj=>doms _ j (sz hj)⟩,jan _ _ (fun e=>hi0 e.symm),jam _ _ (fun e=>hi0 e.symm),jcj _ _ (fun e=>hi0 e.symm),
        (fun h=>by rw [hs'] at h;cases h),.inl rfl,.inl (jdS hlt (by rw [hT];exact TrU.lt f _))⟩
      by_cases ej:j=i
      · subst ej
        rw [ja4 hi] at hx
        obtain rfl:=gD hx
        rw [updH_same,updU_same,updN_same,updS_same];exact .run (n _ _ _ _ k)
      · exact oth r2.wake nofin (.inl rfl) _ hj ej hx
    | @close g' nn tm hs' hd hi0' ho' wk hc hhe hng hall inv k=>
      subst ho'
      obtain ⟨o1,o2,_⟩:=c.core.chan Q.r rfl
      have hy:MemOp.ofEvents i g.frame.fn g.frame.place #[⟨.obj Q.r,false,true⟩,⟨.obj Q.r,true,true⟩]= #[{g:=i,fn:=g.frame.fn,pos:=g.frame.place,act:= .access ⟨.obj Q.r,false,true⟩}]++ #[{g:=i,fn:=g.frame.fn,pos:=g.frame.place,act:= .close Q.r}]:=by simp [ofEvents_eq,MemAct.ofEvent]
      have T0:=c.core.tj.one {g:=i,fn:=g.frame.fn,pos:=g.frame.place,act:= .access ⟨.obj Q.r,false,true⟩} hlt (fun _ _=>hlv) s1 s2 (fun b hb=>by
        have:b=⟨.obj Q.r,false,.atomic⟩:=by simpa [MemAct.touch?] using hb.symm
        subst this
        exact ⟨⟨_,rfl,.inl o1⟩,.inl rfl⟩) (fun a ha=>by cases ha) (fun hG=>absurd (hGi.1 hG) hng) hclG
      have hd0:Deaf (t++ #[{g:=i,fn:=g.frame.fn,pos:=g.frame.place,act:= .access ⟨.obj Q.r,false,true⟩}]) i=0:=by rw [Deaf_push];simp [deafStep,hdeaf,hd]
      have T':=T0.word {g:=i,fn:=g.frame.fn,pos:=g.frame.place,act:= .close Q.r} hlt s1 s2 rfl (fun a ha=>by cases ha) hclG
      have T2:=T0.close (Gone':=jdy Q (jaY F i none)) (Heir':=jgU Q (jaY F i none)) (y:={g:=i,fn:=g.frame.fn,pos:=g.frame.place,act:= .close Q.r}) rfl hd0 T' ⟨s,hF,hhe.1⟩ (fun j hj _ hji=>⟨hj,fun x hx=>hall j x hj hji hx⟩)
      have T3:=T2.less (Live':=jeT Q (jaY F i none)) (Say':=joU Q (jaY F i none)) (jdI hF) (fun _ h=>h) (fun _ h=>h) (jeG hF fun s2 e h=>by cases e)
      obtain ⟨⟨ob1,ob2⟩,ob3⟩:=c.core.oldB _ o1
      have get: ∀b,b≠Q.r→(w.heap.setIfInBounds Q.r (.chan 0 #[] true nn nn tm))[b]?=w.heap[b]?:=fun b hb=>gw fun e=>hb e.symm
      have hnr: ∀x∈Hl i++Shp,x.b≠Q.r:=fun x hx=>by
        rcases gO.1 hx with hx|hx
        · exact ob3 i x hx
        · exact o2 x hx
      have satw:Sat B (Hl i++Shp) {w with heap:=w.heap.setIfInBounds Q.r (.chan 0 #[] true nn nn tm)}:=by
        have sA:=c.core.satAll i
        exact ⟨fun b o hb=>by
          have hbB:=(gF.1 hb).1
          show (w.heap.setIfInBounds Q.r _)[b]?=_
          rw [get b zO];exact sA.base b o hb,fun x hx=>⟨(sA.mem x hx).1,by
          show (w.heap.setIfInBounds Q.r _)[x.b]?=_
          rw [get x.b (hnr x hx)];exact (sA.mem x hx).2⟩,sA.apart⟩
      obtain ⟨r1,r2⟩:=c.core.sync (P:=P) (sl:=sl) (hi':=Hl i) (Shp':=Shp) (cl':=true) hi (by rw [hz];exact hst) (.runs hs') satw zS rfl rfl rfl (fun b _ hb=>get b fun e=>hb (e▸o1)) rfl c.core.shB (fun q hq=>by
          obtain rfl:=gD hq
          exact ⟨o1,o2,nn,tm,GF ob2⟩) (fun x hx=>⟨x,hx,rfl,id⟩) (by rw [hy,updH_same',←Array.append_assoc];exact T3)
      refine ⟨g',_,_,jaY F i none,true,Shp,jch Hl i h,jkq Tf i (f (d,none,g',h)),jlK Dl i d,r1,⟨by rw [←hh];exact r2,inv,deafs _ _ rfl,fun j x hj hx=>?_,fun j hj=>doms _ j (sz hj)⟩,jan _ _ (fun e=>hi0 e.symm),jam _ _ (fun e=>hi0 e.symm),jcj _ _ (fun e=>hi0 e.symm),
        (fun h=>by rw [hs'] at h;cases h),.inr (by rw [wk,hs'];rfl),.inl (jdS hlt (by rw [hT];exact TrU.lt f _))⟩
      by_cases ej:j=i
      · subst ej
        rw [ja4 hi] at hx
        obtain rfl:=gD hx
        rw [updH_same,updU_same,updN_same,updS_same];obtain ⟨k',hq,he⟩:=q _ _ _ k
        rw [he,hhe.2];exact .left hq
      · exact oth r2.wake (fun _ j hj=>Q.fin Shp _ inv j hj) (.inl rfl) _ hj ej hx
    |block hi0' hb=>
      obtain ⟨r1,r2⟩:=c.core.plain (P:=P) (sl:=sl) (l:=[]) (g':={g with status:= .blocked}) hi (by rw [hz];exact hst) (SEffQ.refl c.core.shB) (.blocks rfl ho) hlv rfl hclG trivial (fun _ h=>h) (fun _ h=>h) (fun _ h=>h) (fun _ h=>h)
      refine ⟨_,w,_,F,cl,Shp,Hl,Tf,Dl,r1,⟨r2,c.inv,fun j=>by rw [show MemOp.ofEvents i g.frame.fn g.frame.place (List.toArray [])= #[] by simp [ofEvents_eq],Vc];exact c.deaf j,fun j x hj hx=>?_,fun j hj=>c.dom j (sz hj)⟩,rfl,rfl,rfl,fun _=>ho,.inl rfl,.inr ⟨rfl,rfl⟩⟩
      by_cases ej:j=i
      · subst ej
        rw [ja4 hi] at hx
        obtain rfl:=gD hx
        rw [hh,hT,hD,hF];refine .wait ?_ rfl ho hb
        have:({{g with status:= .blocked} with status:= .running}:Goroutine)=g:=by
          obtain ⟨a,b,c,d,e⟩:=g
          simp only at hs
          subst hs
          rfl
        rw [this];exact .sync K' hs ho st n q
      · exact jb6 c.core.quiet r2.wake c.kids (.inl rfl) hj ej (fun h=>c.shut h hj) hx
end
section
variable {P:Program} {old:Nat→Prop} {Gone Gone' Live Live' Heir Heir' Say Say':Nat→Prop} {w w':World} {t:Trace} {Hl Hl':Nat→Hp} {sl:Option (Nat×Nat)}
theorem jom {i:Nat} (c: ∀(i:Nat) g,gs[i]?=some g→QuietC r g) (q:QuietC r g'): ∀(j:Nat) g,(gs.setIfInBounds i g')[j]?=some g→QuietC r g:=by
  intro j g hj
  rcases jml hj with ⟨_,rfl⟩|⟨_,hj'⟩
  · exact q
  · exact c j g hj'
theorem CoreC.park (c:CoreC B W old Shp wa r cl Gone Live Heir Say gs w t Hl) {i:Nat} (q:QuietC r g'):CoreC B W old Shp wa r cl Gone Live Heir Say (gs.setIfInBounds i g') w t Hl:=
  ⟨c.sat,c.satS,c.apart,c.apS,c.shB,c.oldB,by rw [GG];exact c.tj,c.far,fun j hj=>c.out j (by simpa using hj),jom c.quiet q,c.chan⟩
theorem CoreC.meet (c:CoreC B W old Shp wa r cl Gone Live Heir Say gs w t Hl) {i q:Nat} {tm:Bool} {hp:Hp} (hi0:i≠0) (hlt:i<gs.size) (h0:0<gs.size) (hq:r=some q) (hch:w.heap[q]?=some (.chan 0 #[] cl n n tm)) (hh:Hl i=hr++hp) (hdi:Deaf t i=0) (hd0:Deaf t 0=0)
    (fh:FuncId) (ph':String) (fj:FuncId) (pj:String) (gs':Array Goroutine) (hgs:gs'.size=gs.size) (qn: ∀(l:Nat) x,gs'[l]?=some x→QuietC r x):
    CoreC B W old Shp wa r cl Gone Live Heir Say gs' ((w.at d).setChan q 0 #[] cl (n+1) (n+1) tm) (t++met i 0 fh ph' fj pj q n 0) (jch (jch Hl i hr) 0 (Hl 0++hp)):=by
  obtain ⟨o1,o2,_⟩:=c.chan q hq
  obtain ⟨⟨ob1,ob2⟩,ob3⟩:=c.oldB q o1
  have hget: ∀b,b≠q→((w.at d).setChan q 0 #[] cl (n+1) (n+1) tm).heap[b]?=w.heap[b]?:=fun b hb=>gw fun e=>hb e.symm
  have hsz:((w.at d).setChan q 0 #[] cl (n+1) (n+1) tm).heap.size=w.heap.size:=by simp [World.setChan,World.at]
  have satK: ∀{X:Hp},Sat B X w→(∀x∈X,x.b≠q)→Sat B X ((w.at d).setChan q 0 #[] cl (n+1) (n+1) tm):=fun {X} sX hX=>⟨fun b o hb=>by
    have:=(gF.1 hb).1
    rw [hget b zO];exact sX.base b o hb,fun x hx=>⟨(sX.mem x hx).1,by rw [hget x.b (hX x hx)];exact (sX.mem x hx).2⟩,sX.apart⟩
  have si:=c.sat i
  rw [hh] at si
  obtain ⟨ai1,ai2,ai3⟩:=gy.1 si.apart
  have mi: ∀z,(z∈hr∨z∈hp)→z∈Hl i:=fun z hz=>by rw [hh];exact gO.2 hz
  have key: ∀l,∀z∈jch (jch Hl i hr) 0 (Hl 0++hp) l,(l=0∧z∈Hl 0)∨(l=0∧z∈hp)∨(l=i∧z∈hr)∨(l≠0∧l≠i∧z∈Hl l):=fun l z hz=>by
    by_cases e:l=0
    · subst e;rw [updH_same] at hz
      rcases gO.1 hz with h|h
      · exact .inl ⟨rfl,h⟩
      · exact .inr (.inl ⟨rfl,h⟩)
    · rw [jan _ _ e] at hz
      by_cases e2:l=i
      · subst e2;rw [updH_same] at hz;exact .inr (.inr (.inl ⟨rfl,hz⟩))
      · rw [jan _ _ e2] at hz;exact .inr (.inr (.inr ⟨e,e2,hz⟩))
  have from': ∀l,∀z∈jch (jch Hl i hr) 0 (Hl 0++hp) l,∃l',z∈Hl l':=fun l z hz=>by
    rcases key l z hz with ⟨_,m⟩|⟨_,m⟩|⟨_,m⟩|⟨_,_,m⟩
    · exact ⟨0,m⟩
    · exact ⟨i,mi z (.inr m)⟩
    · exact ⟨i,mi z (.inl m)⟩
    · exact ⟨l,m⟩
  refine ⟨fun l=>?_,satK c.satS o2,fun l l' hl z hz z' hz' hor=>?_,fun l x hx z hz hor=>?_,c.shB,fun b hb=>⟨⟨(c.oldB b hb).1.1,by rw [hsz];exact (c.oldB b hb).1.2⟩,fun l z hz=>?_⟩,?_,c.far,fun l hl=>?_,qn,fun q' hq'=>?_⟩
  · by_cases e:l=0
    · subst e;rw [updH_same]
      refine satK ⟨si.base,fun x hx=>?_,gy.2 ⟨(c.sat 0).apart,ai2,fun a ha b hb=>c.apart 0 i (fun e=>hi0 e.symm) a ha b (mi b (.inr hb))⟩⟩ fun x hx=>?_
      · rcases gO.1 hx with h|h
        · exact (c.sat 0).mem x h
        · exact si.mem x (GA _ h)
      · rcases gO.1 hx with h|h
        · exact ob3 0 x h
        · exact ob3 i x (mi x (.inr h))
    · rw [jan _ _ e];by_cases e2:l=i
      · subst e2;rw [updH_same]
        exact satK ⟨si.base,fun x hx=>si.mem x (GH _ hx),ai1⟩ fun x hx=>ob3 l x (mi x (.inl hx))
      · rw [jan _ _ e2];exact satK (c.sat l) (ob3 l)
  · rcases key l z hz with ⟨e1,m1⟩|⟨e1,m1⟩|⟨e1,m1⟩|⟨e1,e1',m1⟩<;>rcases key l' z' hz' with ⟨e2,m2⟩|⟨e2,m2⟩|⟨e2,m2⟩|⟨e2,e2',m2⟩
    · exact absurd (e1.trans e2.symm) hl
    · exact absurd (e1.trans e2.symm) hl
    · exact c.apart 0 i (fun e=>hi0 e.symm) z m1 z' (mi z' (.inl m2)) hor
    · exact c.apart 0 l' (fun e=>e2 e.symm) z m1 z' m2 hor
    · exact absurd (e1.trans e2.symm) hl
    · exact absurd (e1.trans e2.symm) hl
    · exact fun e=>ai3 z' m2 z m1 hor.symm e.symm
    · exact c.apart i l' (fun e=>e2' e.symm) z (mi z (.inr m1)) z' m2 hor
    · exact c.apart i 0 hi0 z (mi z (.inl m1)) z' m2 hor
    · exact ai3 z m1 z' m2 hor
    · exact absurd (e1.trans e2.symm) hl
    · exact c.apart i l' (fun e=>e2' e.symm) z (mi z (.inl m1)) z' m2 hor
    · exact c.apart l 0 e1 z m1 z' m2 hor
    · exact c.apart l i e1' z m1 z' (mi z' (.inr m2)) hor
    · exact c.apart l i e1' z m1 z' (mi z' (.inl m2)) hor
    · exact c.apart l l' hl z m1 z' m2 hor
  · obtain ⟨l',hl'⟩:=from' l z hz
    exact c.apS l' x hx z hl' hor
  · obtain ⟨l',hl'⟩:=from' l z hz
    exact (c.oldB b hb).2 l' z hl'
  · rw [hsz,hgs];exact c.tj.meet hi0 hlt h0 (fun x hx=>⟨x,mi x (.inl hx),rfl,id⟩) (fun x hx=>⟨x,mi x (.inr hx),rfl,id⟩) hdi hd0 _ _ _ _ _ _ _
  · rw [hgs] at hl
    rw [jan _ _ zO,jan _ _ zO];exact c.out l hl
  · rw [hq] at hq'
    obtain rfl:=gD hq'
    exact ⟨o1,o2,n+1,tm,by simp only [World.setChan,World.at];exact GF ob2⟩
theorem CoreC.spawn (c:CoreC B W old Shp wa r cl Gone Live Heir Say gs w t Hl) {g g' child:Goroutine} {hg hc:Hp} (hi:gs[0]?=some g) (hst:stepG P true g w= .spawn g' child w #[]) (k1:Weak B (Hl 0) hg) (k2:Weak B (Hl 0) hc) (ap:ApH hg hc) (q:QuietC r g') (qc:QuietC r child)
    (hlv:Live 0) (hsy:Say 0) (hlv': ∀j,Live' j→Live j∨j=gs.size) (hsy': ∀j,Say' j→Say j∨j=gs.size) (hd:Deaf t 0=0) (hG': ∀j,Gone' j→Gone j) (hH': ∀j,Heir' j→Heir j):
    runT P (crowd gs w sl) 0=(.next (crowd ((gs.setIfInBounds 0 g').push child) w sl),#[{g:=0,fn:=g.frame.fn,pos:=g.frame.place,act:= .go gs.size},{g:=gs.size,fn:=child.frame.fn,pos:=g.frame.place,act:= .start}])∧
      CoreC B W old Shp wa r cl Gone' Live' Heir' Say' ((gs.setIfInBounds 0 g').push child) w (t++ #[{g:=0,fn:=g.frame.fn,pos:=g.frame.place,act:= .go gs.size},{g:=gs.size,fn:=child.frame.fn,pos:=g.frame.place,act:= .start}]) (jch (jch Hl 0 hg) gs.size hc):=by
  have hlt:0<gs.size:=(gF.1 hi).1
  have key: ∀j,∀d∈jch (jch Hl 0 hg) gs.size hc j,(j=gs.size∧d∈hc)∨(j=0∧d∈hg)∨(j≠0∧j≠gs.size∧d∈Hl j):=fun j d hd=>by
    by_cases e:j=gs.size
    · subst e;rw [updH_same] at hd;exact .inl ⟨rfl,hd⟩
    · rw [jan _ _ e] at hd
      by_cases e2:j=0
      · subst e2;rw [updH_same] at hd;exact .inr (.inl ⟨rfl,hd⟩)
      · rw [jan _ _ e2] at hd;exact .inr (.inr ⟨e2,e,hd⟩)
  have from0: ∀j,∀d∈jch (jch Hl 0 hg) gs.size hc j,∃l,∃x∈Hl l,x.b=d.b∧(d.rw=true→x.rw=true):=fun j d hd=>by
    rcases key j d hd with ⟨_,m⟩|⟨_,m⟩|⟨_,_,m⟩
    · obtain ⟨x,hx,h⟩:=k2.key d m;exact ⟨0,x,hx,h⟩
    · obtain ⟨x,hx,h⟩:=k1.key d m;exact ⟨0,x,hx,h⟩
    · exact ⟨j,d,m,rfl,id⟩
  refine ⟨?_,fun j=>?_,c.satS,fun j l hjl d hd x hx hor=>?_,fun j x hx d hd hor=>?_,c.shB,fun b hb=>⟨(c.oldB b hb).1,fun j d hd=>?_⟩,?_,c.far,fun j hj=>?_,fun j x hj=>?_,c.chan⟩
  · rw [runT_crowd_spawn (i:=0) hi hst];rfl
  · by_cases e:j=gs.size
    · subst e;rw [updH_same];exact k2.sat _ (c.sat 0)
    · rw [jan _ _ e];by_cases e2:j=0
      · subst e2;rw [updH_same];exact k1.sat _ (c.sat 0)
      · rw [jan _ _ e2];exact c.sat j
  · have old': ∀(l:Nat),l≠0→ ∀(y z:Chunk),y∈Hl l→(z∈hc∨z∈hg)→(y.rw=true∨z.rw=true)→y.b≠z.b:=fun l hl y z hy hz ho=>by
      rcases hz with hz|hz
      · obtain ⟨z',hz',e,r⟩:=k2.key z hz
        rw [←e];exact c.apart l 0 hl y hy z' hz' (ho.imp id r)
      · obtain ⟨z',hz',e,r⟩:=k1.key z hz
        rw [←e];exact c.apart l 0 hl y hy z' hz' (ho.imp id r)
    rcases key j d hd with ⟨e1,m1⟩|⟨e1,m1⟩|⟨e1,e1',m1⟩<;>rcases key l x hx with ⟨e2,m2⟩|⟨e2,m2⟩|⟨e2,e2',m2⟩
    · exact absurd (e1.trans e2.symm) hjl
    · exact ap.symm d m1 x m2 hor
    · exact fun e=>old' l e2 x d m2 (.inl m1) hor.symm e.symm
    · exact ap d m1 x m2 hor
    · exact absurd (e1.trans e2.symm) hjl
    · exact fun e=>old' l e2 x d m2 (.inr m1) hor.symm e.symm
    · exact old' j e1 d x m1 (.inl m2) hor
    · exact old' j e1 d x m1 (.inr m2) hor
    · exact c.apart j l hjl d m1 x m2 hor
  · obtain ⟨l,y,hy,e,r⟩:=from0 j d hd
    rw [←e];exact c.apS l x hx y hy (hor.imp id r)
  · obtain ⟨l,y,hy,e,r⟩:=from0 j d hd
    rw [←e];exact (c.oldB b hb).2 l y hy
  · rw [Array.size_push,GG];exact (c.tj.less (Live':=Live) (fun _ h=>h) hG' hH' (fun _ h=>h)).spawn hlt hlv hsy hlv' hsy' (gK _) k1.key k2.key hd _ _ _
  · simp only [Array.size_push,GG] at hj
    rw [jan _ _ zO,jan _ _ zO];exact c.out j zO
  · rw [Array.getElem?_push] at hj
    split at hj
    · exact (gD hj)▸qc
    · rcases jml hj with ⟨rfl,rfl⟩|⟨_,hj'⟩
      · exact q
      · exact c.quiet j x hj'
end
structure MStC where
  Q:ProC
  d:Nat
  s:Q.S
inductive MRunC (P:Program) (B:Array Obj) (K:Goroutine→Hp→Prop):Option MStC→Goroutine→Hp→Prop
  |stop {g:Goroutine} {h:Hp} (k:K g h):MRunC P B K none g h
  |step {M:Option MStC} {g:Goroutine} {h:Hp} (K':Goroutine→Hp→Prop) (s:LStep P B true g h K') (c: ∀g' h',K' g' h'→MRunC P B K M g' h'):MRunC P B K M g h
  |weak {M:Option MStC} {g:Goroutine} {h h':Hp} (k:Weak B h h') (c:MRunC P B K M g h'):MRunC P B K M g h
  |phase {g:Goroutine} {h' Shp:Hp} (Q:ProC) (s0:Q.S) (hrw: ∀c∈Shp,c.rw=true) (hs0: ¬Q.heir s0) (inv:Q.Inv false Shp (fun j=>if j=0 then some s0 else none)) (c:MRunC P B K (some ⟨Q,0,s0⟩) g h'):MRunC P B K none g (h'++Shp++[⟨true,Q.r,.chan 0 #[] false 0 0 false⟩])
  |sync {Q:ProC} {d:Nat} {s:Q.S} {g:Goroutine} {h:Hp} (K':Nat→Option Q.S→Goroutine→Hp→Prop) (hs:g.status= .running)
      (st: ∀cl Shp F w,Q.Inv cl Shp F→F 0=some s→Sat B (h++Shp) w→(∃n tm,w.heap[Q.r]?=some (.chan 0 #[] cl n n tm))→SOutC P B Q 0 d s h Shp cl F g w K' (stepG P true g w))
      (c: ∀d' s' g' h',K' d' (some s') g' h'→MRunC P B K (some ⟨Q,d',s'⟩) g' h') (nn: ∀d' g' h',¬K' d' none g' h'):MRunC P B K (some ⟨Q,d,s⟩) g h
  |spawn {Q:ProC} {s:Q.S} {g g' child:Goroutine} {h h' hc:Hp} (s' sc:Q.S) (hs:g.status= .running) (hs':g'.status= .running) (e: ∀w,Sat B h w→stepG P true g w= .spawn g' child w #[]) (k1:Weak B h h') (k2:Weak B h hc) (ap: ∀w,Sat B h w→ApH h' hc)
      (hg: ¬Q.gone sc∧ ¬Q.heir sc) (hh:Q.say s∧(Q.heir s'→Q.heir s)) (inv: ∀cl Shp F j,j≠0→Q.Inv cl Shp F→F 0=some s→F j=none→Q.Inv cl Shp (jaY (jaY F 0 (some s')) j (some sc))) (kid: ∀j,j≠0→CRunC P B Q j 0 sc child hc) (c:MRunC P B K (some ⟨Q,0,s'⟩) g' h'):MRunC P B K (some ⟨Q,0,s⟩) g h
  |recv {Q:ProC} {s:Q.S} {g:Goroutine} {h:Hp} {z:Value} (hs:g.status= .running) (e: ∀o w,Sat B h w→stepG P true {g with offers:=o} w= .comm g #[rcase Q.r z] true (.recv true) w #[])
      (lv: ∀Shp F,Q.Inv false Shp F→F 0=some s→ ∃i x,i≠0∧F i=some x∧ ¬Q.Blk x Shp)
      (nx:Value→Hp→Q.S→Q.S→Q.S)
      (ok: ∀v hp x x' Shp F i,Q.Msg v hp x x'→i≠0→Q.Inv false Shp F→F 0=some s→F i=some x→(Q.heir (nx v hp x x')→Q.heir s)∧(Q.say (nx v hp x x')→Q.say s)∧Q.Inv false Shp (jaY (jaY F i (some x')) 0 (some (nx v hp x x'))))
      (c: ∀v hp x x',Q.Msg v hp x x'→(∃Shp F i,i≠0∧Q.Inv false Shp F∧F 0=some s∧F i=some x)→MRunC P B K (some ⟨Q,0,nx v hp x x'⟩) (Conc.served g (.tuple #[v,.bool true])) (h++hp))
      (fin:(∃Shp F,Q.Inv true Shp F∧F 0=some s)→MRunC P B K none (Conc.served g (.tuple #[z,.bool false])) h):MRunC P B K (some ⟨Q,0,s⟩) g h
theorem MRunC.bind {P:Program} {M:Option MStC} {g:Goroutine} (r:MRunC P B K' M g h) (c: ∀g' h',K' g' h'→MRunC P B K none g' h'):MRunC P B K M g h:=by
  induction r with
  |stop k=>exact c _ _ k
  |step K'' s _ ih=>exact .step K'' s ih
  |weak k _ ih=>exact .weak k ih
  |phase Q s0 hrw hs0 inv _ ih=>exact .phase Q s0 hrw hs0 inv ih
  |sync K' hs st _ nn ih=>exact .sync K' hs st ih nn
  |spawn s' sc hs hs' e k1 k2 ap hg hh inv kid _ ih=>exact .spawn s' sc hs hs' e k1 k2 ap hg hh inv kid ih
  |recv hs e lv nx ok _ _ ih1 ih2=>exact .recv hs e lv nx ok ih1 ih2
theorem MRunC.running {P:Program} (hK: ∀g h,K g h→g.status= .running) {M:Option MStC} {g:Goroutine} (r:MRunC P B K M g h):g.status= .running:=by
  induction r with
  |stop k=>exact hK _ _ k
  |step K'' s _ _=>exact s.1
  |weak k _ ih=>exact ih
  |phase Q s0 hrw hs0 inv _ ih=>exact ih
  |sync K' hs=>exact hs
  |spawn s' sc hs=>exact hs
  |recv hs=>exact hs
def Md.starC (P:Program) (B:Array Obj):Md P B where
  main:=true
  R:=fun K g h=>MRunC P B K none g h
  stop:= .stop
  step:=fun s n=> .step _ s n
  bind:=fun r n=>r.bind n
  weak:=fun k n=> .weak k n
structure Cf0C (P:Program) (B:Array Obj) (W:World) (old:Nat→Prop) (wa:Addr) (gs:Array Goroutine) (w:World) (t:Trace) (Hl:Nat→Hp) (Tf:Nat→TrU) (Dl:Nat→Nat):Prop where
  core:CoreC B W old [] wa none false (fun i=>i≠0) (fun i=>i=0) (fun _=>False) (fun i=>i=0) gs w t Hl
  deaf: ∀i,Deaf t i=Dl i
  d0:Dl 0=0
  kids: ∀(i:Nat) g,i≠0→gs[i]?=some g→ ∃k,Tf i= .ofNat k∧QuitsD P k (Dl i) g∧Hl i=[]
  hk: ∀(i:Nat) (x:MemOp),t[i]?=some x→x.g≠0→t.counts i→Knows t 0 i
def FinC (P:Program) (B:Array Obj) (W:World) (K:Goroutine→Hp→Prop) (gs:Array Goroutine) (w:World) (sl:Option (Nat×Nat)) (t:Trace):Prop:=
  ∃(N:Nat) (g':Goroutine) (gs':Array Goroutine) (w':World) (sl':Option (Nat×Nat)) (t':Trace) (Hl':Nat→Hp) (Tf':Nat→TrU) (Dl':Nat→Nat) (old':Nat→Prop) (wa':Addr),
    runNT P N (crowd gs w sl) t=(.next (crowd gs' w' sl'),t')∧gs'[0]?=some g'∧K g' (Hl' 0)∧Cf0C P B W old' wa' gs' w' t' Hl' Tf' Dl'
theorem FinC.step {P:Program} {B:Array Obj} {W:World} {K:Goroutine→Hp→Prop} {gs gs1:Array Goroutine} {w w1:World} {sl sl1:Option (Nat×Nat)} {t u:Trace} (h:stepT P (crowd gs w sl)=(.next (crowd gs1 w1 sl1),u)) (f:FinC P B W K gs1 w1 sl1 (t++u)):FinC P B W K gs w sl t:=by
  obtain ⟨N,g',gs',w',sl',t',Hl',Tf',Dl',old',wa',hr,q⟩:=f
  exact ⟨N+1,g',gs',w',sl',t',Hl',Tf',Dl',old',wa',ji4 h hr,q⟩
end Go.Lo
