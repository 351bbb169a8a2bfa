/- A part of the proof of a law. Condition of each theorem: as its statement says. -/
import Derived.Test.YtkaokkedapnfhaaGreatDoorVB5
set_option linter.all false
variable {P:Go.Program} {sp:Nat→Bool} {t e u ty:Go.TypeId} {k fuel b0 n n2 j fid i a bk:Nat} {cs vs junk l l':List Go.Value} {v:Go.Value} {g:Option (Nat×Bool)} {z:Int} {ts:List Go.TypeId} {A:Prop} {B:Array Go.Obj} {xs ys ln:List Int} {p p2:Option Go.Addr} {h S:Go.Lo.Hp} {fc cp:Array Go.Value} {pr:Nat→Prop} {ops:Array Go.Oper} {C:List Go.Value→Go.Lo.Hp→Prop} {r:List (Nat×Go.Lo.Kd)} {d:Option Go.Tmp} {pos:String} {af:Array Go.Edge}
set_option maxHeartbeats 4000000
set_option maxRecDepth 100000
set_option synthInstance.maxHeartbeats 1000000
set_option synthInstance.maxSize 100000
namespace Go.Lo
section
variable {H:Type} {enc:TypeId×Value→H} {w:World} {base:Nat} {held:Bool}
theorem joL {kd:IntKind} {x:DataW H×List MemPlace} (hu:P.underlying t=some (.slice e)) (hB:jlV P kd 3 e k=true) (h:DataW.trod enc P w base sp held fuel t cs=some x) (hs: ∀a n c,cs=[.slice (some a) n c]→a.spot=none):
    ∃(p:Option Addr) (n c:Nat) (zs:List Int),cs=[.slice p n c]∧n≤c∧zs.length=n*k∧RdS w.heap [] k (.slice p n c) n (zs.map (Value.int kd))∧ ∀z∈zs,(Lit.int kd z).wf=true:=by
  rcases Deep.open_slice hu h with ⟨rfl,_⟩|⟨a,len,cap,m,n,D,Pl,rfl,hb,hl,hm,hmm,_,hx⟩
  · exact ⟨none,0,0,[],rfl,gL _,by simp,⟨none,0,rfl,by simp,.inl ⟨rfl,rfl⟩⟩,fun z hz=>by simp at hz⟩
  · have hlm:len≤m:=by rw [hmm];split<;>omega
    have hc:P.cellsOf e=k:=jpb hB
    obtain ⟨ab,ao,sx⟩:=a
    obtain rfl:sx=none:=hs _ _ _ rfl
    obtain ⟨V,hV⟩:=Deep.choose_lt (α:=Int) (n:=len*k) (p:=fun q z=>w.cell? ⟨ab,ao+q,none⟩=some (.int kd z)∧(Lit.int kd z).wf=true) (fun q hq=>by
      have hk:0<k:=by rcases VB k with e0|e0;subst e0;simp at hq;exact e0
      have hi:q/k<len:=Nat.div_lt_of_lt_mul (by rw [Nat.mul_comm];exact hq)
      obtain ⟨cs',h1,h2⟩:=hx (q/k) zO
      obtain ⟨_,hlen,hcell⟩:=World.cells?_some h1
      obtain ⟨_,hall⟩:=jjv 3 hB h2
      obtain ⟨z,hz,hw⟩:=hall (q%k) (Vk _ hk)
      refine ⟨z,?_,hw⟩
      have:=hcell (q%k) (by rw [hc];exact Vk _ hk)
      rw [hz,Addr.add_none,Addr.add_none,hc] at this
      rw [←this];have e:=Nat.div_add_mod q k
      have e2:q/k*k=k*(q/k):=Nat.mul_comm _ _
      congr 2;omega)
    refine ⟨some ⟨ab,ao,none⟩,len,cap,(List.range (len*k)).map V,rfl,hl,by simp,⟨_,cap,rfl,by simp,.inr ⟨ab,ao,rfl,fun j hj=>?_⟩⟩,fun z hz=>?_⟩
    · have hj':j<len*k:=by simpa using hj
      have:(((List.range (len*k)).map V).map (Value.int kd)).getD j undef= .int kd (V j):=by
        rw [gC,ga,ga,Gp hj'];rfl
      rw [this];exact je2 (hV j hj').1
    · obtain ⟨q,hq,rfl⟩:=gP.1 hz
      exact (hV q (gT.1 hq)).2
theorem jko {r:Reach} (hu:P.underlying t=some (.slice e)) (h:Cell.okWide P w r b0 t v): ∀a n c,[v]=[.slice (some a) n c]→a.spot=none:=fun a n c e1=>by
  obtain rfl:=gy e1
  unfold Cell.okWide at h
  rw [hu] at h
  simp only [Cell.ok,hu] at h
  exact h.2.2.2.1
def joG:Value→Str
  | .string s=>s.data.toList
  |_=>[]
theorem str_of (s:ByteArray):Value.string s=str (joG (.string s)):=by cases s;simp [str,joG]
theorem jjB {x:DataW H×List MemPlace} (hu:P.underlying t=some (.slice e)) (he:P.underlying e=some .string) (hc:P.cellsOf e=1) (h:DataW.trod enc P w base sp held fuel t cs=some x):
    ∃(p:Option Addr) (c:Nat) (ss:List Str),cs=[.slice p ss.length c]∧ss.length≤c∧((∀a,p=some a→a.spot=none)∨0<ss.length→RdS w.heap [] 1 (.slice p ss.length c) ss.length (jay ss)):=by
  rcases Deep.open_slice1 hu hc h with ⟨rfl,_⟩|⟨a,len,cap,m,n,V,D,Pl,rfl,hb,hl,hm,hmm,_,hx⟩
  · exact ⟨none,0,[],rfl,gL _,fun _=>⟨none,0,rfl,rfl,.inl ⟨rfl,rfl⟩⟩⟩
  · have hlm:len≤m:=by rw [hmm];split<;>omega
    obtain ⟨ab,ao,sx⟩:=a
    have hv: ∀i,i<len→V i=str (joG (V i)):=fun i hi=>by
      obtain ⟨s,e,_⟩:=DataW.trod_string he (hx i zO).2
      have e':=gy e
      rw [e'];exact str_of s
    have hlen:((List.range len).map fun i=>joG (V i)).length=len:=by simp
    refine ⟨some ⟨ab,ao,sx⟩,cap,(List.range len).map fun i=>joG (V i),by rw [hlen],by rw [hlen];exact hl,fun hs=>?_⟩
    have hn:sx=none:=by
      rcases hs with hs|hs
      · exact hs _ rfl
      · rw [hlen] at hs
        have:=World.cell?_spot (hx 0 zO).1
        simpa [Addr.add] using this
    subst hn
    rw [hlen];refine ⟨_,cap,rfl,by rw [jdg];simp,.inr ⟨ab,ao,rfl,fun j hj=>?_⟩⟩
    have hj':j<len:=by simpa [jdg] using hj
    have e:(jay ((List.range len).map fun i=>joG (V i))).getD j undef=V j:=by
      rw [jdg,gC,ga,ga,Gp hj'];exact (hv j hj').symm
    rw [e];have:=(hx j zO).1
    rw [Addr.add_none] at this
    exact je2 this
theorem jh7 {g z:TypeId} {fs:Array Field} {x:DataW H×List MemPlace} (hu:P.underlying t=some (.slice e)) (he:P.underlying e=some (.struct fs)) (hfs:fs.toList.map (fun f=>(f.offset,f.type))=[(0,g),(1,u)]) (hg:P.underlying g=some (.int .i64)) (hgu:P.underlying u=some (.slice z)) (hz:P.underlying z=some .string)
    (ce:P.cellsOf e=2) (cg:P.cellsOf g=1) (cu:P.cellsOf u=1) (cz:P.cellsOf z=1) (h:DataW.trod enc P w base sp held fuel t cs=some x) (hs: ∀a n c,cs=[.slice (some a) n c]→a.spot=none):
    ∃(p:Option Addr) (n c:Nat) (lns:List Ln),cs=[.slice p n c]∧n≤c∧RdLn w.heap [] (.slice p n c) n lns:=by
  rcases Deep.open_slice hu h with ⟨rfl,_⟩|⟨a,len,cap,m,n,D,Pl,rfl,hb,hl,hm,hmm,_,hx⟩
  · exact ⟨none,0,0,[],rfl,gL _,[],rfl,⟨none,0,rfl,rfl,.inl ⟨rfl,rfl⟩⟩,by simp⟩
  · have hlm:len≤m:=by rw [hmm];split<;>omega
    obtain ⟨ab,ao,sx⟩:=a
    obtain rfl:sx=none:=hs _ _ _ rfl
    obtain ⟨f0,f1,rfl⟩: ∃f0 f1,fs= #[f0,f1]:=by
      obtain ⟨fl⟩:=fs
      have hlen:fl.length=2:=by simpa using congrArg List.length hfs
      match fl,hlen with
      |[f0,f1],_=>exact ⟨_,_,rfl⟩
    simp only [gu,vh,Gb,vn,and_true] at hfs
    obtain ⟨⟨o0,t0⟩,o1,t1⟩:=hfs
    obtain ⟨L,hL⟩:=Deep.choose_lt (α:=Lp) (n:=len) (p:=fun i x=>w.cell? ⟨ab,ao+i*2,none⟩=some (.int .i64 x.ln.lat)∧w.cell? ⟨ab,ao+i*2+1,none⟩=some (.slice x.p x.ln.figs.length x.c)∧x.ln.figs.length≤x.c∧(0<x.ln.figs.length→RdS w.heap [] 1 (.slice x.p x.ln.figs.length x.c) x.ln.figs.length (jay x.ln.figs))) (fun i hi=>by
      obtain ⟨cs',h1,h2⟩:=hx i zO
      rw [ce] at h1
      obtain ⟨_,hlen,hcell⟩:=World.cells?_some h1
      obtain ⟨c0,c1,rfl⟩: ∃c0 c1,cs'=[c0,c1]:=by
        match cs',hlen with
        |[c0,c1],_=>exact ⟨_,_,rfl⟩
      obtain ⟨xs,k,_,_,_,hxl,hxx⟩:=DataW.trod_struct he h2
      have go: ∀i,i<2→ ∃y,xs[i]?=some y:=fun i hi=>⟨_,gD (by rw [hxl];exact hi)⟩
      obtain ⟨y0,e0⟩:=go 0 zO;obtain ⟨y1,e1⟩:=go 1 zO
      have g0:=(hxx 0 f0 rfl).trans e0
      have g1:=(hxx 1 f1 rfl).trans e1
      rw [t0,o0,cg] at g0
      rw [t1,o1,cu] at g1
      obtain ⟨n0,q0,_,w0⟩:=DataW.trod_int hg g0
      obtain rfl:=gy (show [c0]=[Value.int .i64 n0] from q0)
      obtain ⟨p,c,ss,es,hc,hr⟩:=jjB (cs:=[c1]) hgu hz cz g1
      obtain rfl:=gy es
      have k0:=hcell 0 zO
      have k1:=hcell 1 zO
      rw [Addr.add_none,Addr.add_none] at k0 k1
      exact ⟨⟨⟨n0,ss⟩,p,c⟩,k0,k1,hc,fun hp=>hr (.inr hp)⟩)
    refine ⟨some ⟨ab,ao,none⟩,len,cap,((List.range len).map L).map (·.ln),rfl,hl,(List.range len).map L,rfl,⟨_,cap,rfl,by rw [jaW];simp,.inr ⟨ab,ao,rfl,fun j hj=>?_⟩⟩,fun y hy=>?_⟩
    · have hj':j<len*2:=by rw [jaW] at hj;simpa using hj
      have hi:j/2<len:=by omega
      have hgl:((List.range len).map L).getD (j/2) default=L (j/2):=by rw [gC,ga,Gp hi];rfl
      have e:=jm5 ((List.range len).map L) (j/2) (j%2) (by simpa using hi) zO
      rw [hgl,show j/2*2+j%2=j by omega] at e
      obtain ⟨k0,k1,_⟩:=hL (j/2) hi
      rw [gC,e];rcases (by omega:j%2=0∨j%2=1) with hm|hm
      · rw [hm,show ao+j=ao+j/2*2 by omega];exact je2 k0
      · rw [hm,show ao+j=ao+j/2*2+1 by omega];exact je2 k1
    · obtain ⟨i,hi,rfl⟩:=gP.1 hy
      obtain ⟨_,_,h1,h2⟩:=hL i (gT.1 hi)
      exact ⟨h1,h2⟩
end
end Go.Lo
namespace Go.Proofs
open Go.Lo
section
variable {H:Type} {enc:TypeId×Value→H} {w:World} {held:Bool}
theorem job {r:Reach} {d:DataW H} {ps:List MemPlace} (hv:Value.okWide Tryz.prog w r b0 26 v) (h:DataW.Trod enc Tryz.prog w 0 sp held 26 v d ps):
    ∃p n c xs,v= .slice p n c∧RdS w.heap [] 1 (.slice p n c) n (jaq xs)∧ ∀x∈xs,(Lit.int .i64 x).wf=true:=by
  have hu: Tryz.prog.underlying 26=some (.slice 3):=by kernel_rfl
  have hv':Cell.okWide Tryz.prog w r b0 26 v:=by
    unfold Value.okWide at hv
    rw [hu] at hv
    exact hv
  obtain ⟨fuel,h⟩:=h
  have hsl:v.cells.toList=[v]:=by
    unfold Cell.okWide at hv'
    rw [hu] at hv'
    cases v<;>first|rfl|(simp [Cell.ok,hu] at hv')
  rw [hsl] at h
  obtain ⟨p,n,c,zs,e,_,_,rd,hw⟩:=joL hu zK h (jko hu hv')
  exact ⟨p,n,c,zs,gy e,rd,hw⟩
theorem jdH {base:Nat} {ds:List (DataW H)} {ps:List MemPlace} (h:DataW.TrodAll enc P w base sp held (t::ts) vs ds ps):
    ∃v vr d dr p q,vs=v::vr∧ds=d::dr∧ps=p++q∧DataW.Trod enc P w base sp held t v d p∧DataW.TrodAll enc P w base sp held ts vr dr q:=by
  cases vs with
  |nil=>cases ds<;>exact absurd h id
  |cons v vr=>
    cases ds with
    |nil=>exact absurd h id
    |cons d dr=>
      obtain ⟨p,q,h1,h2,e⟩:=h
      exact ⟨v,vr,d,dr,p,q,rfl,rfl,e,h1,h2⟩
theorem jmA {base:Nat} {ds:List (DataW H)} {ps:List MemPlace} (h:DataW.TrodAll enc P w base sp held [] vs ds ps):vs=[]∧ds=[]∧ps=[]:=by
  cases vs with
  |nil=>
    cases ds with
    |nil=>exact ⟨rfl,rfl,h⟩
    |cons d dr=>exact absurd h id
  |cons v vr=>cases ds<;>exact absurd h id
theorem jdG {base:Nat} {d:DataW H} {ds:List (DataW H)} {p q:List MemPlace} (h:DataW.Trod enc P w base sp held t v d p) (k:DataW.TrodAll enc P w base sp held ts vs ds q):DataW.TrodAll enc P w base sp held (t::ts) (v::vs) (d::ds) (p++q):=⟨p,q,h,k,rfl⟩
theorem cell_arg {r:Reach} {d:DataW H} {ps:List MemPlace} (hv:Value.okWide Tryz.prog w r b0 28 v) (h:DataW.Trod enc Tryz.prog w 0 sp held 28 v d ps):
    ∃(bt:Bool) (li st:Int),v= .agg [.bool bt,.int .i64 li,.int .i64 st].toArray∧jep li∧jep st:=by
  obtain ⟨fs,hu,hfs⟩: ∃fs,Tryz.prog.underlying 28=some (.struct fs)∧fs.toList.map (fun f=>(f.offset,f.type))=[(0,4),(1,3),(2,3)]:=⟨_,Tryz.underlying28,by kernel_rfl⟩
  have h3: Tryz.prog.underlying 3=some (.int .i64):=by kernel_rfl
  have h4: Tryz.prog.underlying 4=some .bool:=by kernel_rfl
  unfold Value.okWide at hv
  rw [hu] at hv
  obtain ⟨cs,rfl,hsz,_⟩:=hv
  obtain ⟨fuel,h⟩:=h
  obtain ⟨xs,m,_,_,hl,hxl,hx⟩:=DataW.trod_struct hu h
  have hl2:cs.size=3:=hsz.trans zK
  obtain ⟨cl⟩:=cs
  obtain ⟨c0,c1,c2,rfl⟩: ∃c0 c1 c2,cl=[c0,c1,c2]:=by
    match cl,(show cl.length=3 from hl2) with
    |[c0,c1,c2],_=>exact ⟨_,_,_,rfl⟩
  obtain ⟨f0,f1,f2,rfl⟩: ∃f0 f1 f2,fs= #[f0,f1,f2]:=by
    obtain ⟨fl⟩:=fs
    have hlen:fl.length=3:=by simpa using congrArg List.length hfs
    match fl,hlen with
    |[f0,f1,f2],_=>exact ⟨_,_,_,rfl⟩
  simp only [gu,vh,Gb,vn,and_true] at hfs
  obtain ⟨⟨o0,t0⟩,⟨o1,t1⟩,o2,t2⟩:=hfs
  have s3: Tryz.prog.cellsOf 3=1:=by kernel_rfl
  have s4: Tryz.prog.cellsOf 4=1:=by kernel_rfl
  have go: ∀i,i<3→ ∃y,xs[i]?=some y:=fun i hi=>⟨_,gD (by rw [hxl];exact hi)⟩
  obtain ⟨y0,e0⟩:=go 0 zO;obtain ⟨y1,e1⟩:=go 1 zO;obtain ⟨y2,e2⟩:=go 2 zO
  have g0:=(hx 0 f0 rfl).trans e0
  have g1:=(hx 1 f1 rfl).trans e1
  have g2:=(hx 2 f2 rfl).trans e2
  rw [t0,o0,s4] at g0
  rw [t1,o1,s3] at g1
  rw [t2,o2,s3] at g2
  obtain ⟨b,q0,_⟩:=DataW.trod_bool h4 g0
  obtain ⟨n1,q1,_,w1⟩:=DataW.trod_int h3 g1
  obtain ⟨n2,q2,_,w2⟩:=DataW.trod_int h3 g2
  obtain rfl:=gy (show [c0]=[Value.bool b] from q0)
  obtain rfl:=gy (show [c1]=[Value.int .i64 n1] from q1)
  obtain rfl:=gy (show [c2]=[Value.int .i64 n2] from q2)
  refine ⟨b,n1,n2,rfl,?_,?_⟩
  · simp [Lit.wf,IntKind.min,IntKind.max,IntKind.signed,IntKind.bits] at w1;unfold jep;omega
  · simp [Lit.wf,IntKind.min,IntKind.max,IntKind.signed,IntKind.bits] at w2;unfold jep;omega
theorem tb_arg {r:Reach} {d:DataW H} {ps:List MemPlace} (hv:Value.okWide Tryz.prog w r b0 25 v) (h:DataW.Trod enc Tryz.prog w 0 sp held 25 v d ps):
    ∃b qs ns ks pw nw cw pb nb cb,v=tbV b qs ns ks pw nw cw pb nb cb∧ns≤ks∧RdS w.heap [] 1 (.slice qs ns ks) ns (jay b.sts)∧RdLn w.heap [] (.slice pw nw cw) nw b.waters∧RdLn w.heap [] (.slice pb nb cb) nb b.butts∧jep b.wrong:=by
  obtain ⟨fs,hu,hfs⟩: ∃fs,Tryz.prog.underlying 25=some (.struct fs)∧fs.toList.map (fun f=>(f.offset,f.type))=[(0,3),(1,22),(2,23),(3,23)]:=⟨_,Tryz.underlying25,by kernel_rfl⟩
  obtain ⟨ls,hul,hls⟩: ∃fs,Tryz.prog.underlying 114=some (.struct fs)∧fs.toList.map (fun f=>(f.offset,f.type))=[(0,3),(1,22)]:=⟨_,Tryz.underlying114,by kernel_rfl⟩
  have hct: Tryz.prog.cellTypes Tryz.prog.depth 25=some [3,22,23,23]:=by kernel_rfl
  have h3: Tryz.prog.underlying 3=some (.int .i64):=by kernel_rfl
  have h9: Tryz.prog.underlying 9=some .string:=by kernel_rfl
  have h22: Tryz.prog.underlying 22=some (.slice 9):=by kernel_rfl
  have h23: Tryz.prog.underlying 23=some (.slice 114):=by kernel_rfl
  unfold Value.okWide at hv
  rw [hu] at hv
  obtain ⟨cs,rfl,hsz,ts,hts,_,hall⟩:=hv
  rw [hct] at hts
  obtain rfl:=gF hts
  obtain ⟨fuel,h⟩:=h
  obtain ⟨xs,m,_,_,hl,hxl,hx⟩:=DataW.trod_struct hu h
  have hl4:cs.size=4:=hsz.trans zK
  obtain ⟨cl⟩:=cs
  have hl4':cl.length=4:=hl4
  obtain ⟨c0,c1,c2,c3,rfl⟩: ∃c0 c1 c2 c3,cl=[c0,c1,c2,c3]:=by
    match cl,hl4' with
    |[c0,c1,c2,c3],_=>exact ⟨_,_,_,_,rfl⟩
  obtain ⟨f0,f1,f2,f3,rfl⟩: ∃f0 f1 f2 f3,fs= #[f0,f1,f2,f3]:=by
    obtain ⟨fl⟩:=fs
    have hlen:fl.length=4:=by simpa using congrArg List.length hfs
    match fl,hlen with
    |[f0,f1,f2,f3],_=>exact ⟨_,_,_,_,rfl⟩
  simp only [gu,vh,Gb,vn,and_true] at hfs
  obtain ⟨⟨o0,t0⟩,⟨o1,t1⟩,⟨o2,t2⟩,o3,t3⟩:=hfs
  have s3: Tryz.prog.cellsOf 3=1:=by kernel_rfl
  have s9: Tryz.prog.cellsOf 9=1:=by kernel_rfl
  have s22: Tryz.prog.cellsOf 22=1:=by kernel_rfl
  have s23: Tryz.prog.cellsOf 23=1:=by kernel_rfl
  have s121: Tryz.prog.cellsOf 114=2:=by kernel_rfl
  have go: ∀i,i<4→ ∃y,xs[i]?=some y:=fun i hi=>⟨_,gD (by rw [hxl];exact hi)⟩
  obtain ⟨y0,e0⟩:=go 0 zO;obtain ⟨y1,e1⟩:=go 1 zO;obtain ⟨y2,e2⟩:=go 2 zO;obtain ⟨y3,e3⟩:=go 3 zO
  have g0:=(hx 0 f0 rfl).trans e0
  have g1:=(hx 1 f1 rfl).trans e1
  have g2:=(hx 2 f2 rfl).trans e2
  have g3:=(hx 3 f3 rfl).trans e3
  rw [t0,o0,s3] at g0
  rw [t1,o1,s22] at g1
  rw [t2,o2,s23] at g2
  rw [t3,o3,s23] at g3
  obtain ⟨n0,q0,_,w0⟩:=DataW.trod_int h3 g0
  obtain rfl:=gy (show [c0]=[Value.int .i64 n0] from q0)
  obtain ⟨u1,hu1,k1⟩:=hall 1 c1 rfl
  obtain ⟨u2,hu2,k2⟩:=hall 2 c2 rfl
  obtain ⟨u3,hu3,k3⟩:=hall 3 c3 rfl
  obtain rfl:22=u1:=gF hu1
  obtain rfl:23=u2:=gF hu2
  obtain rfl:23=u3:=gF hu3
  obtain ⟨qs,ks,ss,es,hks,rs⟩:=jjB (cs:=[c1]) h22 h9 s9 g1
  obtain rfl:=gy es
  obtain ⟨pw,nw,cw,lw,ew,hcw,rw'⟩:=jh7 (cs:=[c2]) h23 hul hls h3 h22 h9 s121 s3 s22 s9 g2 (jko h23 k2)
  obtain ⟨pb,nb,cb,lb,eb,hcb,rb⟩:=jh7 (cs:=[c3]) h23 hul hls h3 h22 h9 s121 s3 s22 s9 g3 (jko h23 k3)
  obtain rfl:=gy ew
  obtain rfl:=gy eb
  exact ⟨⟨n0,ss,lw,lb⟩,qs,ss.length,ks,pw,nw,cw,pb,nb,cb,rfl,hks,rs (.inl fun a ha=>by subst ha;exact jko h22 k1 a _ _ rfl),rw',rb,by
    simp [Lit.wf,IntKind.min,IntKind.max,IntKind.signed,IntKind.bits] at w0
    show jep n0
    unfold jep;omega⟩
end
end Go.Proofs
namespace Go.Lo
abbrev vw4 (U:Nat→Value) (i:Nat) (r:List Value):List Value:=U i::U (i+1)::U (i+2)::U (i+3)::r
abbrev vw5 (U:Nat→Value) (i:Nat) (r:List Value):List Value:=vw4 U i (U (i+4)::r)
abbrev vw6 (U:Nat→Value) (i:Nat) (r:List Value):List Value:=vw5 U i (U (i+5)::r)
abbrev vw7 (U:Nat→Value) (i:Nat) (r:List Value):List Value:=vw6 U i (U (i+6)::r)
abbrev vw8 (U:Nat→Value) (i:Nat) (r:List Value):List Value:=vw7 U i (U (i+7)::r)
abbrev vw9 (U:Nat→Value) (i:Nat) (r:List Value):List Value:=vw8 U i (U (i+8)::r)
abbrev jpx (U:Nat→Value) (i:Nat) (r:List Value):List Value:=vw9 U i (U (i+9)::r)
abbrev vw11 (U:Nat→Value) (i:Nat) (r:List Value):List Value:=jpx U i (U (i+10)::r)
abbrev vw12 (U:Nat→Value) (i:Nat) (r:List Value):List Value:=vw11 U i (U (i+11)::r)
abbrev vw13 (U:Nat→Value) (i:Nat) (r:List Value):List Value:=vw12 U i (U (i+12)::r)
abbrev vw14 (U:Nat→Value) (i:Nat) (r:List Value):List Value:=vw13 U i (U (i+13)::r)
abbrev vw15 (U:Nat→Value) (i:Nat) (r:List Value):List Value:=vw14 U i (U (i+14)::r)
abbrev vw16 (U:Nat→Value) (i:Nat) (r:List Value):List Value:=vw15 U i (U (i+15)::r)
abbrev vw17 (U:Nat→Value) (i:Nat) (r:List Value):List Value:=vw16 U i (U (i+16)::r)
abbrev vw18 (U:Nat→Value) (i:Nat) (r:List Value):List Value:=vw17 U i (U (i+17)::r)
abbrev vw20 (U:Nat→Value) (i:Nat) (r:List Value):List Value:=vw18 U i (U (i+18)::U (i+19)::r)
abbrev vw22 (U:Nat→Value) (i:Nat) (r:List Value):List Value:=vw20 U i (U (i+20)::U (i+21)::r)
abbrev vw23 (U:Nat→Value) (i:Nat) (r:List Value):List Value:=vw22 U i (U (i+22)::r)
abbrev vw24 (U:Nat→Value) (i:Nat) (r:List Value):List Value:=vw23 U i (U (i+23)::r)
abbrev vw25 (U:Nat→Value) (i:Nat) (r:List Value):List Value:=vw24 U i (U (i+24)::r)
abbrev vw27 (U:Nat→Value) (i:Nat) (r:List Value):List Value:=vw25 U i (U (i+25)::U (i+26)::r)
abbrev vw28 (U:Nat→Value) (i:Nat) (r:List Value):List Value:=vw27 U i (U (i+27)::r)
abbrev vw31 (U:Nat→Value) (i:Nat) (r:List Value):List Value:=vw28 U i (U (i+28)::U (i+29)::U (i+30)::r)
abbrev vw32 (U:Nat→Value) (i:Nat) (r:List Value):List Value:=vw31 U i (U (i+31)::r)
abbrev vw33 (U:Nat→Value) (i:Nat) (r:List Value):List Value:=vw32 U i (U (i+32)::r)
abbrev vw34 (U:Nat→Value) (i:Nat) (r:List Value):List Value:=vw33 U i (U (i+33)::r)
abbrev vw35 (U:Nat→Value) (i:Nat) (r:List Value):List Value:=vw34 U i (U (i+34)::r)
abbrev vw36 (U:Nat→Value) (i:Nat) (r:List Value):List Value:=vw35 U i (U (i+35)::r)
abbrev vw37 (U:Nat→Value) (i:Nat) (r:List Value):List Value:=vw36 U i (U (i+36)::r)
abbrev vw38 (U:Nat→Value) (i:Nat) (r:List Value):List Value:=vw37 U i (U (i+37)::r)
abbrev vw39 (U:Nat→Value) (i:Nat) (r:List Value):List Value:=vw38 U i (U (i+38)::r)
abbrev vw40 (U:Nat→Value) (i:Nat) (r:List Value):List Value:=vw39 U i (U (i+39)::r)
abbrev vw41 (U:Nat→Value) (i:Nat) (r:List Value):List Value:=vw40 U i (U (i+40)::r)
abbrev vw42 (U:Nat→Value) (i:Nat) (r:List Value):List Value:=vw41 U i (U (i+41)::r)
abbrev vw45 (U:Nat→Value) (i:Nat) (r:List Value):List Value:=vw42 U i (U (i+42)::U (i+43)::U (i+44)::r)
abbrev vw46 (U:Nat→Value) (i:Nat) (r:List Value):List Value:=vw45 U i (U (i+45)::r)
abbrev vw48 (U:Nat→Value) (i:Nat) (r:List Value):List Value:=vw46 U i (U (i+46)::U (i+47)::r)
abbrev vw49 (U:Nat→Value) (i:Nat) (r:List Value):List Value:=vw48 U i (U (i+48)::r)
abbrev vw50 (U:Nat→Value) (i:Nat) (r:List Value):List Value:=vw49 U i (U (i+49)::r)
abbrev vw52 (U:Nat→Value) (i:Nat) (r:List Value):List Value:=vw50 U i (U (i+50)::U (i+51)::r)
abbrev vw53 (U:Nat→Value) (i:Nat) (r:List Value):List Value:=vw52 U i (U (i+52)::r)
abbrev vw54 (U:Nat→Value) (i:Nat) (r:List Value):List Value:=vw53 U i (U (i+53)::r)
abbrev vw55 (U:Nat→Value) (i:Nat) (r:List Value):List Value:=vw54 U i (U (i+54)::r)
abbrev vw57 (U:Nat→Value) (i:Nat) (r:List Value):List Value:=vw55 U i (U (i+55)::U (i+56)::r)
abbrev vw62 (U:Nat→Value) (i:Nat) (r:List Value):List Value:=vw57 U i (vw5 U (i+57) r)
abbrev vw63 (U:Nat→Value) (i:Nat) (r:List Value):List Value:=vw62 U i (U (i+62)::r)
abbrev vw65 (U:Nat→Value) (i:Nat) (r:List Value):List Value:=vw63 U i (U (i+63)::U (i+64)::r)
abbrev vw66 (U:Nat→Value) (i:Nat) (r:List Value):List Value:=vw65 U i (U (i+65)::r)
abbrev vw67 (U:Nat→Value) (i:Nat) (r:List Value):List Value:=vw66 U i (U (i+66)::r)
abbrev vw68 (U:Nat→Value) (i:Nat) (r:List Value):List Value:=vw67 U i (U (i+67)::r)
abbrev vw73 (U:Nat→Value) (i:Nat) (r:List Value):List Value:=vw68 U i (vw5 U (i+68) r)
abbrev vw74 (U:Nat→Value) (i:Nat) (r:List Value):List Value:=vw73 U i (U (i+73)::r)
abbrev vw83 (U:Nat→Value) (i:Nat) (r:List Value):List Value:=vw74 U i (vw9 U (i+74) r)
abbrev vw84 (U:Nat→Value) (i:Nat) (r:List Value):List Value:=vw83 U i (U (i+83)::r)
abbrev vw85 (U:Nat→Value) (i:Nat) (r:List Value):List Value:=vw84 U i (U (i+84)::r)
abbrev vw90 (U:Nat→Value) (i:Nat) (r:List Value):List Value:=vw85 U i (vw5 U (i+85) r)
abbrev vw100 (U:Nat→Value) (i:Nat) (r:List Value):List Value:=vw90 U i (jpx U (i+90) r)
abbrev vw105 (U:Nat→Value) (i:Nat) (r:List Value):List Value:=vw100 U i (vw5 U (i+100) r)
abbrev vw107 (U:Nat→Value) (i:Nat) (r:List Value):List Value:=vw105 U i (U (i+105)::U (i+106)::r)
abbrev vw117 (U:Nat→Value) (i:Nat) (r:List Value):List Value:=vw107 U i (jpx U (i+107) r)
abbrev vw121 (U:Nat→Value) (i:Nat) (r:List Value):List Value:=vw117 U i (vw4 U (i+117) r)
abbrev vw122 (U:Nat→Value) (i:Nat) (r:List Value):List Value:=vw121 U i (U (i+121)::r)
abbrev vw123 (U:Nat→Value) (i:Nat) (r:List Value):List Value:=vw122 U i (U (i+122)::r)
abbrev jmy (U:Nat→Value) (i:Nat) (r:List Value):List Value:=vw123 U i (U (i+123)::r)
abbrev vw130 (U:Nat→Value) (i:Nat) (r:List Value):List Value:=jmy U i (vw6 U (i+124) r)
abbrev jpM (U:Nat→Value) (i:Nat) (r:List Value):List Value:=vw130 U i (vw25 U (i+130) (U (i+155)::r))
abbrev Zp (i:Nat):Nat×Kd:=(i,.pure)
abbrev Zr (i:Nat):Nat×Kd:=(i,.read)
abbrev Zk (i:Nat):Nat×Kd:=(i,.keep)
abbrev Za (i:Nat):Nat×Kd:=(i,.alloc)
abbrev Zc (i:Nat):Nat×Kd:=(i,.call)
abbrev Zf (i:Nat):Nat×Kd:=(i,.free)
end Go.Lo
namespace Go.Lo
open Go.Conc (G)
structure Wr (B:Prop):Prop where
  g:B
section
variable {A B:Prop}
theorem Zs (b:B) (h:Wr B→A:=by intro zx;(first|refine jad ?_|refine mq rfl ?_|refine k_nil ?_|refine jce ?_|refine k_as rfl zq ?_|refine k_off rfl rfl ?_|refine run_no ?_|refine k_mv rfl rfl ?_|refine run_ret rfl ?_|refine run_yes ?_|refine run_skip ?_|refine rr1 ?_|refine rr2 ?_|refine rr3 ?_|(first|refine k_fa0 rfl zq ?_|refine k_fa rfl zq ?_)|refine jqm ?_|refine jo9 rfl zq (by unfold jep;omega) ?_|refine jkM rfl zq ?_|refine jhx rfl zq ?_|refine jmI ?_|refine jq8 rfl zq ?_|refine jq7 rfl zq ?_|refine rr4 ?_|refine jhw rfl zq ?_|refine run_exit rfl ?_|refine i_seq ?_|refine k_nilC rfl zq ?_|refine jpA rfl zq ?_|refine jlW ?_|refine rr5 ?_|refine i_region rfl ?_|refine k_ext0 rfl zq ?_|refine k_ext1 rfl zq ?_|refine k_sub rfl zq (by unfold jep;omega) ?_|refine rr6 ?_|refine rr7 ?_|refine i_off rfl rfl ?_|refine rr8 ?_|refine k_notT rfl zq ?_|refine k_notF rfl zq ?_|refine i_as rfl zq ?_|refine jq8 rfl rfl ?_|refine rr9 ?_|refine k_ixa rfl zq zO zO ?_|(first|refine k_fa0 rfl rfl ?_|refine k_fa rfl rfl ?_)|refine i_else ?_|refine i_skip ?_|refine jq7 rfl rfl ?_|refine k_ixa rfl rfl zO zO ?_|refine jn1 rfl zq jke ?_|refine rr10 ?_|refine jpc rfl zq ?_|(first|refine i_fa0 rfl zq ?_|refine i_fa rfl zq ?_)|refine k_nilC rfl rfl ?_|refine i_pickF rfl zq ?_|refine i_if ?_|refine i_ret rfl ?_|refine hK _ _ ?_);exact zx.g):A:=h ⟨b⟩
theorem Z2 (b:B) (h:Wr B→A:=by intro zx;(iterate 2 (refine Zs ?_));exact zx.g):A:=h ⟨b⟩
theorem Z3 (b:B) (h:Wr B→A:=by intro zx;(iterate 3 (refine Zs ?_));exact zx.g):A:=h ⟨b⟩
theorem Z4 (b:B) (h:Wr B→A:=by intro zx;(iterate 4 (refine Zs ?_));exact zx.g):A:=h ⟨b⟩
theorem Z5 (b:B) (h:Wr B→A:=by intro zx;(iterate 5 (refine Zs ?_));exact zx.g):A:=h ⟨b⟩
theorem Z6 (b:B) (h:Wr B→A:=by intro zx;(iterate 6 (refine Zs ?_));exact zx.g):A:=h ⟨b⟩
theorem Z7 (b:B) (h:Wr B→A:=by intro zx;(iterate 7 (refine Zs ?_));exact zx.g):A:=h ⟨b⟩
theorem Z8 (b:B) (h:Wr B→A:=by intro zx;(iterate 8 (refine Zs ?_));exact zx.g):A:=h ⟨b⟩
theorem Z9 (b:B) (h:Wr B→A:=by intro zx;(iterate 9 (refine Zs ?_));exact zx.g):A:=h ⟨b⟩
theorem Z10 (b:B) (h:Wr B→A:=by intro zx;(iterate 10 (refine Zs ?_));exact zx.g):A:=h ⟨b⟩
theorem Z11 (b:B) (h:Wr B→A:=by intro zx;(iterate 11 (refine Zs ?_));exact zx.g):A:=h ⟨b⟩
theorem Z12 (b:B) (h:Wr B→A:=by intro zx;(iterate 12 (refine Zs ?_));exact zx.g):A:=h ⟨b⟩
theorem Z13 (b:B) (h:Wr B→A:=by intro zx;(iterate 13 (refine Zs ?_));exact zx.g):A:=h ⟨b⟩
theorem Z14 (b:B) (h:Wr B→A:=by intro zx;(iterate 14 (refine Zs ?_));exact zx.g):A:=h ⟨b⟩
theorem Z15 (b:B) (h:Wr B→A:=by intro zx;(iterate 15 (refine Zs ?_));exact zx.g):A:=h ⟨b⟩
theorem Z16 (b:B) (h:Wr B→A:=by intro zx;(iterate 16 (refine Zs ?_));exact zx.g):A:=h ⟨b⟩
theorem Z17 (b:B) (h:Wr B→A:=by intro zx;(iterate 17 (refine Zs ?_));exact zx.g):A:=h ⟨b⟩
theorem Z18 (b:B) (h:Wr B→A:=by intro zx;(iterate 18 (refine Zs ?_));exact zx.g):A:=h ⟨b⟩
theorem Z19 (b:B) (h:Wr B→A:=by intro zx;(iterate 19 (refine Zs ?_));exact zx.g):A:=h ⟨b⟩
theorem Z20 (b:B) (h:Wr B→A:=by intro zx;(iterate 20 (refine Zs ?_));exact zx.g):A:=h ⟨b⟩
theorem Z21 (b:B) (h:Wr B→A:=by intro zx;(iterate 21 (refine Zs ?_));exact zx.g):A:=h ⟨b⟩
theorem Z22 (b:B) (h:Wr B→A:=by intro zx;(iterate 22 (refine Zs ?_));exact zx.g):A:=h ⟨b⟩
theorem Z23 (b:B) (h:Wr B→A:=by intro zx;(iterate 23 (refine Zs ?_));exact zx.g):A:=h ⟨b⟩
theorem Z24 (b:B) (h:Wr B→A:=by intro zx;(iterate 24 (refine Zs ?_));exact zx.g):A:=h ⟨b⟩
theorem Z25 (b:B) (h:Wr B→A:=by intro zx;(iterate 25 (refine Zs ?_));exact zx.g):A:=h ⟨b⟩
theorem Z30 (b:B) (h:Wr B→A:=by intro zx;(iterate 30 (refine Zs ?_));exact zx.g):A:=h ⟨b⟩
theorem Z34 (b:B) (h:Wr B→A:=by intro zx;(iterate 34 (refine Zs ?_));exact zx.g):A:=h ⟨b⟩
theorem Z37 (b:B) (h:Wr B→A:=by intro zx;(iterate 37 (refine Zs ?_));exact zx.g):A:=h ⟨b⟩
theorem D0 (b:B) (h:Wr B→A:=by intro zx;refine ja1 rfl zq (by first|rfl|assumption) zO zO ?_;exact zx.g):A:=h ⟨b⟩
theorem D1 (b:B) (h:Wr B→A:=by intro zx;refine jan [Zp 0,Zp 1,Zp 2,Zp 3,Zp 4,Zp 5,Zp 6,Zp 8,Zp 9,Zp 10,Zr 7,Zr 11,Zp 12,Zf 13,Zp 14,Zf 15] zK zK (gE _) ?_;exact zx.g):A:=h ⟨b⟩
theorem D2 (b:B) (h:Wr B→A:=by intro zx;refine jaJ rfl zq zK (Post:=fun v nz=>jg6 B b (tbL b ps ns ks pw nw cw pb nb cb) (jaO b (ownP b st x)) nz v) (fun H' hH=>f50_c m H' (ra.keeps (sq hH)) callB110 (fun hk K q hKs hs=>by simpa [ownP,hsl] using f110_c m K hs hsl hns ((rd_has (q:=qs)).keeps (hH.trans hKs)) ((rd_has (q:=qa)).keeps (hH.trans hKs)))) ?_;exact zx.g):A:=h ⟨b⟩
theorem D3 (b:B) (h:Wr B→A:=by intro zx;refine jaJ rfl zq zK (Post:=fun w new=>OwnS 3 1 w (jkJ (jau (x.ln.figs.getD j []))).length (jaq (jkJ (jau (x.ln.figs.getD j [])))) new) (fun H' hH=>f68_c m H' (ja7 _)) ?_;exact zx.g):A:=h ⟨b⟩
theorem D4 (b:B) (h:Wr B→A:=by intro zx;refine jaJ rfl zq zK (Post:=fun v nz=> ∃q q',nz=[⟨true,q,.cells [.int .i64 st].toArray 3 (0,0)⟩,⟨true,q',.cells [.int .i64 x].toArray 3 (0,0)⟩]∧v= .func (.func 110) #[] [.pointer (some ⟨q,0,none⟩),.pointer (some ⟨q',0,none⟩)].toArray) (fun H' hH=>f73_c m H' st x) ?_;exact zx.g):A:=h ⟨b⟩
theorem D5 (b:B) (h:Wr B→A:=by intro zx;refine ja1 rfl rfl (by first|rfl|assumption) zO zO ?_;exact zx.g):A:=h ⟨b⟩
theorem D6 (b:B) (h:Wr B→A:=by intro zx;refine jaJ rfl zq zK (Post:=fun v nz=>jg6 B b (tbL b ps ns ks pw nw cw pb nb cb) (jaO b (jdN b c)) nz v) (fun H' hH=>f50_c m H' (ra.keeps (sq hH)) jrY (fun hk K q hKs hs=>by simpa [jdN] using f95_c m K hs (c:=c) (RdN.keepsN (jnG (q:=qs)) (hH.trans hKs)))) ?_;exact zx.g):A:=h ⟨b⟩
theorem D7 (b:B) (h:Wr B→A:=by intro zx;refine jlP rfl zq rfl ?_;exact zx.g):A:=h ⟨b⟩
theorem D8 (b:B) (h:Wr B→A:=by intro zx;refine jaJ rfl zq zK (Post:=fun v nz=> ∃q,nz=[⟨true,q,.cells (ceL c).toArray 28 (0,0)⟩]∧v= .func (.func 95) #[] [.pointer (some ⟨q,0,none⟩)].toArray) (fun H' hH=>f51_c m H' c) ?_;exact zx.g):A:=h ⟨b⟩
theorem D9 (b:B) (h:Wr B→A:=by intro zx;refine k_st1 rfl zq ?_;exact zx.g):A:=h ⟨b⟩
theorem D10 (b:B) (h:Wr B→A:=by intro zx;refine jac (((h0++[⟨true,qy,.cells [yv].toArray 180 (0,0)⟩,⟨true,qn,.cells [.func (.func 124) #[] [.pointer (some ⟨qx,0,none⟩),.pointer (some ⟨qy,0,none⟩),.pointer (some ⟨qm,0,none⟩),.pointer (some ⟨qn,0,none⟩),.pointer (some ⟨qc,0,none⟩)].toArray].toArray 181 (0,0)⟩])++X)++R2) rfl Tryz.func124 rfl jaa ?_;exact zx.g):A:=h ⟨b⟩
theorem D11 (b:B) (h:Wr B→A:=by intro zx;refine ja1 rfl zq rfl zO zO ?_;exact zx.g):A:=h ⟨b⟩
theorem D12 (b:B) (h:Wr B→A:=by intro zx;refine jan [Zp 0,Zp 1,Zp 2,Zp 3,Zp 4,Zp 5,Zp 6,Zp 7,Zp 8,Zp 10,Zp 11,Zp 12,Zr 9,Zr 13,Zp 14,Zf 15,Zp 16,Zf 17] zK zK (gE _) ?_;exact zx.g):A:=h ⟨b⟩
theorem D13 (b:B) (h:Wr B→A:=by intro zx;refine jan [Zp 0,Zp 1,Zp 2,Zp 3,Zp 4,Zp 6,Zp 7,Zp 8,Zp 9,Zp 10,Zr 5,Zr 11,Zp 12,Zp 13,Zp 14,Zp 15,Zp 16,Zp 17,Zp 18,Zp 19,Zp 20,Zp 21,Zp 22,Zp 23,Zp 25,Zp 26,Zp 27,Zp 28,Zp 29,Zr 24,Zr 30,Zp 31,Zp 32,Zp 33,Zp 34,Zp 35,Zp 36,Zp 37,Zp 38] zK zK (gE _) ?_;exact zx.g):A:=h ⟨b⟩
theorem D14 (b:B) (h:Wr B→A:=by intro zx;refine jac (h) rfl Tryz.func86 rfl jaa ?_;exact zx.g):A:=h ⟨b⟩
theorem D15 (b:B) (h:Wr B→A:=by intro zx;refine jan [Zp 0,Zp 1,Zp 2,Zp 3,Zp 4,Zp 5,Zp 8,Zp 9,Zp 10,Zr 6,Zk 7,Zf 11,Zf 12,Zp 13] zK zK (gE _) ?_;exact zx.g):A:=h ⟨b⟩
theorem D16 (b:B) (h:Wr B→A:=by intro zx;refine jag (Post:=fun v=>IsB _ v) rfl rfl zK (fun H' hH=>f131_c m H' _ _) ?_;exact zx.g):A:=h ⟨b⟩
theorem D17 (b:B) (h:Wr B→A:=by intro zx;refine jaI (v:= .slice (lps.getD i default).p (lps.getD i default).ln.figs.length (lps.getD i default).c) rfl zq (rl.fat i 1 zO zO rfl) ?_;exact zx.g):A:=h ⟨b⟩
theorem D18 (b:B) (h:Wr B→A:=by intro zx;refine jer (w:=[0,0,0]) rfl zq rfl zN ?_;exact zx.g):A:=h ⟨b⟩
theorem D19 (b:B) (h:Wr B→A:=by intro zx;refine jaJ rfl zq zK (Post:=fun v nz=> ∃q,v= .pointer (some ⟨q,0,none⟩)∧Sheet B nz b q (tbL b ps ns ks pw nw cw pb nb cb)) (fun H' hH=>f32_r m H' (ra.keeps (sq hH)) hk) ?_;exact zx.g):A:=h ⟨b⟩
theorem D20 (b:B) (h:Wr B→A:=by intro zx;refine jfj rfl rfl zA ?_;exact zx.g):A:=h ⟨b⟩
theorem D21 (b:B) (h:Wr B→A:=by intro zx;refine jag (Post:=fun v=>IsB _ v) rfl zq zK (fun H' hH=>f33_c m H' _ _ _) ?_;exact zx.g):A:=h ⟨b⟩
theorem D22 (b:B) (h:Wr B→A:=by intro zx;refine jan [Zp 0,Zp 1,Zp 2,Zp 3,Zp 4,Zp 5,Zp 6,Zp 7,Zp 9,Zp 10,Zp 11,Zr 8,Zr 12,Zp 13,Zp 14] zK zK (gE _) ?_;exact zx.g):A:=h ⟨b⟩
theorem D23 (b:B) (h:Wr B→A:=by intro zx;refine jac (h) rfl Tryz.func67 rfl jaa ?_;exact zx.g):A:=h ⟨b⟩
theorem D24 (b:B) (h:Wr B→A:=by intro zx;refine jan [Zp 0,Zp 1,Zp 2,Zp 3,Zp 4,Zp 5,Zp 6,Zp 7,Zp 8,Zp 9,Zp 10,Zp 11,Zp 12,Zp 14,Zp 15,Zp 16,Zp 17,Zp 18,Zr 13,Zr 19,Zp 20,Zf 21,Zp 22,Zf 23] zK zK (gE _) ?_;exact zx.g):A:=h ⟨b⟩
theorem D25 (b:B) (h:Wr B→A:=by intro zx;refine jcq (v:= .bool false) rfl zq zA (jqH zA) ?_;exact zx.g):A:=h ⟨b⟩
theorem D26 (b:B) (h:Wr B→A:=by intro zx;refine k_mul rfl zq (by unfold jep;omega) ?_;exact zx.g):A:=h ⟨b⟩
theorem D27 (b:B) (h:Wr B→A:=by intro zx;refine jac (((h0++[⟨true,qy,.cells [yv].toArray 180 (0,0)⟩,⟨true,qn,.cells [.func (.func 124) #[] [.pointer (some ⟨qx,0,none⟩),.pointer (some ⟨qy,0,none⟩),.pointer (some ⟨qm,0,none⟩),.pointer (some ⟨qn,0,none⟩),.pointer (some ⟨qc,0,none⟩)].toArray].toArray 181 (0,0)⟩])++X)++R1) rfl Tryz.func124 rfl jaa ?_;exact zx.g):A:=h ⟨b⟩
theorem D28 (b:B) (h:Wr B→A:=by intro zx;refine jac (((h0++[⟨true,qy,.cells [yv].toArray 180 (0,0)⟩,⟨true,qn,.cells [.func (.func 124) #[] [.pointer (some ⟨qx,0,none⟩),.pointer (some ⟨qy,0,none⟩),.pointer (some ⟨qm,0,none⟩),.pointer (some ⟨qn,0,none⟩),.pointer (some ⟨qc,0,none⟩)].toArray].toArray 181 (0,0)⟩])++X)++R) rfl Tryz.func124 rfl jaa ?_;exact zx.g):A:=h ⟨b⟩
theorem D29 (b:B) (h:Wr B→A:=by intro zx;refine jaI rfl rfl ((sh.latI (i:=k) zO).keeps SubH.sub) ?_;exact zx.g):A:=h ⟨b⟩
theorem D30 (b:B) (h:Wr B→A:=by intro zx;refine jag (Post:=fun v=>IsB _ v) rfl zq zK (fun H' hH=>f33_c _ H' _ _ _) ?_;exact zx.g):A:=h ⟨b⟩
theorem D31 (b:B) (h:Wr B→A:=by intro zx;refine jac (h) rfl Tryz.func160 rfl jaa ?_;exact zx.g):A:=h ⟨b⟩
theorem D32 (b:B) (h:Wr B→A:=by intro zx;refine jhj (c:=(jaN s).getD i 0) rfl zq jke zO (jl0 zO) ?_;exact zx.g):A:=h ⟨b⟩
theorem D33 (b:B) (h:Wr B→A:=by intro zx;refine m.weak (h':=h++[⟨true,q2,.cells (tbL b ps ns ks pw nw cw pb nb cb).toArray 25 (0,0)⟩,⟨true,q3,.cells (ceL c).toArray 28 (0,0)⟩]++[⟨true,qs,.cells (ceL c).toArray 28 (0,0)⟩]++n8++[⟨true,q6,.cells [.pointer (some ⟨q9,0,none⟩),.slice p8 (jah b).length c8].toArray 93 (0,0)⟩]) jd6 ?_;exact zx.g):A:=h ⟨b⟩
theorem D34 (b:B) (h:Wr B→A:=by intro zx;refine jan [Zp 0,Zp 1,Zp 2,Zp 3,Zp 4,Zp 5,Zp 6,Zp 7,Zp 8,Zp 9,Zp 10,Zp 12,Zp 13,Zp 14,Zr 11,Zr 15,Zp 16,Zf 17,Zp 18,Zf 19] zK zK (gE _) ?_;exact zx.g):A:=h ⟨b⟩
theorem D35 (b:B) (h:Wr B→A:=by intro zx;refine jdd (n':=(ru:Int)) rfl zq zK (jdK (by unfold jep;omega)) ?_;exact zx.g):A:=h ⟨b⟩
theorem D36 (b:B) (h:Wr B→A:=by intro zx;refine jaJ rfl zq zK (Post:=fun v nw=>OwnS 68 13 v (jah b).length (jay (jah b)) nw) (fun H' hH=>f48_c m H' (sh.keeps (Gj zW hH)) hk) ?_;exact zx.g):A:=h ⟨b⟩
theorem D37 (b:B) (h:Wr B→A:=by intro zx;refine DrawT.leaf [Zp 0,Zp 2,Zp 4,Zp 9,Zp 11,Zr 1,Zr 3,Zp 5,Zp 6,Zr 7,Zr 10,Zp 12,Zp 13,Zr 14,Zk 8,Zk 15,Zp 16,Zk 17,Zk 18,Zp 19,Zf 20] zK ?_;exact zx.g):A:=h ⟨b⟩
theorem D38 (b:B) (h:Wr B→A:=by intro zx;refine jan [Zp 0,Zp 1,Zp 2,Zp 4,Zp 7,Zp 8,Zp 9,Zp 11,Zr 3,Zp 5,Zr 6,Zr 10,Zp 12,Zr 13,Za 14,Za 15,Zk 16,Zf 17] zK zK (gE _) ?_;exact zx.g):A:=h ⟨b⟩
theorem D39 (b:B) (h:Wr B→A:=by intro zx;refine k_bld rfl zq ?_;exact zx.g):A:=h ⟨b⟩
theorem D40 (b:B) (h:Wr B→A:=by intro zx;refine jan [Zp 0,Zp 1,Zp 3,Zp 4,Zr 2,Zr 5,Zp 6,Zp 7,Zp 8,Zf 9] zK zK (gE _) ?_;exact zx.g):A:=h ⟨b⟩
theorem D41 (b:B) (h:Wr B→A:=by intro zx;refine jaI rfl rfl ((sh.latI (i:=i) zO).keeps SubH.sub) ?_;exact zx.g):A:=h ⟨b⟩
theorem D42 (b:B) (h:Wr B→A:=by intro zx;refine jaI rfl zq (rd.iat k zO zO) ?_;exact zx.g):A:=h ⟨b⟩
theorem D43 (b:B) (h:Wr B→A:=by intro zx;refine jdc rfl zq (ja7 _).len ?_;exact zx.g):A:=h ⟨b⟩
theorem D44 (b:B) (h:Wr B→A:=by intro zx;refine jbC [Zf 0,Zf 1,Zf 2,Zf 3,Zf 4,Zf 5,Zf 6,Zf 7,Zf 8,Zf 9,Zf 10,Zf 11,Zf 12,Zf 13,Zf 14,Zf 15] zK zK ?_;exact zx.g):A:=h ⟨b⟩
theorem D45 (b:B) (h:Wr B→A:=by intro zx;refine jan [Zp 0,Zp 1,Zp 2,Zp 3,Zp 4,Zp 6,Zp 7,Zp 8,Zp 9,Zp 10,Zr 5,Zr 11,Zk 12,Zp 13] zK zK (gE _) ?_;exact zx.g):A:=h ⟨b⟩
theorem D46 (b:B) (h:Wr B→A:=by intro zx;refine jag (Post:=fun v=>IsB _ v) rfl zq zK (fun H' hH=>f131_c m H' _ _) ?_;exact zx.g):A:=h ⟨b⟩
theorem D47 (b:B) (h:Wr B→A:=by intro zx;refine jag (Post:=fun v=>IsB _ v) rfl zq zK (fun H' hH=>f119_c m H' _) ?_;exact zx.g):A:=h ⟨b⟩
theorem D48 (b:B) (h:Wr B→A:=by intro zx;refine jan [Zp 0,Zp 1,Zp 3,Zp 4,Zr 2,Zr 5,Zp 6] zK zK (gE _) ?_;exact zx.g):A:=h ⟨b⟩
theorem D49 (b:B) (h:Wr B→A:=by intro zx;refine jaI (v:= .slice (lps.getD i default).p (lps.getD i default).ln.figs.length (lps.getD i default).c) rfl zq (rl2.fat i 1 zO zO rfl) ?_;exact zx.g):A:=h ⟨b⟩
theorem D50 (b:B) (h:Wr B→A:=by intro zx;refine jdd (n':=(((jaN s).getD i 0).toNat:Int)) rfl zq zK (jdK (by unfold jep;omega)) ?_;exact zx.g):A:=h ⟨b⟩
theorem D51 (b:B) (h:Wr B→A:=by intro zx;refine jan [Zp 0,Zp 1,Zp 3,Zp 8,Zp 10,Zr 2,Zr 4,Zp 5,Zp 6,Zr 7,Zr 9,Zp 11,Zf 12] zK zK (gE _) ?_;exact zx.g):A:=h ⟨b⟩
theorem D52 (b:B) (h:Wr B→A:=by intro zx;refine k_bldZ rfl zq ?_;exact zx.g):A:=h ⟨b⟩
theorem D53 (b:B) (h:Wr B→A:=by intro zx;refine jca (vs:=[.bool (jhp b ((jab b).getD i default)).butt,.int .i64 ((jab b).getD i default).line,.int .i64 (jhp b ((jab b).getD i default)).st]) rfl zq rfl ((hpc▸hcr).eat i zO zO) ?_;exact zx.g):A:=h ⟨b⟩
theorem D54 (b:B) (h:Wr B→A:=by intro zx;refine jca (vs:=[.bool (jhp b ((jab b).getD k default)).butt,.int .i64 ((jab b).getD k default).line,.int .i64 (jhp b ((jab b).getD k default)).st]) rfl zq rfl ((hpc▸hcr).eat k zO zO) ?_;exact zx.g):A:=h ⟨b⟩
theorem D55 (b:B) (h:Wr B→A:=by intro zx;refine jag (Post:=fun v=>v= .tuple [.agg (jaq (jpL b c f)).toArray,.agg (jaq (jqP b c f)).toArray,.int .i64 (jja b c f)].toArray) rfl zq zK (fun H' hH=>f78_c m H' (ra.keeps (sq hH)) c f hf) ?_;exact zx.g):A:=h ⟨b⟩
theorem D56 (b:B) (h:Wr B→A:=by intro zx;refine jag (Post:=fun v=>v=_) rfl zq zK (fun H' hH=>f31_r m H' (ra.keeps (sq hH))) ?_;exact zx.g):A:=h ⟨b⟩
theorem D57 (b:B) (h:Wr B→A:=by intro zx;refine ja1 rfl zq hfp zO zO ?_;exact zx.g):A:=h ⟨b⟩
theorem D58 (b:B) (h:Wr B→A:=by intro zx;refine jer rfl zq (ja7 _).len (by rw [(ja7 _).len];rfl) ?_;exact zx.g):A:=h ⟨b⟩
theorem D59 (b:B) (h:Wr B→A:=by intro zx;refine jaJ (Post:=fun v nz=> ∃q,v= .pointer (some ⟨q,0,none⟩)∧Sheet B nz b q (tbL b ps ns ks pw nw cw pb nb cb)) rfl zq zK (fun H' hH=>f32_r _ H' (ra.keeps (sq hH)) hk) ?_;exact zx.g):A:=h ⟨b⟩
theorem D60 (b:B) (h:Wr B→A:=by intro zx;refine jbC [Zf 0,Zf 1,Zf 2,Zf 3,Zf 4,Zf 5,Zf 6,Zf 7,Zf 8,Zf 9,Zf 10,Zf 11] zK zK ?_;exact zx.g):A:=h ⟨b⟩
theorem D61 (b:B) (h:Wr B→A:=by intro zx;refine jca (vs:=[.int .i64 (lps.getD k default).ln.lat,.slice (lps.getD k default).p (lps.getD k default).ln.figs.length (lps.getD k default).c]) rfl zq rfl (rl.eat k zO zO) ?_;exact zx.g):A:=h ⟨b⟩
theorem D62 (b:B) (h:Wr B→A:=by intro zx;refine jac (h) rfl Tryz.func117 rfl jaa ?_;exact zx.g):A:=h ⟨b⟩
theorem D63 (b:B) (h:Wr B→A:=by intro zx;refine jag (Post:=fun v=>IsB _ v) rfl zq zK (fun H' hH=>f43_c m H' _ _ _) ?_;exact zx.g):A:=h ⟨b⟩
theorem D64 (b:B) (h:Wr B→A:=by intro zx;refine jan [Zp 0,Zp 1,Zp 2,Zp 4,Zp 5,Zp 6,Zp 7,Zr 3,Zr 8,Zp 9] zK zK (gE _) ?_;exact zx.g):A:=h ⟨b⟩
theorem D65 (b:B) (h:Wr B→A:=by intro zx;refine jan [Zp 0,Zp 1,Zp 2,Zp 3,Zp 6,Zr 4,Zp 5,Zr 7,Zp 8,Zp 9] zK zK (gE _) ?_;exact zx.g):A:=h ⟨b⟩
theorem D66 (b:B) (h:Wr B→A:=by intro zx;refine jan [Zp 0,Zp 1,Zp 3,Zp 4,Zr 2,Zr 5,Zk 6,Zp 7,Zp 8,Zf 9] zK zK (gE _) ?_;exact zx.g):A:=h ⟨b⟩
theorem D67 (b:B) (h:Wr B→A:=by intro zx;refine jaJ rfl zq zK (Post:=fun v new=> ∃w,OwnS 3 1 w (lisP s).length (jaq (lisP s)) new∧v= .tuple [w,.bool (jbc s)].toArray) (fun H' hH=>f55p_c m H' s hl) ?_;exact zx.g):A:=h ⟨b⟩
theorem D68 (b:B) (h:Wr B→A:=by intro zx;refine jac (h) rfl Tryz.func89 rfl jaa ?_;exact zx.g):A:=h ⟨b⟩
theorem D69 (b:B) (h:Wr B→A:=by intro zx;refine ja1 rfl zq hrp zO zO ?_;exact zx.g):A:=h ⟨b⟩
theorem D70 (b:B) (h:Wr B→A:=by intro zx;refine jaI rfl zq (hcv.keeps SubH.sub) ?_;exact zx.g):A:=h ⟨b⟩
theorem D71 (b:B) (h:Wr B→A:=by intro zx;refine k_mul rfl zq (by rcases sgn_or s with e|e<;>rw [e]<;>unfold jep<;>omega) ?_;exact zx.g):A:=h ⟨b⟩
theorem D72 (b:B) (h:Wr B→A:=by intro zx;refine jan [Zp 0,Zp 1,Zp 2,Zp 4,Zp 5,Zp 6,Zr 3,Zr 7,Zp 8] zK zK (gE _) ?_;exact zx.g):A:=h ⟨b⟩
theorem D73 (b:B) (h:Wr B→A:=by intro zx;refine jaI (v:= .slice ((lw++lb).getD k default).p ((lw++lb).getD k default).ln.figs.length ((lw++lb).getD k default).c) rfl zq (r64.fat k 1 zO zO rfl) ?_;exact zx.g):A:=h ⟨b⟩
theorem D74 (b:B) (h:Wr B→A:=by intro zx;refine jae Tryz.func86 rfl rfl (l:=(.pointer (some ⟨q,0,none⟩))::(.int .i64 (i:Int))::(.int .i64 (k:Int))::(.int .i64 mi)::(.int .i64 mk)::uu119) rfl ?_;exact zx.g):A:=h ⟨b⟩
theorem D75 (b:B) (h:Wr B→A:=by intro zx;refine jaI rfl rfl (jaC (a) zO zO) ?_;exact zx.g):A:=h ⟨b⟩
theorem D76 (b:B) (h:Wr B→A:=by intro zx;refine jaJ rfl zq zK (Post:=fun v nw=> ∃ps pw pb,v=tbV exT ps 2 2 pw 2 2 pb 1 1∧RawTb B nw exT ps 2 2 pw 2 2 pb 1 1) (fun H' hH=>f20_c _ H') ?_;exact zx.g):A:=h ⟨b⟩
theorem D77 (b:B) (h:Wr B→A:=by intro zx;refine jaI rfl zq (jaC (a) zO zO) ?_;exact zx.g):A:=h ⟨b⟩
theorem D78 (b:B) (h:Wr B→A:=by intro zx;refine DrawT.leaf [Zp 1,Zp 2,Zr 0,Zk 3,Zk 4,Zp 5,Zp 6,Zp 7,Za 8,Zf 9,Zp 10] zK ?_;exact zx.g):A:=h ⟨b⟩
theorem D79 (b:B) (h:Wr B→A:=by intro zx;refine DrawT.leaf [Zp 1,Zp 2,Zr 0,Zk 3,Za 8,Zk 4,Zp 5,Zp 6,Zp 7,Zf 9,Zp 10] zK ?_;exact zx.g):A:=h ⟨b⟩
theorem D80 (b:B) (h:Wr B→A:=by intro zx;refine DrawT.leaf [Zp 1,Zp 2,Zr 0,Za 8,Zk 3,Zk 4,Zp 5,Zp 6,Zp 7,Zf 9,Zp 10] zK ?_;exact zx.g):A:=h ⟨b⟩
theorem D81 (b:B) (h:Wr B→A:=by intro zx;refine jaI rfl zq ((sh.latI (i:=i) zO).keeps SubH.sub) ?_;exact zx.g):A:=h ⟨b⟩
theorem D82 (b:B) (h:Wr B→A:=by intro zx;refine jac (h) rfl Tryz.func40 rfl jaa ?_;exact zx.g):A:=h ⟨b⟩
theorem D83 (b:B) (h:Wr B→A:=by intro zx;refine ja1 rfl zq hzp zO zO ?_;exact zx.g):A:=h ⟨b⟩
theorem D84 (b:B) (h:Wr B→A:=by intro zx;refine jag (Post:=fun v=>v= .int .u64 ((jcA x|||2^x.length:Nat):Int)) rfl zq zK (fun H' hH=>f34_c m H' (jcA x) x.length hbs hx12) ?_;exact zx.g):A:=h ⟨b⟩
theorem D85 (b:B) (h:Wr B→A:=by intro zx;refine jaJ rfl zq zK (Post:=fun v nz=>OwnS 9 1 v x.ln.figs.length (jay x.ln.figs) nz) (fun H' hH=>f113_c m H' (rdf.keeps (sq hH)) zO) ?_;exact zx.g):A:=h ⟨b⟩
theorem D86 (b:B) (h:Wr B→A:=by intro zx;refine jre rfl rfl k zO zO ?_;exact zx.g):A:=h ⟨b⟩
theorem D87 (b:B) (h:Wr B→A:=by intro zx;refine jcT rfl Tryz.func98 (jcQ rfl) ?_;exact zx.g):A:=h ⟨b⟩
theorem D88 (b:B) (h:Wr B→A:=by intro zx;refine jca (vs:=boL ((jah b).getD j [])) rfl zq (jaL _) (rdB'.eat j zO zO) ?_;exact zx.g):A:=h ⟨b⟩
theorem D89 (b:B) (h:Wr B→A:=by intro zx;refine DrawT.leaf [Zr 0,Zr 1,Zk 2,Zk 3,Zp 4,Zp 5,Zp 6,Za 7,Zf 8,Zp 9] zK ?_;exact zx.g):A:=h ⟨b⟩
theorem D90 (b:B) (h:Wr B→A:=by intro zx;refine DrawT.leaf [Zr 0,Zr 1,Zk 2,Za 7,Zk 3,Zp 4,Zp 5,Zp 6,Zf 8,Zp 9] zK ?_;exact zx.g):A:=h ⟨b⟩
theorem D91 (b:B) (h:Wr B→A:=by intro zx;refine DrawT.leaf [Zr 0,Zr 1,Za 7,Zk 2,Zk 3,Zp 4,Zp 5,Zp 6,Zf 8,Zp 9] zK ?_;exact zx.g):A:=h ⟨b⟩
theorem D92 (b:B) (h:Wr B→A:=by intro zx;refine i_pickT rfl zq ?_;exact zx.g):A:=h ⟨b⟩
theorem D93 (b:B) (h:Wr B→A:=by intro zx;refine jaI rfl zq (jaC (j-1) zO zO) ?_;exact zx.g):A:=h ⟨b⟩
theorem D94 (b:B) (h:Wr B→A:=by intro zx;refine jfi (Post:=fun v=>v= .pointer (some ⟨q1,2+i,none⟩)) rfl zq (jiG i zO) (fun H' hH=>jrt m H' q1 i zO) ?_;exact zx.g):A:=h ⟨b⟩
theorem D95 (b:B) (h:Wr B→A:=by intro zx;refine jcq (v:= .bool false) rfl rfl zA (jlK zA) ?_;exact zx.g):A:=h ⟨b⟩
theorem D96 (b:B) (h:Wr B→A:=by intro zx;refine jag (Post:=fun v=>v= .int .u64 ((2^(jab b).length-1:Nat):Int)) rfl zq zK (fun H' hH=>f72_c _ H' _ h12) ?_;exact zx.g):A:=h ⟨b⟩
theorem D97 (b:B) (h:Wr B→A:=by intro zx;refine k_notT rfl rfl ?_;exact zx.g):A:=h ⟨b⟩
theorem D98 (b:B) (h:Wr B→A:=by intro zx;refine jac (h) rfl Tryz.func87 rfl jaa ?_;exact zx.g):A:=h ⟨b⟩
theorem D99 (b:B) (h:Wr B→A:=by intro zx;refine ja1 rfl zq hpc zO zO ?_;exact zx.g):A:=h ⟨b⟩
theorem D100 (b:B) (h:Wr B→A:=by intro zx;refine k_sub rfl rfl (by unfold jep;omega) ?_;exact zx.g):A:=h ⟨b⟩
theorem D101 (b:B) (h:Wr B→A:=by intro zx;refine jac (h) rfl Tryz.func4 rfl jaa ?_;exact zx.g):A:=h ⟨b⟩
theorem D102 (b:B) (h:Wr B→A:=by intro zx;refine jmT w 4 rfl zq rfl rfl zO zO ?_;exact zx.g):A:=h ⟨b⟩
theorem D103 (b:B) (h:Wr B→A:=by intro zx;refine jag (Post:=fun v=>v=_) rfl zq zK (fun H' hH=>f167_c m H' _) ?_;exact zx.g):A:=h ⟨b⟩
theorem D104 (b:B) (h:Wr B→A:=by intro zx;refine jeO Tryz.func145 rfl rfl (l:=(.pointer (some ⟨C.wg,0,none⟩))::uu6) rfl ?_;exact zx.g):A:=h ⟨b⟩
theorem D105 (b:B) (h:Wr B→A:=by intro zx;refine jaI rfl zq (rdg.sat k zO zO) ?_;exact zx.g):A:=h ⟨b⟩
theorem D106 (b:B) (h:Wr B→A:=by intro zx;refine jcq (v:= .bool false) rfl zq zA (jnS (decide_eq_false zO)) ?_;exact zx.g):A:=h ⟨b⟩
theorem D107 (b:B) (h:Wr B→A:=by intro zx;refine jcq (v:= .bool true) rfl zq zA (jlK (decide_eq_true zO)) ?_;exact zx.g):A:=h ⟨b⟩
theorem D108 (b:B) (h:Wr B→A:=by intro zx;refine jan [Zr 0,Zr 1,Zr 3,Zk 2,Zp 4] zK zK (gE _) ?_;exact zx.g):A:=h ⟨b⟩
theorem D109 (b:B) (h:Wr B→A:=by intro zx;refine i_cal rfl zq zK ?_;exact zx.g):A:=h ⟨b⟩
theorem D110 (b:B) (h:Wr B→A:=by intro zx;refine (Md.starC Tryz.prog B).weak (h':=ro h) (by simpa using jpJ (B:=B) h []) ?_;exact zx.g):A:=h ⟨b⟩
theorem D111 (b:B) (h:Wr B→A:=by intro zx;refine jaI rfl zq (jaC (f+root) zO zO) ?_;exact zx.g):A:=h ⟨b⟩
theorem D112 (b:B) (h:Wr B→A:=by intro zx;refine jaI rfl zq (jaC (f+ch) zO zO) ?_;exact zx.g):A:=h ⟨b⟩
theorem D113 (b:B) (h:Wr B→A:=by intro zx;refine ja1 rfl rfl rfl zO zO ?_;exact zx.g):A:=h ⟨b⟩
theorem D114 (b:B) (h:Wr B→A:=by intro zx;refine jac (h) rfl Tryz.func82 rfl jaa ?_;exact zx.g):A:=h ⟨b⟩
theorem D115 (b:B) (h:Wr B→A:=by intro zx;refine jaI (v:= .int .i64 (lps.getD (i-1) default).ln.lat) rfl rfl (rl.fat (i-1) 0 zO zO rfl) ?_;exact zx.g):A:=h ⟨b⟩
theorem D116 (b:B) (h:Wr B→A:=by intro zx;refine jhj (c:=s.getD i 0) rfl rfl jke zO (jl0 zO) ?_;exact zx.g):A:=h ⟨b⟩
theorem D117 (b:B) (h:Wr B→A:=by intro zx;refine jaI rfl zq (rd2.iat k zO zO) ?_;exact zx.g):A:=h ⟨b⟩
theorem D118 (b:B) (h:Wr B→A:=by intro zx;refine jcT rfl Tryz.func145 (jbL rfl) ?_;exact zx.g):A:=h ⟨b⟩
theorem D119 (b:B) (h:Wr B→A:=by intro zx;refine jcq (v:= .bool true) rfl zq zA (jqH zA) ?_;exact zx.g):A:=h ⟨b⟩
theorem D120 (b:B) (h:Wr B→A:=by intro zx;refine jlQ (b:=j) rfl zq hw.okp rfl zO ?_;exact zx.g):A:=h ⟨b⟩
theorem D121 (b:B) (h:Wr B→A:=by intro zx;refine jpG rfl zq ⟨rfl,.inl rfl⟩ uptrW.1 uptrW.2.1 uptrW.2.2 ?_;exact zx.g):A:=h ⟨b⟩
theorem D122 (b:B) (h:Wr B→A:=by intro zx;refine jac (h++[jbl bk ys junk]) rfl Tryz.func162 rfl jaa ?_;exact zx.g):A:=h ⟨b⟩
theorem D123 (b:B) (h:Wr B→A:=by intro zx;refine jac (h++[jbl bk ys junk]) rfl Tryz.func130 rfl jaa ?_;exact zx.g):A:=h ⟨b⟩
theorem D124 (b:B) (h:Wr B→A:=by intro zx;refine jid [Zf 0] [1] zK zK ?_;exact zx.g):A:=h ⟨b⟩
theorem D125 (b:B) (h:Wr B→A:=by intro zx;refine jaI rfl zq (rx.keeps SubH.sub) ?_;exact zx.g):A:=h ⟨b⟩
theorem D126 (b:B) (h:Wr B→A:=by intro zx;refine jac (h) rfl Tryz.func106 rfl jaa ?_;exact zx.g):A:=h ⟨b⟩
theorem D127 (b:B) (h:Wr B→A:=by intro zx;refine jgc (a:=j) rfl zq rfl zO ?_;exact zx.g):A:=h ⟨b⟩
theorem D128 (b:B) (h:Wr B→A:=by intro zx;refine jac (h) rfl Tryz.func154 rfl jaa ?_;exact zx.g):A:=h ⟨b⟩
theorem D129 (b:B) (h:Wr B→A:=by intro zx;refine ja1 rfl zq hyp zO zO ?_;exact zx.g):A:=h ⟨b⟩
theorem D130 (b:B) (h:Wr B→A:=by intro zx;refine jac (h) rfl Tryz.func78 rfl jaa ?_;exact zx.g):A:=h ⟨b⟩
theorem jpE (b:B) (h:Wr B→A:=by intro zx;refine Z2 ?_;refine D0 ?_;exact zx.g):A:=h ⟨b⟩
theorem ji9 (b:B) (h:Wr B→A:=by intro zx;refine D14 ?_;refine Zs ?_;exact zx.g):A:=h ⟨b⟩
theorem D133 (b:B) (h:Wr B→A:=by intro zx;refine D20 ?_;refine Z3 ?_;exact zx.g):A:=h ⟨b⟩
theorem jjr (b:B) (h:Wr B→A:=by intro zx;refine D7 ?_;refine Z3 ?_;exact zx.g):A:=h ⟨b⟩
theorem D135 (b:B) (h:Wr B→A:=by intro zx;refine Zs ?_;refine k_notF rfl rfl ?_;exact zx.g):A:=h ⟨b⟩
theorem D136 (b:B) (h:Wr B→A:=by intro zx;refine k_subW (z:=(ru:Int)-48) rfl zq zL ?_;refine jdd (n':=(ru:Int)-48) rfl zq zK (jdK (by unfold jep;omega)) ?_;exact zx.g):A:=h ⟨b⟩
theorem D137 (b:B) (h:Wr B→A:=by intro zx;refine jaI rfl rfl (hw.iat j zO zO) ?_;refine jaI rfl rfl (rd.iat k zO zO) ?_;exact zx.g):A:=h ⟨b⟩
theorem jmv (b:B) (h:Wr B→A:=by intro zx;refine D23 ?_;refine Zs ?_;exact zx.g):A:=h ⟨b⟩
theorem jow (b:B) (h:Wr B→A:=by intro zx;refine D0 ?_;refine jpE ?_;exact zx.g):A:=h ⟨b⟩
theorem D140 (b:B) (h:Wr B→A:=by intro zx;refine D52 ?_;refine D18 ?_;exact zx.g):A:=h ⟨b⟩
theorem jov (b:B) (h:Wr B→A:=by intro zx;refine D140 ?_;refine Z3 ?_;exact zx.g):A:=h ⟨b⟩
theorem jmu (b:B) (h:Wr B→A:=by intro zx;refine D9 ?_;refine D0 ?_;exact zx.g):A:=h ⟨b⟩
theorem D143 (b:B) (h:Wr B→A:=by intro zx;refine jgS (v:= .int .u64 (v:Int)) rfl zq (.inr rfl) (jnR zA (jc1 v 0 hv70 zO).hi) ?_;refine jeP rfl zq zK (jc1 v 0 hv70 zO).hi32 ?_;exact zx.g):A:=h ⟨b⟩
theorem D144 (b:B) (h:Wr B→A:=by intro zx;refine jre rfl zq k zO zN ?_;refine jaI rfl zq (most_atI k zO) ?_;exact zx.g):A:=h ⟨b⟩
theorem jou (b:B) (h:Wr B→A:=by intro zx;refine D31 ?_;refine Zs ?_;exact zx.g):A:=h ⟨b⟩
theorem D146 (b:B) (h:Wr B→A:=by intro zx;refine jcq (v:= .int .u64 0) rfl zq zA (jfh ((jc1 v 0 hv70 zO).lo)) ?_;refine jeP rfl zq zK (jc1 v 0 hv70 zO).lo32 ?_;exact zx.g):A:=h ⟨b⟩
theorem D147 (b:B) (h:Wr B→A:=by intro zx;refine jer rfl zq (jez b c f).len (by rw [(jez b c f).len];rfl) ?_;refine jer rfl zq (jeK b c f).len (by rw [(jeK b c f).len];rfl) ?_;exact zx.g):A:=h ⟨b⟩
theorem D148 (b:B) (h:Wr B→A:=by intro zx;refine D133 ?_;refine D133 ?_;exact zx.g):A:=h ⟨b⟩
theorem jpD (b:B) (h:Wr B→A:=by intro zx;refine Zs ?_;refine D97 ?_;exact zx.g):A:=h ⟨b⟩
end
end Go.Lo
namespace Go.Lo
theorem E0 (h:A:=by first|exact ⟨rfl,IsB.yes zO⟩|exact ⟨rfl,IsB.no zO⟩):A:=h
theorem E1 (h:A:=by first|exact ⟨rfl,IsB.yes (by rw [he,gS zO,jcz ys k zO];rfl)⟩|exact ⟨rfl,IsB.no (by rw [he,show ys.drop k=[] from gS zO];cases xs.drop k<;>simp [jbi])⟩):A:=h
theorem E2 (h:A:=by exact ⟨rfl,IsB.no (by rw [he,show ys.drop k=[] from gS zO];cases xs.drop k<;>simp [jbi])⟩):A:=h
theorem E3 (h:A:=by first|exact ⟨rfl,IsB.yes (.inl zO)⟩|exact ⟨rfl,IsB.yes (.inr ⟨by omega,by assumption⟩)⟩|exact ⟨rfl,IsB.no (by rintro (h1|⟨h1,h2⟩)<;>first|omega|contradiction)⟩):A:=h
theorem E4 (h:A:=by exact ⟨rfl,IsB.yes (.inr ⟨by omega,by assumption⟩)⟩):A:=h
theorem E5 (h:A:=by exact ⟨rfl,IsB.no (by rintro (h1|⟨h1,h2⟩)<;>first|omega|contradiction)⟩):A:=h
theorem E6 (h:A:=by exact m.weak jaa (hnext1 _ _ _ zO ⟨k+1,_,ys.take j++xs.getD k 0::ys.drop j,p7,c7,rfl,by omega,o7,by first|(exfalso;omega)|exact ha.ins zO hlt (fun _=>by omega),fun z=>by rw [jkH,jbX zO,hm],by rw [←hyn];omega,exU rfl,rfl⟩)):A:=h
theorem E7 (h:A:=by exact m.weak jaa (hnext1 _ _ _ zO ⟨k+1,_,ys.take j++xs.getD k 0::ys.drop j,p7,c7,rfl,by omega,o7,by first|(exfalso;omega)|exact ha.ins zO hlt (fun hlt2=>by have:=hlt2;omega),fun z=>by rw [jkH,jbX zO,hm],by rw [←hyn];omega,exU rfl,rfl⟩)):A:=h
theorem E8 (h:A:=by exact m.weak jaa (hnext1 _ _ _ zO ⟨i+1,zs,rfl,by omega,by omega,hzw,hin.stop zO zO zO,exU rfl,rfl⟩)):A:=h
theorem E9 (h:A:=by first|exact ⟨rfl,by rw [if_pos zO]⟩|exact ⟨rfl,by rw [if_neg zO,if_pos zO]⟩|exact ⟨rfl,by rw [if_neg zO,if_neg zO]⟩):A:=h
theorem E10 (h:A:=by exact ⟨rfl,by rw [if_neg zO,if_pos zO]⟩):A:=h
theorem E11 (h:A:=by exact ⟨rfl,by rw [if_neg zO,if_neg zO]⟩):A:=h
theorem E12 (h:A:=by exact ⟨rfl,ys,rfl,hsw,hre.stop fun c h1 h2=>by omega⟩):A:=h
theorem E13 (h:A:=by exact ⟨rfl,ys,rfl,hsw,hre.stop fun c h1 h2=>by have:=hmax c h1 h2;omega⟩):A:=h
theorem E14 (h:A:=by exact m.weak jaa (hnext _ _ _ zO ⟨ch,jbj ys (f+root) (f+ch),rfl,by omega,by omega,.step (f+root) (f+ch) ⟨by omega,by omega⟩ ⟨by omega,by omega⟩ hsw,hre.step hr1 hch zO zO hmax zD,exU rfl,rfl⟩)):A:=h
theorem E15 (h:A:=by first|exact ⟨true,exU rfl,rfl,⟨fun _=>by omega,fun _=>rfl⟩⟩|exact ⟨false,exU rfl,rfl,⟨fun e=>(by cases e),fun e=>zO⟩⟩):A:=h
theorem E16 (h:A:=by exact ⟨false,exU rfl,rfl,⟨fun e=>(by cases e),fun e=>zO⟩⟩):A:=h
theorem E17 (h:A:=by first|exact ⟨true,ys,rfl,rfl,hsw,fun _=>by rw [show b=i1 by omega];exact hso2⟩|exact ⟨false,ys,rfl,rfl,hsw,fun e=>by cases e⟩):A:=h
theorem E18 (h:A:=by exact ⟨false,ys,rfl,rfl,hsw,fun e=>by cases e⟩):A:=h
theorem E19 (h:A:=by exact ⟨zs,hzw,by have:=hin.stop zO zO zO;rwa [show i1-1+1=i1 by omega] at this,exU rfl,rfl⟩):A:=h
theorem E20 (h:A:=by exact ⟨y1,hswy,fun p q h1 h2 h3=>by omega,exU rfl,rfl⟩):A:=h
theorem E21 (h:A:=by exact ⟨i1,_,by omega,by omega,by first|exact hvw|exact hsw4,by first|exact hvo|exact hso4,exU rfl,rfl⟩):A:=h
theorem E22 (h:A:=by exact ⟨_,_,_,by omega,by omega,by first|exact hs1.trans hrw|exact hs1,exU rfl,rfl⟩):A:=h
theorem E23 (h:A:=by exact ⟨_,by first|exact hs2.trans hiw|exact hs2,exU rfl,rfl⟩):A:=h
theorem E24 (h:A:=by exact m.weak jaa (hnext _ _ _ zO ⟨p+1,k,n+1,v.set k (10*v.getD k 0+((ru:Int)-48)),rfl,by rw [←hrd,hdr,hru];exact (jkx zO (by rw [←hru];omega)).symm,by simpa using hv3,hk2,by omega,by omega,jh9 (by rw [jbz zO] at hc;omega) hvb,fun j hj=>by rw [set_other zO];exact hvz j zO,exU rfl,rfl⟩)):A:=h
theorem E25 (h:A:=by exact m.weak jaa (hnext _ _ _ zO ⟨k+1,rfl,by omega,exU rfl,rfl⟩)):A:=h
theorem E26 (h:A:=by exact m.weak jaa (hnext _ _ _ zO ⟨k+1,wp,wc,M,rfl,by omega,by rw [hks];exact how,exU rfl,rfl⟩)):A:=h
theorem E27 (h:A:=by exact m.weak jaa (hnext _ _ _ zO ⟨k+1,p9,c9,n9,rfl,by omega,by rw [hkl,hks,jaZ];exact o9,exU rfl,rfl⟩)):A:=h
theorem E28 (h:A:=by exact ⟨rfl,_,rfl,by unfold jep;omega,⟨fun _=>hse▸jal (l:=ss) zO,fun _=>by omega⟩⟩):A:=h
theorem E29 (h:A:=by first|exact (jc5 zD).symm|exact (jc4 zD zD).symm):A:=h
theorem E30 (h:A:=by exact (jb1 zO ⟨_,by rw [jaQ zO,ja9 _ _ zO],by omega⟩).symm):A:=h
theorem E31 (h:A:=by exact (jb3 zO hnu zO).symm):A:=h
theorem E32 (h:A:=by exact (jb2 zO hnu zO fun e=>by have:=e _ (jal (l:=x.ln.figs) (i:=k) zO);rw [show x.ln.figs.getD k default=x.ln.figs.getD k [] from rfl,jbw,hfo,decide_eq_false (show¬x.ln.figs.getD k []=jjn from hda)] at this;cases this).symm):A:=h
theorem E33 (h:A:=by exact m.weak jaa (hnext1 _ _ _ zO ⟨i+1,rfl,by omega,by rw [hlm,hdr,jhI zO hnu zO hall,jaQ zO,Nat.add_sub_cancel,ja9 _ _ zO,←hx],exU rfl,rfl⟩)):A:=h
theorem E34 (h:A:=by exact ⟨rfl,IsB.no fun e=>by have:=e.1;omega⟩):A:=h
theorem E35 (h:A:=by exact ⟨rfl,IsB.no fun e=>by have:=e.2 i zO;rw [←hcc] at this;unfold jiX at this;omega⟩):A:=h
theorem E36 (h:A:=by exact ⟨rfl,IsB.no fun e=>by have:=e.2 0 zO;unfold jiX at this;omega⟩):A:=h
theorem E37 (h:A:=by exact ⟨rfl,IsB.yes ⟨by omega,fun j hj=>hch j zO⟩⟩):A:=h
theorem E38 (h:A:=by exact m.weak jaa (hnext _ _ _ zO ⟨i+1,rfl,by omega,exU rfl,rfl⟩)):A:=h
theorem E39 (h:A:=by exact m.weak jaa (hnext _ _ _ zO ⟨i+1,p9,c9,n9,i+1,rfl,by omega,hk2.symm,by rw [hkl,hks,jj0,←hf];exact o9,exU rfl,rfl⟩)):A:=h
theorem E40 (h:A:=by exact ja3 fun e=>e.2.1 ⟨(ja4 (n:=48) zA).1 zD,hz⟩):A:=h
theorem E41 (h:A:=by exact ja3 fun e=>absurd (e.2.2 i zO) zD):A:=h
theorem E42 (h:A:=by exact absurd ((ja4 (n:=48) zA).2 e.1) zD):A:=h
theorem E43 (h:A:=by exact ⟨rfl,_,IsB.yes (.inl hq),by rw [jcp,if_pos hq]⟩):A:=h
theorem E44 (h:A:=by exact ⟨rfl,_,IsB.no (by rintro (e|e);exact hq e;exact of_decide_eq_false hno e.1),by rw [jcp,if_neg hq]⟩):A:=h
theorem E45 (h:A:=by exact ⟨rfl,_,IsB.yes (.inr ⟨of_decide_eq_true hno,by assumption⟩),by rw [jcp,if_neg hq]⟩):A:=h
theorem E46 (h:A:=by exact ⟨rfl,_,IsB.no (by rintro (e|e);exact hq e;exact absurd e.2 zD),by rw [jcp,if_neg hq]⟩):A:=h
theorem E47 (h:A:=by exact ⟨⟨fun x=>by simp at x,fun x=>absurd x this⟩,fun x=>absurd x this⟩):A:=h
theorem E48 (h:A:=by exact ⟨rfl,IsB.no fun e=>by rcases (jd0 s).1 e with e|e;rw [hfo] at e;cases e;exact hda e⟩):A:=h
theorem E49 (h:A:=by exact (jb2 zO hnu zO fun e=>absurd (e _ (jal (l:=x.ln.figs) (i:=k) zO)) zD).symm):A:=h
theorem E50 (h:A:=by exact (jaT (jc8 zO) zA).symm):A:=h
theorem E51 (h:A:=by exact (jaT (jc7 zO zO) zA).symm):A:=h
theorem E52 (h:A:=by exact (jfq hh0 zO zD).symm):A:=h
theorem E53 (h:A:=by exact m.weak jaa (hnext3 _ _ _ zO ⟨k+1,wpk,wck,Mk,rfl,by omega,by rw [hks];exact howk,exU rfl,rfl⟩)):A:=h
theorem E54 (h:A:=by exact (decide_eq_true (gw fun e=>by rw [this.2 zO] at hr;cases hr)).symm):A:=h
theorem E55 (h:A:=by first|exact congrArg Value.bool (decide_eq_true zO).symm|exact congrArg Value.bool (decide_eq_false zO).symm):A:=h
theorem E56 (h:A:=by exact congrArg Value.bool (decide_eq_false zO).symm):A:=h
theorem E57 (h:A:=by exact ⟨rfl,congrArg Value.bool fall_turn.symm⟩):A:=h
theorem E58 (h:A:=by exact ⟨_,rfl,.inl ⟨rfl,by rw [hgp,if_pos (by first|exact .inl zO|exact .inr (by simpa using hc)),gd];exact hRp⟩⟩):A:=h
theorem E59 (h:A:=by first|exact .inl zO|exact .inr (by simpa using hc)):A:=h
theorem E60 (h:A:=by first|exact jaj.1 zO zO|exact jaj.2.1 zO zO|exact jaj.2.2.1 zO zO|exact jaj.2.2.2 zO zO):A:=h
theorem E61 (h:A:=by exact m.weak jaa (hnext1 _ _ _ zO ⟨i+1,fd,rfl,by omega,by rw [hst];exact hfd,exU rfl,rfl⟩)):A:=h
theorem E62 (h:A:=by exact hnext2 _ _ _ zO ⟨k+1,lps.set k ⟨x.ln,p44,c44⟩,_,FM++n44,rfl,by omega,by simpa using hlen,by rw [jhi (by rw [hxk])];exact hmap,fun j hj=>by rw [jl1 zO];exact hsame j zO,OwnS.blk (junk:=junk) (by rw [jbx];simp [hlen]) (by have:=hwc;rw [jbx] at this⊢;simpa using this) hwn,by rw [jlh zO];exact .snoc hof o44,exU rfl,rfl⟩):A:=h
theorem E63 (h:A:=by exact OwnS.blk (junk:=junkf) (by rw [jaW]) (by have:=hfc;rw [jaW] at this⊢;simpa using this) (by simpa using hfn)):A:=h
theorem E64 (h:A:=by exact hnext1 _ _ _ zO ⟨2,wp,wc,_,_,M0,_,rfl,by omega,fun e=>by omega,fun e=>by omega,fun _=>hh0,fun _=>hHalf,exU rfl,rfl⟩):A:=h
theorem E65 (h:A:=by exact hnext1 _ _ _ zO ⟨1,_,_,pb,cb,_,[],rfl,by omega,fun e=>by omega,fun _=>⟨rfl,rfl,rfl⟩,fun _=>hHalf,fun e=>by omega,exU rfl,(by rw [gd])⟩):A:=h
theorem E66 (h:A:=by exact ⟨n37,rfl,x0,y1,z1,w1,y2,z2,w2,y3,z3,w3,by rw [e0],fun e=>ha1 (by rwa [e0] at e),fun e=>⟨_,_,_,_,_,_,_,_,_,ha2 (by rwa [e0] at e),ra2⟩⟩):A:=h
theorem E67 (h:A:=by exact IsB.yes (.inr ⟨by omega,(jch zO).1 zO⟩)):A:=h
theorem E68 (h:A:=by exact IsB.no fun e=>e.elim (fun e=>by omega) (fun e=>by have:=(jch (xs:=xs) (ys:=ys) zO).2 e.2;omega)):A:=h
theorem E69 (h:A:=by exact IsB.no fun e=>e.elim (fun e=>by omega) (fun e=>by omega)):A:=h
theorem E70 (h:A:=by exact ⟨rfl,IsB.yes (.inl zO)⟩):A:=h
theorem E71 (h:A:=by exact ⟨rfl,IsB.yes (.inr (.inl zO))⟩):A:=h
theorem E72 (h:A:=by exact ⟨rfl,IsB.yes (.inr (.inr (.inl zO)))⟩):A:=h
theorem E73 (h:A:=by exact ⟨rfl,IsB.yes (.inr (.inr (.inr (.inl ⟨j,by omega,by omega⟩))))⟩):A:=h
theorem E74 (h:A:=by exact ⟨rfl,IsB.yes (.inr (.inr (.inr (.inr (.inl hgw)))))⟩):A:=h
theorem E75 (h:A:=by exact ⟨rfl,IsB.yes (.inr (.inr (.inr (.inr (.inr hgb)))))⟩):A:=h
theorem E76 (h:A:=by first|exact (jax.2 zO).symm|exact (gz.2 fun e=>by have:=jax.1 e;omega).symm):A:=h
theorem E77 (h:A:=by exact (gz.2 fun e=>by have:=jax.1 e;omega).symm):A:=h
theorem E78 (h:A:=by first|exact (jaw.2 zO).symm|exact (gz.2 fun e=>by have:=jaw.1 e;omega).symm):A:=h
theorem E79 (h:A:=by exact (gz.2 fun e=>by have:=jaw.1 e;omega).symm):A:=h
theorem E80 (h:A:=by exact ⟨rfl,congrArg Value.bool (jcj zD hbt hab)⟩):A:=h
theorem E81 (h:A:=by exact m.weak jaa (hnext2 _ _ _ zO ⟨i+1,true,rfl,by omega,by rw [jdW,←hq,hni];rfl,exU rfl,rfl⟩)):A:=h
end Go.Lo
namespace Go.Proofs
open Go.Lo
open Go.Conc (G)
section
theorem f43_c (m:Md Tryz.prog B) (h:Hp) (x lo hi:Int):FnC m 43 #[.int .i64 x,.int .i64 lo,.int .i64 hi] h fun v h'=>h'=h∧IsB (lo≤x∧x≤hi) v:=by
 refine jae Tryz.func43 rfl rfl (l:=(.int .i64 x)::(.int .i64 lo)::(.int .i64 hi)::uu12) rfl ?_
 intro cf cs K hK
 refine Z8 ?_
 refine jbK rfl zq (fun hc=>?_) (fun hc=>?_)
 ·refine Z3 ?_
  refine jbK rfl rfl (fun hc=>?_) (fun hc=>?_);all_goals
   refine Z4 ?_;refine jac (h) rfl Tryz.func43 rfl jaa ?_;refine Zs ?_
   exact E0
 ·refine Z8 ?_;refine jac (h) rfl Tryz.func43 rfl jaa ?_;refine Zs ?_
  exact E0
theorem jcz (xs:List Int) (k:Nat) (h:k<xs.length):xs.drop k=xs.getD k 0::xs.drop (k+1):=by
 rw [vR h,gC,gD h];rfl
theorem ext_getD (hl:xs.length=ys.length) (he: ∀i,i<xs.length→xs.getD i 0=ys.getD i 0):xs=ys:=by
 apply vE hl
 intro i h1 h2
 have:=he i h1
 rw [gC,gD h1,gC,gD h2] at this
 exact this
theorem jcx {x:Int}:x∈xs↔ ∃i,i<xs.length∧xs.getD i 0=x:=by
 rw [GE];constructor
 ·rintro ⟨i,h,e⟩;exact ⟨i,h,by rw [gC,gD h];exact e⟩
 ·rintro ⟨i,h,e⟩;exact ⟨i,h,by rw [gC,gD h] at e;exact e⟩
def jbi:List Int→List Int→Bool
 |a::r,b::s=>if a=b then jbi r s else decide (a<b)
 |[],_::_=>true
 |_,[]=>false
def jdf (xs ys:List Int):Prop:=xs.length<ys.length∨(xs.length=ys.length∧jbi xs ys=true)
def jbk (n:Nat):List Int:=(List.range n).map fun i:Nat=>(i:Int)
theorem jfD (n:Nat):jbk (n+1)=jbk n++[(n:Int)]:=by simp [jbk,GT]
theorem f12_c (m:Md Tryz.prog B) (h:Hp) {c c2:Nat} (rd:RdS B h 1 (.slice p n c) n (jaq xs)) (hn:n≤1000000) (rd2:RdS B h 1 (.slice p2 n2 c2) n2 (jaq ys)):FnC m 12 #[.slice p n c,.slice p2 n2 c2] h fun v h'=>h'=h∧IsB (xs=ys) v:=by
 have hl:=rd.ilen
 have hl2:=rd2.ilen
 refine jae Tryz.func12 rfl rfl (l:=(.slice p n c)::(.slice p2 n2 c2)::uu24) rfl ?_
 intro cf cs K hK
 refine Z11 ?_
 refine jaP rfl zq (fun hc=>?_) (fun hc=>?_)
 ·refine Z7 ?_;refine jac (h) rfl Tryz.func12 rfl jaa ?_;refine Zs ?_
  exact ⟨rfl,IsB.no fun e=>by subst e;omega⟩
 ·refine Z9 ?_
  refine jaf (fun nn l h'=> ∃(k:Nat),nn=n-k∧(k≤n)∧(∀i,i<k→xs.getD i 0=ys.getD i 0)∧(∃U:Nat→Value,l=((.slice p n c)::(.slice p2 n2 c2)::(U 2)::(U 3)::(U 4)::(.int .i64 (k:Int))::vw20 U 6 []))∧h=h') _ ⟨0,rfl,by omega,by omega,exU rfl,rfl⟩ ?_;rintro nn l h' ⟨k,rfl,hk,he,⟨U,rfl⟩,rfl⟩ hnext;refine Z6 ?_
  refine jak rfl zq (fun hc=>?_) (fun hc=>?_)
  ·refine Z6 ?_;refine D72 ?_;refine Z2 ?_
   obtain ⟨rd_b,rd_o,rfl⟩:=rd.ptr zO
   refine D0 ?_;refine Z2 ?_
   obtain ⟨rd2_b,rd2_o,rfl⟩:=rd2.ptr zO
   refine D0 ?_;refine D42 ?_;refine D117 ?_
   refine jaP rfl zq (fun hc=>?_) (fun hc=>?_)
   ·refine Z7 ?_;refine jac (h) rfl Tryz.func12 rfl jaa ?_;refine Zs ?_
    exact ⟨rfl,IsB.no fun e=>by subst e;contradiction⟩
   ·refine Z9 ?_
    exact m.weak jaa (hnext _ _ _ zO ⟨k+1,rfl,by omega,fun i hi=>by
     rcases Gf i k with h1|h1
     ·exact he i h1
     ·obtain rfl:i=k:=by omega
      assumption,exU rfl,rfl⟩)
  ·refine Z8 ?_;refine jac (h) rfl Tryz.func12 rfl jaa ?_;refine Zs ?_
   exact ⟨rfl,IsB.yes (ext_getD zO fun i hi=>he i zO)⟩
theorem f44_c (m:Md Tryz.prog B) (h:Hp) {c:Nat} (x:Int) (rd:RdS B h 1 (.slice p n c) n (jaq xs)) (hn:n≤1000000):FnC m 44 #[.slice p n c,.int .i64 x] h fun v h'=>h'=h∧IsB (x∈xs) v:=by
 have hl:=rd.ilen
 refine jae Tryz.func44 rfl rfl (l:=(.slice p n c)::(.int .i64 x)::uu16) rfl ?_
 intro cf cs K hK
 refine Z10 ?_
 refine jaf (fun nn l h'=> ∃(k:Nat),nn=n-k∧(k≤n)∧(∀i,i<k→xs.getD i 0≠x)∧(∃U:Nat→Value,l=((.slice p n c)::(.int .i64 x)::(U 2)::(U 3)::(U 4)::(.int .i64 (k:Int))::vw12 U 6 []))∧h=h') _ ⟨0,rfl,by omega,by omega,exU rfl,rfl⟩ ?_;rintro nn l h' ⟨k,rfl,hk,he,⟨U,rfl⟩,rfl⟩ hnext;refine Z6 ?_
 refine jak rfl zq (fun hc=>?_) (fun hc=>?_)
 ·refine Z9 ?_
  obtain ⟨rd_b,rd_o,rfl⟩:=rd.ptr zO
  refine D0 ?_;refine D42 ?_;refine Zs ?_
  refine jaA rfl zq (fun hc=>?_) (fun hc=>?_)
  ·refine Z7 ?_;refine jac (h) rfl Tryz.func44 rfl jaa ?_;refine Zs ?_
   exact ⟨rfl,IsB.yes (jcx.2 ⟨k,by omega,by assumption⟩)⟩
  ·refine Z9 ?_
   exact m.weak jaa (hnext _ _ _ zO ⟨k+1,rfl,by omega,fun i hi=>by
    rcases Gf i k with h1|h1
    ·exact he i h1
    ·obtain rfl:i=k:=by omega
     assumption,exU rfl,rfl⟩)
 ·refine Z8 ?_;refine jac (h) rfl Tryz.func44 rfl jaa ?_;refine Zs ?_
  exact ⟨rfl,IsB.no fun e=>by
   obtain ⟨i,h1,h2⟩:=jcx.1 e
   exact he i zO h2⟩
theorem f106_c (m:Md Tryz.prog B) (h:Hp) {c c2:Nat} (rd:RdS B h 1 (.slice p n c) n (jaq xs)) (hn:n≤1000000) (rd2:RdS B h 1 (.slice p2 n2 c2) n2 (jaq ys)):FnC m 106 #[.slice p n c,.slice p2 n2 c2] h fun v h'=>h'=h∧IsB (jbi xs ys=true) v:=by
 have hl:=rd.ilen
 have hl2:=rd2.ilen
 refine jae Tryz.func106 rfl rfl (l:=(.slice p n c)::(.slice p2 n2 c2)::uu39) rfl ?_
 intro cf cs K hK
 refine Z10 ?_
 refine jaf (fun nn l h'=> ∃(k:Nat),nn=n-k∧(k≤n)∧(k≤n2)∧(jbi xs ys=jbi (xs.drop k) (ys.drop k))∧(∃U:Nat→Value,l=((.slice p n c)::(.slice p2 n2 c2)::(U 2)::(U 3)::(U 4)::(.int .i64 (k:Int))::vw35 U 6 []))∧h=h') _ ⟨0,rfl,by omega,by omega,rfl,exU rfl,rfl⟩ ?_;rintro nn l h' ⟨k,rfl,hk,hk2,he,⟨U,rfl⟩,rfl⟩ hnext;refine Z6 ?_
 refine jak rfl zq (fun hc=>?_) (fun hc=>?_)
 ·refine Z3 ?_;refine jhw rfl rfl ?_
  refine jak rfl rfl (fun hc=>?_) (fun hc=>?_)
  ·refine Z7 ?_;refine D72 ?_;refine Z2 ?_
   obtain ⟨rd_b,rd_o,rfl⟩:=rd.ptr zO
   refine D0 ?_;refine Z2 ?_
   obtain ⟨rd2_b,rd2_o,rfl⟩:=rd2.ptr zO
   refine D0 ?_;refine D42 ?_;refine D117 ?_
   refine jaP rfl zq (fun hc=>?_) (fun hc=>?_)
   ·refine Z3 ?_;refine jan [Zp 0,Zp 1,Zp 2,Zp 4,Zp 5,Zp 6,Zr 3,Zr 7,Zp 8,Zp 9] zK zK (gE _) ?_;refine jpE ?_;refine jpE ?_;refine D42 ?_;refine D117 ?_
    refine jak rfl zq (fun hc=>?_) (fun hc=>?_)
    ·refine Z3 ?_;refine D126 ?_;refine Zs ?_
     exact ⟨rfl,IsB.yes (by rw [he,jcz xs k zO,jcz ys k zO,jbi,if_neg zD];exact decide_eq_true zD)⟩
    ·refine Z3 ?_;refine D126 ?_;refine Zs ?_
     exact ⟨rfl,IsB.no (by rw [he,jcz xs k zO,jcz ys k zO,jbi,if_neg zD];rw [decide_eq_true_iff];omega)⟩
   ·refine Z9 ?_
    exact m.weak jaa (hnext _ _ _ zO ⟨k+1,rfl,by omega,by omega,by
     rw [he,jcz xs k zO,jcz ys k zO,jbi,if_pos zD],exU rfl,rfl⟩)
  ·refine Z10 ?_
   refine jak rfl zq (fun hc=>?_) (fun hc=>?_);all_goals
    refine Z3 ?_;refine D126 ?_;refine Zs ?_
    exact E1
 ·refine Z15 ?_
  refine jak rfl zq (fun hc=>?_) (fun hc=>?_);all_goals
   refine Z3 ?_;refine D126 ?_;refine Zs ?_
   exact E1
theorem f64_c (m:Md Tryz.prog B) (h:Hp) {c c2:Nat} (rd:RdS B h 1 (.slice p n c) n (jaq xs)) (hn:n≤1000000) (rd2:RdS B h 1 (.slice p2 n2 c2) n2 (jaq ys)):FnC m 64 #[.slice p n c,.slice p2 n2 c2] h fun v h'=>h'=h∧IsB (jdf xs ys) v:=by
 have hl:=rd.ilen
 have hl2:=rd2.ilen
 refine jae Tryz.func64 rfl rfl (l:=(.slice p n c)::(.slice p2 n2 c2)::uu20) rfl ?_
 intro cf cs K hK
 refine Z5 ?_;refine jbC [Zf 0,Zf 1,Zf 2,Zf 3,Zf 4,Zf 5,Zf 6,Zf 7,Zf 8,Zf 9,Zf 10,Zf 11,Zf 12,Zf 13,Zf 14,Zf 15,Zf 16,Zf 17] zK zK ?_;refine Z4 ?_
 refine jak rfl zq (fun hc=>?_) (fun hc=>?_)
 ·refine Z15 ?_;refine jac (h) rfl Tryz.func64 rfl jaa ?_;refine Zs ?_
  unfold jdf
  rw [hl,hl2];exact E3
 ·refine Z2 ?_;refine jhw rfl rfl ?_;refine Zs ?_;refine jhw rfl rfl ?_
  refine jaA rfl rfl (fun hc=>?_) (fun hc=>?_)
  ·refine Z3 ?_;refine jag (Post:=fun v=>IsB _ v) rfl rfl zK (fun H' hH=>f106_c m H' (rd.keeps hH) hn (rd2.keeps hH)) ?_
   rintro v (⟨hc,rfl⟩|⟨hc,rfl⟩);all_goals
    refine Z6 ?_;refine jac (h) rfl Tryz.func64 rfl jaa ?_;refine Zs ?_
    unfold jdf
    rw [hl,hl2];exact E3
  ·refine Z9 ?_;refine jac (h) rfl Tryz.func64 rfl jaa ?_;refine Zs ?_
   unfold jdf
   rw [hl,hl2];exact E3
theorem f62_c (m:Md Tryz.prog B) (h:Hp) (z:Nat) (hz:z≤1000):FnC m 62 #[.int .i64 (z:Int)] h fun v h'=> ∃new,h'=h++new∧OwnS 3 1 v z (jaq (jbk z)) new:=by
 refine jae Tryz.func62 rfl rfl (l:=(.int .i64 (z:Int))::uu14) rfl ?_
 intro cf cs K hK
 refine Z14 ?_
 refine jaf (fun nn l h'=> ∃(k:Nat) (w:Value) (new:Hp),nn=z-k∧(k≤z)∧(OwnS 3 1 w k (jaq (jbk k)) new)∧(∃U:Nat→Value,l=((.int .i64 (z:Int))::(U 1)::(U 2)::w::(.int .i64 (k:Int))::jpx U 5 []))∧h++new=h') _ ⟨0,_,[],rfl,by omega,OwnS.nil,exU rfl,zS⟩ ?_;rintro nn l h' ⟨k,w,new,rfl,hk,ho,⟨U,rfl⟩,rfl⟩ hnext;refine Z5 ?_
 refine jak rfl zq (fun hc=>?_) (fun hc=>?_)
 ·refine Z8 ?_
  refine jcb kdq rfl zq zA zA rfl (fun q12=>jap (jad ?_));refine k_app1 (F:=h) rfl zq rfl ho kdq zO zO (fun w2 new2 ho2=>jad ?_);rw [show jaq (jbk k)++[Value.int .i64 (k:Int)]=jaq (jbk (k+1)) by rw [jfD,jaZ];rfl] at ho2
  refine Z8 ?_
  exact m.weak jaa (hnext _ _ _ zO ⟨k+1,_,_,rfl,by omega,ho2,exU rfl,rfl⟩)
 ·refine Z9 ?_;refine jac (h++new) rfl Tryz.func62 rfl jaa ?_;refine Zs ?_
  obtain rfl:k=z:=by omega
  exact ⟨_,rfl,ho⟩
theorem f58_c (m:Md Tryz.prog B) (h:Hp) (x y:Int):FnC m 58 #[.int .i64 x,.int .i64 y] h fun v h'=>h'=h∧v= .int .i64 (if x=0 then 2 else if x=y then 1 else 0):=by
 refine jae Tryz.func58 rfl rfl (l:=(.int .i64 x)::(.int .i64 y)::uu8) rfl ?_
 intro cf cs K hK
 refine Z8 ?_
 refine jaA rfl zq (fun hc=>?_) (fun hc=>?_)
 ·refine Z7 ?_;refine jac (h) rfl Tryz.func58 rfl jaa ?_;refine Zs ?_
  refine ⟨rfl,?_⟩
  first|(rw [if_pos zD];done)|(rw [if_neg zD,if_pos zD];done)|(rw [if_neg zD,if_neg zD];done)
 ·refine Z8 ?_
  refine jaA rfl zq (fun hc=>?_) (fun hc=>?_);refine Z2 ?_
  rotate_left
  refine Z3 ?_
  all_goals
   refine Z5 ?_;refine jac (h) rfl Tryz.func58 rfl jaa ?_;refine Zs ?_
   refine ⟨rfl,?_⟩
   first|(rw [if_pos zD];done)|(rw [if_neg zD,if_pos zD];done)|(rw [if_neg zD,if_neg zD];done)
def Asc (ys:List Int):Prop:=ys.Pairwise (· < ·)
theorem take_lt {x:Int} (hj:j≤ys.length) (h: ∀i,i<j→ys.getD i 0<x): ∀z∈ys.take j,z<x:=fun z hz=>by
 obtain ⟨i,h1,rfl⟩:=jcx.1 hz
 rw [GH] at h1
 have:=h i zO
 rw [gC] at this⊢
 rw [GZ,if_pos zO];exact this
theorem Asc.ins (ha:Asc ys) {x:Int} (hj:j≤ys.length) (h: ∀i,i<j→ys.getD i 0<x) (hx:j<ys.length→x<ys.getD j 0):Asc (ys.take j++x::ys.drop j):=by
 unfold Asc at*
 have ha':=ha
 rw [←vA j ys,gq] at ha'
 obtain ⟨a1,a2,a3⟩:=ha'
 rw [gq,vB];have hd: ∀z∈ys.drop j,x<z:=by
  intro z hz
  have hlt:j<ys.length:=by
   rcases Gf j ys.length with h1|h1
   ·exact h1
   ·rw [gS h1] at hz
    simp at hz
  rw [jcz ys j hlt] at hz a2
  rcases gO.1 hz with rfl|hz
  ·exact hx hlt
  ·exact Int.lt_trans (hx hlt) ((vB.1 a2).1 z hz)
 refine ⟨a1,⟨hd,a2⟩,fun a ha b hb=>?_⟩
 rcases gO.1 hb with rfl|hb
 ·exact take_lt hj h a ha
 ·exact a3 a ha b hb
theorem jkH {x:Int}:z∈ys.take j++x::ys.drop j↔z∈ys∨z=x:=by
 rw [gQ,gO];have:z∈ys↔z∈ys.take j∨z∈ys.drop j:=by rw [←gQ,vA]
 rw [this];constructor
 ·rintro (h|h|h)
  ·exact .inl (.inl h)
  ·exact .inr h
  ·exact .inl (.inr h)
 ·rintro ((h|h)|h)
  ·exact .inl h
  ·exact .inr (.inr h)
  ·exact .inr (.inl h)
theorem Asc.eq: ∀{xs ys:List Int},Asc xs→Asc ys→(∀z,z∈xs↔z∈ys)→xs=ys
 |[],[],_,_,_=>rfl
 |[],b::s,_,_,h=>by have:=(h b).2 zS;simp at this
 |a::r,[],_,_,h=>by have:=(h a).1 zS;simp at this
 |a::r,b::s,h1,h2,h=>by
  unfold Asc at h1 h2
  rw [vB] at h1 h2
  have hab:a=b:=by
   rcases gO.1 ((h a).1 zS) with e|e
   ·exact e
   ·rcases gO.1 ((h b).2 zS) with e'|e'
    ·exact e'.symm
    ·have:=h1.1 b e';have:=h2.1 a e;omega
  subst hab
  have:r=s:=Asc.eq h1.2 h2.2 fun z=>by
   constructor
   ·intro hz
    rcases gO.1 ((h z).1 (gN _ hz)) with e|e
    ·have:=h1.1 z hz;omega
    ·exact e
   ·intro hz
    rcases gO.1 ((h z).2 (gN _ hz)) with e|e
    ·have:=h2.1 z hz;omega
    ·exact e
  rw [this]
theorem jbX (h:k<xs.length):z∈xs.take (k+1)↔z∈xs.take k∨z=xs.getD k 0:=by
 rw [take_snoc' xs k h,gQ,gr]
theorem OwnS.full {t q:Nat} (hl:cs.length=n*k):OwnS t k (.slice (some ⟨q,0,none⟩) n n) n cs [⟨true,q,.cells cs.toArray t (0,0)⟩]:=by
 have:=OwnS.blk (t:=t) (k:=k) (b:=q) (n:=n) (cap:=n) (cs:=cs) (junk:=[]) hl (by simpa using hl) (gL _)
 simpa using this
theorem f57_c (m:Md Tryz.prog B) (h:Hp) {c:Nat} (rd:RdS B h 1 (.slice p n c) n (jaq xs)) (hn:n≤100000):FnC m 57 #[.slice p n c] h fun v h'=> ∃new,h'=h++new∧ ∃ys,Asc ys∧(∀z,z∈ys↔z∈xs)∧OwnS 3 1 v ys.length (jaq ys) new:=by
 have hl:=rd.ilen
 refine jae Tryz.func57 rfl rfl (l:=(.slice p n c)::uu57) rfl ?_
 intro cf cs K hK
 refine Z14 ?_
 refine jaf (fun nn l h'=> ∃(k:Nat) (new:Hp) (ys:List Int) (wp:Option Addr) (wc:Nat),nn=n-k∧(k≤n)∧(OwnS 3 1 (.slice wp ys.length wc) ys.length (jaq ys) new)∧(Asc ys)∧(∀z,z∈ys↔z∈xs.take k)∧(ys.length≤k)∧(∃U:Nat→Value,l=((.slice p n c)::(U 1)::(U 2)::(.slice wp ys.length wc)::(.int .i64 (k:Int))::vw53 U 5 []))∧h++new=h') _ ⟨0,[],[],_,_,rfl,by omega,OwnS.nil,List.Pairwise.nil,by simp,by simp,exU rfl,zS⟩ ?_;rintro nn l h' ⟨k,new,ys,wp,wc,rfl,hk,ho,ha,hm,hyl,⟨U,rfl⟩,rfl⟩ hnext1;have hw:RdS B new 1 (.slice wp ys.length wc) ys.length (jaq ys):=ho.rd'
 have hcap:=ho.cap
 refine Z6 ?_
 refine jak rfl zq (fun hc=>?_) (fun hc=>?_)
 ·refine Z11 ?_
  refine jaf (fun nn l h'=> ∃(j:Nat),nn=ys.length-j∧(j≤ys.length)∧(∀i,i<j→ys.getD i 0<xs.getD k 0)∧(∃U:Nat→Value,l=((.slice p n c)::(U 1)::(U 2)::(.slice wp ys.length wc)::(.int .i64 (k:Int))::(.int .i64 (j:Int))::vw52 U 6 []))∧h++new=h') _ ⟨0,rfl,by omega,by omega,exU rfl,rfl⟩ ?_;rintro nn l h' ⟨j,rfl,hj,hlt,⟨U,rfl⟩,rfl⟩ hnext2;refine Z2 ?_;refine D22 ?_;refine Z3 ?_
  refine jak rfl zq (fun hc=>?_) (fun hc=>?_)
  ·refine Z3 ?_
   obtain ⟨hw_b,hw_o,rfl⟩:=hw.ptr zO
   refine D5 ?_;refine Z2 ?_
   obtain ⟨rd_b,rd_o,rfl⟩:=rd.ptr zO
   refine D5 ?_;refine D137 ?_
   refine jak rfl rfl (fun hc=>?_) (fun hc=>?_)
   ·refine Z11 ?_
    exact m.weak jaa (hnext2 _ _ _ zO ⟨j+1,rfl,by omega,fun i hi=>by
     rcases Gf i j with h1|h1
     ·exact hlt i h1
     ·obtain rfl:i=j:=by omega
      first|assumption|(exfalso;omega),exU rfl,rfl⟩)
   ·refine Z5 ?_;refine D22 ?_;refine Z3 ?_
    refine jaA rfl zq (fun hc=>?_) (fun hc=>?_)
    ·refine Z13 ?_;refine D15 ?_;refine Z2 ?_;refine D120 ?_;refine jpE ?_;refine Z2 ?_;refine D127 ?_;refine D42 ?_
     refine jcb kdq rfl zq zA zA rfl (fun q51=>jap (jad ?_));refine jgQ (F:=h++new) rfl zq jaa (OwnS.full (n:=1) (cs:=[.int .i64 (xs.getD k 0)]) rfl) (hw.cut (lo:=j) zO zO).up (by rw [GK,←jcy];exact jbf _) kdq zO zO (fun w6 n6 o6=>jad ?_);obtain ⟨p6,c6,rfl,_⟩:=o6.len
     have r6:RdS B n6 1 (.slice p6 _ c6) _ _:=(o6.rd')
     refine jgQ (F:=h++n6) rfl zq (Weak.mid h new n6) (ho.pre (m:=j) zO) r6.up (by rw [GK,←jcy];intro u hu;rcases gO.1 hu with rfl|hu;rfl;exact jbf _ u hu) kdq zO zO (fun w7 n7 o7=>jad ?_);obtain ⟨p7,c7,rfl,_⟩:=o7.len
     have hys:(jaq ys).take (j*1)++([Value.int .i64 (xs.getD k 0)]++(jaq ys).drop (j*1))=jaq (ys.take j++xs.getD k 0::ys.drop j):=by
      rw [GK,jaZ,jdy];simp
     have hyn:j+(1+(ys.length-j))=(ys.take j++xs.getD k 0::ys.drop j).length:=by simp;omega
     rw [hys,hyn] at o7
     rw [hyn];refine Z8 ?_
     exact E6
    ·refine Z3 ?_;refine D5 ?_;refine Z2 ?_;refine D5 ?_;refine D137 ?_
     refine jaP rfl rfl (fun hc=>?_) (fun hc=>?_)
     ·refine Z3 ?_;refine D15 ?_;refine Z2 ?_;refine D120 ?_;refine jpE ?_;refine Z2 ?_;refine D127 ?_;refine D42 ?_
      refine jcb kdq rfl zq zA zA rfl (fun q51=>jap (jad ?_));refine jgQ (F:=h++new) rfl zq jaa (OwnS.full (n:=1) (cs:=[.int .i64 (xs.getD k 0)]) rfl) (hw.cut (lo:=j) zO zO).up (by rw [GK,←jcy];exact jbf _) kdq zO zO (fun w6 n6 o6=>jad ?_);obtain ⟨p6,c6,rfl,_⟩:=o6.len
      have r6:RdS B n6 1 (.slice p6 _ c6) _ _:=(o6.rd')
      refine jgQ (F:=h++n6) rfl zq (Weak.mid h new n6) (ho.pre (m:=j) zO) r6.up (by rw [GK,←jcy];intro u hu;rcases gO.1 hu with rfl|hu;rfl;exact jbf _ u hu) kdq zO zO (fun w7 n7 o7=>jad ?_);obtain ⟨p7,c7,rfl,_⟩:=o7.len
      have hys:(jaq ys).take (j*1)++([Value.int .i64 (xs.getD k 0)]++(jaq ys).drop (j*1))=jaq (ys.take j++xs.getD k 0::ys.drop j):=by
       rw [GK,jaZ,jdy];simp
      have hyn:j+(1+(ys.length-j))=(ys.take j++xs.getD k 0::ys.drop j).length:=by simp;omega
      rw [hys,hyn] at o7
      rw [hyn];refine Z8 ?_
      exact E7
     ·refine Z10 ?_
      exact m.weak jaa (hnext1 _ _ _ zO ⟨k+1,_,ys,_,_,rfl,by omega,ho,ha,fun z=>by
       rw [jbX zO,←hm];refine ⟨.inl,?_⟩
       rintro (h1|rfl)
       ·exact h1
       ·first|(exfalso;omega)|exact jcx.2 ⟨j,by omega,by assumption⟩,by omega,exU rfl,rfl⟩)
  ·refine Z15 ?_;refine D22 ?_;refine Z3 ?_
   refine jaA rfl zq (fun hc=>?_) (fun hc=>?_)
   ·refine Z13 ?_;refine D15 ?_;refine Z2 ?_;refine D120 ?_;refine Z2 ?_
    obtain ⟨rd_b,rd_o,rfl⟩:=rd.ptr zO
    refine D0 ?_;refine Z2 ?_;refine D127 ?_;refine D42 ?_
    refine jcb kdq rfl zq zA zA rfl (fun q51=>jap (jad ?_));refine jgQ (F:=h++new) rfl zq jaa (OwnS.full (n:=1) (cs:=[.int .i64 (xs.getD k 0)]) rfl) (hw.cut (lo:=j) zO zO).up (by rw [GK,←jcy];exact jbf _) kdq zO zO (fun w6 n6 o6=>jad ?_);obtain ⟨p6,c6,rfl,_⟩:=o6.len
    have r6:RdS B n6 1 (.slice p6 _ c6) _ _:=(o6.rd')
    refine jgQ (F:=h++n6) rfl zq (Weak.mid h new n6) (ho.pre (m:=j) zO) r6.up (by rw [GK,←jcy];intro u hu;rcases gO.1 hu with rfl|hu;rfl;exact jbf _ u hu) kdq zO zO (fun w7 n7 o7=>jad ?_);obtain ⟨p7,c7,rfl,_⟩:=o7.len
    have hys:(jaq ys).take (j*1)++([Value.int .i64 (xs.getD k 0)]++(jaq ys).drop (j*1))=jaq (ys.take j++xs.getD k 0::ys.drop j):=by
     rw [GK,jaZ,jdy];simp
    have hyn:j+(1+(ys.length-j))=(ys.take j++xs.getD k 0::ys.drop j).length:=by simp;omega
    rw [hys,hyn] at o7
    rw [hyn];refine Z8 ?_
    exact E6
   ·refine Z3 ?_
    obtain ⟨hw_b,hw_o,rfl⟩:=hw.ptr zO
    refine D5 ?_;refine Z2 ?_
    obtain ⟨rd_b,rd_o,rfl⟩:=rd.ptr zO
    refine D5 ?_;refine D137 ?_
    refine jaP rfl rfl (fun hc=>?_) (fun hc=>?_)
    ·refine Z3 ?_;refine D15 ?_;refine Z2 ?_;refine D120 ?_;refine jpE ?_;refine Z2 ?_;refine D127 ?_;refine D42 ?_
     refine jcb kdq rfl zq zA zA rfl (fun q51=>jap (jad ?_));refine jgQ (F:=h++new) rfl zq jaa (OwnS.full (n:=1) (cs:=[.int .i64 (xs.getD k 0)]) rfl) (hw.cut (lo:=j) zO zO).up (by rw [GK,←jcy];exact jbf _) kdq zO zO (fun w6 n6 o6=>jad ?_);obtain ⟨p6,c6,rfl,_⟩:=o6.len
     have r6:RdS B n6 1 (.slice p6 _ c6) _ _:=(o6.rd')
     refine jgQ (F:=h++n6) rfl zq (Weak.mid h new n6) (ho.pre (m:=j) zO) r6.up (by rw [GK,←jcy];intro u hu;rcases gO.1 hu with rfl|hu;rfl;exact jbf _ u hu) kdq zO zO (fun w7 n7 o7=>jad ?_);obtain ⟨p7,c7,rfl,_⟩:=o7.len
     have hys:(jaq ys).take (j*1)++([Value.int .i64 (xs.getD k 0)]++(jaq ys).drop (j*1))=jaq (ys.take j++xs.getD k 0::ys.drop j):=by
      rw [GK,jaZ,jdy];simp
     have hyn:j+(1+(ys.length-j))=(ys.take j++xs.getD k 0::ys.drop j).length:=by simp;omega
     rw [hys,hyn] at o7
     rw [hyn];refine Z8 ?_
     exact E7
    ·refine Z10 ?_
     exact m.weak jaa (hnext1 _ _ _ zO ⟨k+1,_,ys,_,_,rfl,by omega,ho,ha,fun z=>by
      rw [jbX zO,←hm];refine ⟨.inl,?_⟩
      rintro (h1|rfl)
      ·exact h1
      ·first|(exfalso;omega)|exact jcx.2 ⟨j,by omega,by assumption⟩,by omega,exU rfl,rfl⟩)
 ·refine Z9 ?_;refine jac (h++new) rfl Tryz.func57 rfl jaa ?_;refine Zs ?_
  obtain rfl:k=n:=by omega
  rw [gh zO] at hm
  exact ⟨_,rfl,ys,ha,hm,ho⟩
def RdI (B:Array Obj) (h:Hp) (w:Value) (xs:List Int):Prop:= ∃p c,w= .slice p xs.length c∧RdS B h 1 (.slice p xs.length c) xs.length (jaq xs)
theorem RdI.nil:RdI B h (.slice none 0 0) []:=⟨none,0,rfl,none,0,rfl,rfl,.inl ⟨rfl,rfl⟩⟩
theorem OwnS.rdI {t:Nat} {w:Value} {new:Hp} (o:OwnS t 1 w n (jaq xs) new):RdI B new w xs:=by
 obtain ⟨p,c,rfl,hl⟩:=o.len
 obtain rfl:n=xs.length:=by simpa using hl.symm
 exact ⟨p,c,rfl,o.rd'⟩
theorem f84_c (m:Md Tryz.prog B) (h:Hp) {c:Nat} (rd:RdS B h 1 (.slice p n c) n (jaq xs)) (hn:n≤100000) (hcall:jbM Tryz.prog fid=true) (hf: ∀i,i<n→ ∀H':Hp,h.Sublist H'→FnC m fid (fc++[Value.int .i64 (xs.getD i 0)].toArray++cp) H' fun v h'=>h'=H'∧IsB (pr i) v):FnC m 84 #[.slice p n c,.func (.func fid) fc cp] h fun v h'=>h'=h∧ ∃j:Int,v= .int .i64 j∧(0≤j↔ ∃i,i<n∧pr i):=by
 refine jae Tryz.func84 rfl rfl (l:=(.slice p n c)::(.func (.func fid) fc cp)::uu17) rfl ?_
 intro cf cs K hK
 refine Z12 ?_
 refine jaf (fun nn l h'=> ∃(k:Nat),nn=n-k∧(k≤n)∧(∀i,i<k→ ¬pr i)∧(∃U:Nat→Value,l=((.slice p n c)::(.func (.func fid) fc cp)::vw5 U 2 ((.int .i64 (n:Int))::(.int .i64 (k:Int))::jpx U 9 [])))∧h=h') _ ⟨0,rfl,by omega,fun i hi=>by omega,exU rfl,rfl⟩ ?_;rintro nn l h' ⟨k,rfl,hk,he,⟨U,rfl⟩,rfl⟩ hnext;refine Z2 ?_
 refine jak rfl zq (fun hc=>?_) (fun hc=>?_)
 ·refine Z16 ?_
  obtain ⟨rd_b,rd_o,rfl⟩:=rd.ptr zO
  refine D0 ?_;refine D42 ?_;refine jfi (Post:=fun v=>IsB _ v) rfl zq hcall (fun H' hH=>hf k zO H' hH) ?_
  rintro v (⟨hc,rfl⟩|⟨hc,rfl⟩)
  ·refine Z9 ?_;refine jac (h) rfl Tryz.func84 rfl jaa ?_;refine Zs ?_
   first
    |exact ⟨rfl,_,rfl,fun _=>⟨k,by omega,hc⟩,fun _=>by omega⟩
    |(refine ⟨rfl,_,rfl,fun e=>absurd e zA,?_⟩;rintro ⟨i,h1,h2⟩;exact absurd h2 (he i zO))
  ·refine Z9 ?_
   exact m.weak jaa (hnext _ _ _ zO ⟨k+1,rfl,by omega,fun i hi=>by
    rcases Gf i k with h1|h1
    ·exact he i h1
    ·obtain rfl:i=k:=by omega
     exact hc,exU rfl,rfl⟩)
 ·refine Z9 ?_;refine jac (h) rfl Tryz.func84 rfl jaa ?_;refine Zs ?_
  first
   |exact ⟨rfl,_,rfl,fun _=>⟨k,by omega,hc⟩,fun _=>by omega⟩
   |(refine ⟨rfl,_,rfl,fun e=>absurd e zA,?_⟩;rintro ⟨i,h1,h2⟩;exact absurd h2 (he i zO))
theorem f35_c (m:Md Tryz.prog B) (h:Hp) {c:Nat} (rd:RdS B h 1 (.slice p n c) n (jaq xs)) (hn:n≤100000) (hcall:jbM Tryz.prog fid=true) (hf: ∀i,i<n→ ∀H':Hp,h.Sublist H'→FnC m fid (fc++[Value.int .i64 (xs.getD i 0)].toArray++cp) H' fun v h'=>h'=H'∧IsB (pr i) v):FnC m 35 #[.slice p n c,.func (.func fid) fc cp] h fun v h'=>h'=h∧IsB (∃i,i<n∧pr i) v:=by
 refine jae Tryz.func35 rfl rfl (l:=(.slice p n c)::(.func (.func fid) fc cp)::uu7) rfl ?_
 intro cf cs K hK
 refine Z8 ?_;refine jag (Post:=fun v=> ∃j:Int,v= .int .i64 j∧(0≤j↔ ∃i,i<n∧pr i)) rfl zq zK (fun H' hH=>f84_c m H' (rd.keeps (sq hH)) hn hcall (fun i hi K hK=>hf i hi K (SubH.sub.trans (hH.trans hK)))) ?_
 rintro v ⟨j,rfl,hj⟩;refine Zs ?_
 refine jbG rfl zq (fun hc=>?_) (fun hc=>?_);all_goals
  refine Z3 ?_;refine jac (h) rfl Tryz.func35 rfl jaa ?_;refine Zs ?_
  first|exact ⟨rfl,IsB.yes (hj.1 zD)⟩|exact ⟨rfl,IsB.no (fun e=>absurd (hj.2 e) zO)⟩
theorem take_set {n:Int} (h:i<ln.length):(ln.set i n).take (i+1)=ln.take i++[n]:=by
 rw [vu (by simpa using h)];simp [VV]
theorem f167_c (m:Md Tryz.prog B) (h:Hp) (x:Int):FnC m 167 #[.int .i64 x] h fun v h'=>h'=h∧v= .bool false:=by
 refine jae Tryz.func167 rfl rfl (l:=[.int .i64 x,undef,undef,undef,undef,undef]) rfl ?_
 intro cf cs K hK
 refine Z8 ?_;refine k_neq rfl zq ?_;refine Z3 ?_;refine jac (h) rfl Tryz.func167 rfl jaa ?_;refine Zs ?_
 exact ⟨rfl,by simp⟩
theorem f131_c (m:Md Tryz.prog B) (h:Hp) (x y:Int):FnC m 131 #[.int .i64 x,.int .i64 y] h fun v h'=>h'=h∧IsB (x<y) v:=by
 refine jae Tryz.func131 rfl rfl (l:=(.int .i64 x)::(.int .i64 y)::uu15) rfl ?_
 intro cf cs K hK
 refine Z5 ?_;refine rr13 ?_;refine Zs ?_;refine D103 ?_
 rintro v rfl;refine Z9 ?_
 refine jak rfl rfl (fun hc=>?_) (fun hc=>?_);all_goals
  refine Z4 ?_;refine jac (h) rfl Tryz.func131 rfl jaa ?_;refine Zs ?_
  first|exact ⟨rfl,IsB.yes zD⟩|exact ⟨rfl,IsB.no zO⟩
def Ins (ys:List Int) (a i j:Nat):Prop:=(∀p q,a≤p→p<q→q≤i→p≠j→q≠j→ys.getD p 0≤ys.getD q 0)∧(∀q,j<q→q≤i→ys.getD j 0≤ys.getD q 0)
theorem Ins.start (h:SortR ys a i):Ins ys a i i:=⟨fun p q h1 h2 h3 h4 h5=>h p q h1 h2 zO,fun q h1 h2=>by omega⟩
theorem Ins.stop {ys:List Int} {a i j:Nat} (h:Ins ys a i j) (hj:j=a∨(a<j∧ys.getD (j-1) 0≤ys.getD j 0)) (haj:a≤j) (hji:j≤i):SortR ys a (i+1):=fun p q h1 h2 h3=>by
 by_cases e1:p=j
 ·subst e1
  exact h.2 q h2 zO
 ·by_cases e2:q=j
  ·subst e2
   rcases hj with hj|⟨hj,hle⟩
   ·omega
   ·by_cases e3:p=q-1
    ·subst e3
     exact hle
    ·have:=h.1 p (q-1) h1 zO zO e1 zO
     omega
  ·exact h.1 p q h1 h2 zO e1 e2
theorem Ins.step {ys:List Int} {a i j:Nat} (h:Ins ys a i j) (haj:a<j) (hji:j≤i) (hi:i<ys.length) (hlt:ys.getD j 0<ys.getD (j-1) 0):Ins (jbj ys j (j-1)) a i (j-1):=by
 have g: ∀k,(jbj ys j (j-1)).getD k 0=if k=j-1 then ys.getD j 0 else if k=j then ys.getD (j-1) 0 else ys.getD k 0:=fun k=>jbd zO zO
 refine ⟨fun p q h1 h2 h3 h4 h5=>?_,fun q h1 h2=>?_⟩
 ·rw [g,g,if_neg h4,if_neg h5];by_cases e1:p=j
  ·subst e1
   rw [if_pos rfl,if_neg zO];exact h.1 (p-1) q zO zO h3 zO zO
  ·rw [if_neg e1];by_cases e2:q=j
   ·subst e2
    rw [if_pos rfl];exact h.1 p (q-1) h1 zO zO e1 zO
   ·rw [if_neg e2];exact h.1 p q h1 h2 h3 e1 e2
 ·rw [g,g,if_pos rfl,if_neg zO];by_cases e2:q=j
  ·subst e2
   rw [if_pos rfl];omega
  ·rw [if_neg e2];exact h.2 q zO h2
theorem jby:(ys.set i (ys.getD j 0)).set j (ys.getD i 0)=jbj ys i j:=rfl
theorem f125_c (m:Md Tryz.prog B) (h:Hp) {c:Nat} (hl:xs.length=n) (hn:n≤100000) (a b:Nat) (hab:a≤b) (hb:b≤n):FnC m 125 #[.slice (some ⟨bk,0,none⟩) n c,.int .i64 (a:Int),.int .i64 (b:Int)] (h++[jbl bk xs junk]) fun v h'=>v= .tuple [].toArray∧ ∃ys,h'=h++[jbl bk ys junk]∧Sw a b xs ys∧SortR ys a b:=by
 refine jae Tryz.func125 rfl rfl (l:=(.slice (some ⟨bk,0,none⟩) n c)::(.int .i64 (a:Int))::(.int .i64 (b:Int))::uu46) rfl ?_
 intro cf cs K hK
 refine Z7 ?_
 refine jaf (fun nn l h'=> ∃(i:Nat) (ys:List Int),nn=b-i∧(a+1≤i)∧(i≤max (a+1) b)∧(Sw a b xs ys)∧(SortR ys a i)∧(∃U:Nat→Value,l=((.slice (some ⟨bk,0,none⟩) n c)::(.int .i64 (a:Int))::(.int .i64 (b:Int))::(U 3)::(U 4)::(U 5)::(.int .i64 (i:Int))::vw42 U 7 []))∧h++[jbl bk ys junk]=h') _ ⟨a+1,xs,rfl,by omega,by omega,.refl _,fun p q h1 h2 h3=>by omega,exU rfl,rfl⟩ ?_;rintro nn l h' ⟨i,ys,rfl,hi1,hi2,hsw,hso,⟨U,rfl⟩,rfl⟩ hnext1;have hyl:=hsw.length
 refine Z5 ?_
 refine jak rfl zq (fun hc=>?_) (fun hc=>?_)
 ·refine Z11 ?_
  refine jaf (fun nn l h'=> ∃(j:Nat) (zs:List Int),nn=j+1∧(a≤j)∧(j≤i)∧(Sw a b xs zs)∧(Ins zs a i j)∧(∃U:Nat→Value,l=((.slice (some ⟨bk,0,none⟩) n c)::(.int .i64 (a:Int))::(.int .i64 (b:Int))::(U 3)::(U 4)::(U 5)::(.int .i64 (i:Int))::(.int .i64 (j:Int))::vw41 U 8 []))∧h++[jbl bk zs junk]=h') _ ⟨i,ys,rfl,by omega,by omega,hsw,Ins.start hso,exU rfl,rfl⟩ ?_;rintro nn l h' ⟨j,zs,rfl,hj1,hj2,hzw,hin,⟨U,rfl⟩,rfl⟩ hnext2;have hzl:=hzw.length
  refine Z2 ?_;refine jan [Zp 0,Zp 1,Zp 2,Zp 3,Zp 4,Zp 5,Zp 6,Zp 8,Zp 9,Zp 10,Zp 11,Zr 7,Zr 12,Zk 13,Zp 14] zK zK (gE _) ?_;refine Z2 ?_
  refine jaz rfl zq (fun hc=>?_) (fun hc=>?_)
  ·refine Z3 ?_;refine D5 ?_;refine Z2 ?_;refine D100 ?_;refine D5 ?_;refine jaI rfl rfl (jaC j rfl zO) ?_;refine jaI rfl rfl (jaC (j-1) zO zO) ?_;refine D16 ?_
   rintro v (⟨hc,rfl⟩|⟨hc,rfl⟩)
   ·refine Z7 ?_;refine D12 ?_;refine Z8 ?_;refine jow ?_;refine D93 ?_;refine jaI rfl zq (jaC j rfl zO) ?_;refine D0 ?_
    haveI hs1:=setSeg_ints (xs:=zs) (junk:=junk) (v:=zs.getD (j-1) 0) (i:=(j:Int)) (k:=j) rfl zO
    refine jmu ?_
    haveI hs2:=setSeg_ints (xs:=zs.set j (zs.getD (j-1) 0)) (junk:=junk) (v:=zs.getD j 0) (i:=(j:Int)-1) (k:=j-1) zO zN
    refine D9 ?_
    rw [jby];refine Z7 ?_
    have ej:(j:Int)-1=((j-1:Nat):Int):=by omega
    rw [ej];exact m.weak jaa (hnext2 _ _ _ zO ⟨j-1,jbj zs j (j-1),rfl,by omega,by omega,.step j (j-1) ⟨by omega,by omega⟩ ⟨by omega,by omega⟩ hzw,hin.step zO zO zO zO,exU rfl,rfl⟩)
   ·refine Z11 ?_
    exact E8
  ·refine Z21 ?_
   exact E8
 ·refine Z3 ?_;refine jcJ rfl ?_;refine jac (h++[jbl bk ys junk]) rfl Tryz.func125 rfl jaa ?_;refine Zs ?_
  refine ⟨rfl,ys,rfl,hsw,fun p q h1 h2 h3=>?_⟩
  by_cases e:a<b
  ·exact hso p q h1 h2 zO
  ·omega
theorem f135_c (m:Md Tryz.prog B) (h:Hp) (x:Int) (hx:0≤x∧x<65536):FnC m 135 #[.int .u64 x] h fun v h'=>h'=h∧ ∃k:Int,v= .int .i64 k∧0≤k∧k≤1000:=by
 refine jae Tryz.func135 rfl rfl (l:=(.int .u64 x)::uu24) rfl ?_
 intro cf cs K hK
 refine Z8 ?_
 refine jbG rfl zq (fun hc=>?_) (fun hc=>?_)
 ·exfalso
  omega
 ·refine Z7 ?_
  refine jbG rfl zq (fun hc=>?_) (fun hc=>?_)
  ·exfalso
   omega
  ·refine Z7 ?_
   refine jbG rfl zq (fun hc=>?_) (fun hc=>?_);refine Z5 ?_
   have hq:x.fdiv (2^(min (8:Int).toNat IntKind.u64.bits))=x/256:=by
    rw [VU _ zA];rfl
   refine k_shr (x/256) rfl zq zA hq ?_;refine Z7 ?_;rotate_left
   refine Z3 ?_
   all_goals
    refine Z4 ?_
    first
     |refine jdd rfl zq zK (n':=x) zL ?_
     |refine jdd rfl zq zK (n':=x/256) zL ?_
    refine k_ixS (n:=256) rfl zq zK zK zO zO (fun b8=>jad ?_);have hb8:=b8.toNat_lt
    refine jdd rfl zq zK (n':=(b8.toNat:Int)) zL ?_;refine Z4 ?_;refine jac (h) rfl Tryz.func135 rfl jaa ?_;refine Zs ?_;exact ⟨rfl,_,rfl,by omega,by omega⟩
theorem f97_c (m:Md Tryz.prog B) (h:Hp) (x:Int) (hx:0≤x∧x<65536):FnC m 97 #[.int .u64 x] h fun v h'=>h'=h∧ ∃k:Int,v= .int .i64 k∧0≤k∧k≤1000:=by
 refine jae Tryz.func97 rfl rfl (l:=(.int .u64 x)::uu7) rfl ?_
 intro cf cs K hK
 refine Z10 ?_;refine jag rfl zq zK (fun H' hH=>f135_c m H' _ hx) ?_
 rintro v ⟨k,rfl,hk0,hk1⟩;refine Z4 ?_;refine jac (h) rfl Tryz.func97 rfl jaa ?_;refine Zs ?_
 exact ⟨rfl,_,rfl,hk0,hk1⟩
end
section
def PdqC {B:Array Obj} (m:Md Tryz.prog B) (N:Nat):Prop:= ∀(h:Hp) (bk n c:Nat) (xs:List Int) (junk:List Value) (lim:Int),xs.length=n→n≤N→0≤lim→lim≤1000→
 FnC m 96 #[.slice (some ⟨bk,0,none⟩) n c,.int .i64 0,.int .i64 (n:Int),.int .i64 lim] (h++[jbl bk xs junk]) fun v h'=>v= .tuple [].toArray∧ ∃ys,h'=h++[jbl bk ys junk]∧Sw 0 n xs ys∧SortR ys 0 n
def jc2 (xs:List Int):Nat→List Int
 |0=>[]
 |t+1=>jc2 xs t++if t=0∨xs.getD t 0≠xs.getD (t-1) 0 then [xs.getD t 0] else []
theorem jhX (xs:List Int): ∀t,t≤xs.length→(∀i,0<i→i<t→xs.getD i 0≠xs.getD (i-1) 0)→jc2 xs t=xs.take t
 |0,_,_=>rfl
 |t+1,h,hd=>by
  rw [jc2,jhX xs t zO (fun i h1 h2=>hd i h1 zO),take_snoc' xs t zO,if_pos];by_cases e:t=0
  ·exact .inl e
  ·exact .inr (hd t zO zO)
theorem jki {v:Int} (h:k<ys.length):(ys.set k v).take (k+1)=ys.take k++[v]:=take_set h
theorem jmN {c:Nat} (hl:ys.length=n) (hj:n+junk.length=c):OwnS 3 1 (.slice (some ⟨bk,0,none⟩) n c) n (jaq ys) [jbl bk ys junk]:=
 .blk (by simp [hl]) (by simp [hl];omega) zO
theorem own_cut {c:Nat} (hl:ys.length=n) (hj:n+junk.length=c) (hk:k≤n):OwnS 3 1 (.slice (some ⟨bk,0,none⟩) k c) k (jaq (ys.take k)) [jbl bk ys junk]:=by
 have:=(jmN (bk:=bk) hl hj).pre (m:=k) hk
 rwa [GK,←jdy] at this
theorem f53_c (m:Md Tryz.prog B) (h:Hp) {c:Nat} (hl:xs.length=n) (hj:n+junk.length=c) (hn:n≤100000):FnC m 53 #[.slice (some ⟨bk,0,none⟩) n c] (h++[jbl bk xs junk]) fun v h'=> ∃nw,h'=h++nw∧ ∃k,k=(jc2 xs n).length∧OwnS 3 1 v k (jaq (jc2 xs n)) nw:=by
 refine jae Tryz.func53 rfl rfl (l:=(.slice (some ⟨bk,0,none⟩) n c)::uu60) rfl ?_
 intro cf cs K hK
 refine Z9 ?_
 refine jak rfl zq (fun hc=>?_) (fun hc=>?_)
 ·refine Z8 ?_;refine jac (h++[jbl bk xs junk]) rfl Tryz.func53 rfl jaa ?_;refine Zs ?_
  have hall:jc2 xs n=xs:=by rw [jhX xs n zO (fun i h1 h2=>by omega),gh zO]
  exact ⟨_,rfl,n,by rw [hall,hl],by rw [hall];exact jmN hl hj⟩
 ·refine Z9 ?_
  refine jaf (fun nn l h'=> ∃(k:Nat),nn=n-k∧(1≤k)∧(k≤n)∧(∀i,0<i→i<k→xs.getD i 0≠xs.getD (i-1) 0)∧(∃U:Nat→Value,l=((.slice (some ⟨bk,0,none⟩) n c)::(U 1)::(U 2)::(.int .i64 (k:Int))::vw57 U 4 []))∧h++[jbl bk xs junk]=h') _ ⟨1,rfl,by omega,by omega,fun i h1 h2=>by omega,exU rfl,rfl⟩ ?_;rintro nn l h' ⟨k,rfl,hk1,hk2,hd,⟨U,rfl⟩,rfl⟩ hnext1;have hu:=jhX xs k zO hd
  refine Z6 ?_
  refine jak rfl zq (fun hc=>?_) (fun hc=>?_)
  ·refine Z6 ?_;refine D64 ?_;refine jpE ?_;refine Z3 ?_;refine D0 ?_;refine jaI rfl zq (jaC k rfl zO) ?_;refine jaI rfl zq (jaC (k-1) zO zO) ?_
   refine jaA rfl zq (fun hc=>?_) (fun hc=>?_)
   ·refine Z6 ?_;refine jgc (a:=k) rfl zq rfl zO ?_
    rw [jrR zO];refine Z5 ?_
    have hu1:jc2 xs (k+1)=xs.take k:=by rw [jc2,if_neg (by rintro (e|e)<;>omega),gd,hu]
    refine Z3 ?_
    refine jaf (fun nn l h'=> ∃(j e:Nat) (ys:List Int),nn=n-j∧(1≤j)∧(k+j≤n)∧(e=(jc2 xs (k+j)).length)∧(e<k+j)∧(k≤e)∧(ys.length=n)∧(ys.take e=jc2 xs (k+j))∧(∀i,k+j≤i+1→ys.getD i 0=xs.getD i 0)∧(∃U:Nat→Value,l=((.slice (some ⟨bk,0,none⟩) n c)::(U 1)::(U 2)::(.int .i64 (e:Int))::(.slice (some ⟨bk,k,none⟩) (n-k) (c-k))::(.int .i64 (j:Int))::vw55 U 6 []))∧h++[jbl bk ys junk]=h') _ ⟨1,k,xs,rfl,by omega,by omega,by rw [hu1,GH];omega,by omega,by omega,hl,by rw [hu1],fun i hi=>rfl,exU rfl,rfl⟩ ?_;rintro nn l h' ⟨j,e,ys,rfl,hj1,hj2,he,hek,hke,hyl,hyt,hys,⟨U,rfl⟩,rfl⟩ hnext2;refine Z6 ?_
    refine jak rfl zq (fun hc=>?_) (fun hc=>?_)
    ·refine Z6 ?_;refine D64 ?_
     have hy1:=hys (k+j) zO
     have hy2:=hys (k+(j-1)) zO
     refine jpE ?_;refine Z3 ?_;refine D0 ?_;refine jaI rfl zq (jmL j rfl zO) ?_;refine jaI rfl zq (jmL (j-1) zO zO) ?_
     rw [hy1,hy2];refine jaP rfl zq (fun hc=>?_) (fun hc=>?_)
     ·have hU:jc2 xs (k+(j+1))=jc2 xs (k+j)++[xs.getD (k+j) 0]:=by
       rw [show k+(j+1)=(k+j)+1 by omega,jc2,if_pos (.inr (by rw [show k+j-1=k+(j-1) by omega];exact hc))]
      refine Z8 ?_;refine D0 ?_;refine jaI rfl zq (jmL j rfl zO) ?_
      rw [hy1];refine D0 ?_
      haveI hs1:=setSeg_ints (xs:=ys) (junk:=junk) (v:=xs.getD (k+j) 0) (i:=(e:Int)) (k:=e) rfl zO
      refine D9 ?_;refine Z12 ?_
      exact m.weak jaa (hnext2 _ _ _ zO ⟨j+1,e+1,ys.set e (xs.getD (k+j) 0),rfl,by omega,by omega,by rw [hU,gJ,←he];rfl,by omega,by omega,by simp [hyl],by rw [jki zO,hyt,hU],fun i hi=>by rw [jkT zO,if_neg zO];exact hys i zO,exU rfl,rfl⟩)
     ·have hU:jc2 xs (k+(j+1))=jc2 xs (k+j):=by
       rw [show k+(j+1)=(k+j)+1 by omega,jc2,if_neg (fun y=>y.elim (fun x=>by omega) (fun x=>x (by rw [show k+j-1=k+(j-1) by omega];exact hc))),gd]
      refine Z9 ?_
      exact m.weak jaa (hnext2 _ _ _ zO ⟨j+1,e,ys,rfl,by omega,by omega,by rw [hU,←he],by omega,by omega,hyl,by rw [hU,hyt],fun i hi=>hys i zO,exU rfl,rfl⟩)
    ·refine Z5 ?_
     obtain rfl:n=k+j:=by omega
     refine Z2 ?_;refine jgc (a:=e) rfl zq rfl zO ?_;refine k_clear rfl zq hyl zO zO ?_;refine Z5 ?_;refine jlQ (b:=e) rfl zq (.inr ⟨_,_,rfl⟩) rfl zO ?_;refine Z3 ?_;refine jac (h++[jbl bk (ys.take e++List.replicate (k+j-e) 0) junk]) rfl Tryz.func53 rfl jaa ?_;refine Zs ?_
     refine ⟨_,rfl,e,he,?_⟩
     have:=own_cut (bk:=bk) (n:=k+j) (c:=c) (k:=e) (ys:=ys.take e++List.replicate (k+j-e) 0) (junk:=junk) zN hj zO
     rw [VH zN,List.take_take,Nat.min_self,hyt] at this
     rw [hyt];exact this
   ·refine Z9 ?_
    exact m.weak jaa (hnext1 _ _ _ zO ⟨k+1,rfl,by omega,by omega,fun i h1 h2=>by
     rcases Gf i k with h3|h3
     ·exact hd i h1 h3
     ·obtain rfl:i=k:=by omega
      assumption,exU rfl,rfl⟩)
  ·refine Z9 ?_;refine jac (h++[jbl bk xs junk]) rfl Tryz.func53 rfl jaa ?_;refine Zs ?_
   obtain rfl:k=n:=by omega
   have hall:jc2 xs k=xs:=by rw [hu,gh zO]
   exact ⟨_,rfl,k,by rw [hall,hl],by rw [hall];exact jmN hl hj⟩
theorem f52_c (m:Md Tryz.prog B) (h:Hp) {N:Nat} (hP:PdqC m N) (hN:N≤60000) {c:Nat} (hl:xs.length=n) (hn:n≤N):FnC m 52 #[.slice (some ⟨bk,0,none⟩) n c] (h++[jbl bk xs junk]) fun v h'=>v= .tuple [].toArray∧ ∃ys,h'=h++[jbl bk ys junk]∧Sw 0 n xs ys∧SortR ys 0 n:=by
 refine jae Tryz.func52 rfl rfl (l:=(.slice (some ⟨bk,0,none⟩) n c)::uu10) rfl ?_
 intro cf cs K hK
 refine Z10 ?_;refine jdd rfl zq zK (n':=(n:Int)) zL ?_;refine jag rfl zq zK (fun H' hH=>f97_c m H' _ zO) ?_
 rintro v ⟨lim,rfl,hk0,hk1⟩;refine Zs ?_;refine jbt rfl zq zK (hP h bk n c xs junk lim hl hn hk0 hk1) ?_
 rintro v h' ⟨rfl,ys,rfl,hsw,hso⟩;refine Z2 ?_;refine jcJ rfl ?_;refine jac (h++[jbl bk ys junk]) rfl Tryz.func52 rfl jaa ?_;refine Zs ?_
 exact ⟨rfl,ys,rfl,hsw,hso⟩
section
variable {m:Md P B} {S h h' H:Hp} {kd:Kd}
end
def jrV:List Int→List Int→Int
 |[],[]=>0
 |[],_::_=> -1
 |_::_,[]=>1
 |a::r,b::s=>if a<b then-1 else if b<a then 1 else jrV r s
theorem jgo (xs:List Int) (k:Nat) (h:k<xs.length):xs.drop k=xs.getD k 0::xs.drop (k+1):=by
 rw [vR h,gC,gD h];rfl
theorem jrU (h1:k<xs.length) (h2:k<ys.length):jrV (xs.drop k) (ys.drop k)=if xs.getD k 0<ys.getD k 0 then-1 else if ys.getD k 0<xs.getD k 0 then 1 else jrV (xs.drop (k+1)) (ys.drop (k+1)):=by
 rw [jgo xs k h1,jgo ys k h2];rfl
theorem sgn_ne {a b:Int} (h:(if a<b then (-1:Int) else if b<a then 1 else 0)≠0):(if a<b then (-1:Int) else if b<a then 1 else 0)=if a<b then-1 else if b<a then 1 else z:=by
 split
 ·rfl
 ·rename_i h1
  rw [if_neg h1] at h
  split
  ·rfl
  ·rename_i h2
   rw [if_neg h2] at h
   exact absurd rfl h
theorem sgn_eq {a b:Int} (h:(if a<b then (-1:Int) else if b<a then 1 else 0)=0):(if a<b then (-1:Int) else if b<a then 1 else z)=z:=by
 split
 ·rename_i h1
  rw [if_pos h1] at h
  cases h
 ·rename_i h1
  rw [if_neg h1] at h
  split
  ·rename_i h2
   rw [if_pos h2] at h
   cases h
  ·rfl
theorem jk1 (h1:k≤xs.length) (h2:k≤ys.length) (h:xs.length=k∨ys.length=k):jrV (xs.drop k) (ys.drop k)=if k<xs.length then 1 else if k<ys.length then-1 else 0:=by
 by_cases e:k<xs.length
 ·rw [if_pos e,jgo xs k e,(gS zO:ys.drop k=[])];rfl
 ·rw [if_neg e,(gS zO:xs.drop k=[])];by_cases e2:k<ys.length
  ·rw [if_pos e2,jgo ys k e2];rfl
  ·rw [if_neg e2,(gS zO:ys.drop k=[])];rfl
theorem f173_c (m:Md Tryz.prog B) (h:Hp) (x y:Int):FnC m 173 #[.int .i64 x,.int .i64 y] h fun v h'=>h'=h∧v= .int .i64 (if x<y then-1 else if y<x then 1 else 0):=by
 refine jae Tryz.func173 rfl rfl (l:=(.int .i64 x)::(.int .i64 y)::uu18) rfl ?_
 intro cf cs K hK
 refine Z7 ?_;refine D103 ?_
 rintro v rfl;refine Z6 ?_;refine D103 ?_
 rintro v rfl;refine Z22 ?_
 refine jak rfl zq (fun hc=>?_) (fun hc=>?_)
 ·refine Z7 ?_;refine jac (h) rfl Tryz.func173 rfl jaa ?_;refine Zs ?_
  exact E9
 ·refine Z8 ?_
  refine jaz rfl zq (fun hc=>?_) (fun hc=>?_);refine Z2 ?_
  rotate_left
  refine Z3 ?_
  all_goals
   refine Z5 ?_;refine jac (h) rfl Tryz.func173 rfl jaa ?_;refine Zs ?_
   exact E9
theorem f154_c (m:Md Tryz.prog B) (h:Hp) {c:Nat} (rd:RdS B h 1 (.slice p n c) n (jaq xs)) (hn:n≤1000000) {c2:Nat} (rd2:RdS B h 1 (.slice p2 n2 c2) n2 (jaq ys)):FnC m 154 #[.slice p n c,.slice p2 n2 c2] h fun v h'=>h'=h∧v= .int .i64 (jrV xs ys):=by
 have hl:=rd.ilen
 have hl2:=rd2.ilen
 refine jae Tryz.func154 rfl rfl (l:=(.slice p n c)::(.slice p2 n2 c2)::uu34) rfl ?_
 intro cf cs K hK
 refine Z12 ?_
 refine jaf (fun nn l h'=> ∃(k:Nat),nn=n-k∧(k≤n)∧(k≤n2)∧(jrV xs ys=jrV (xs.drop k) (ys.drop k))∧(∃U:Nat→Value,l=((.slice p n c)::(.slice p2 n2 c2)::vw7 U 2 ((.slice p n c)::(.int .i64 (n:Int))::(.int .i64 (k:Int))::vw24 U 12 [])))∧h=h') _ ⟨0,rfl,by omega,by omega,rfl,exU rfl,rfl⟩ ?_;rintro nn l h' ⟨k,rfl,hk,hk2,he,⟨U,rfl⟩,rfl⟩ hnext;refine Z2 ?_
 refine jak rfl zq (fun hc=>?_) (fun hc=>?_)
 ·refine Z9 ?_
  obtain ⟨rd_b,rd_o,rfl⟩:=rd.ptr zO
  refine D0 ?_;refine D42 ?_;refine Z9 ?_
  refine jbG rfl zq (fun hc=>?_) (fun hc=>?_)
  ·refine Z7 ?_;refine D128 ?_;refine Zs ?_
   exact ⟨rfl,by rw [he,jk1 zO zO zO,if_pos zO]⟩
  ·refine Z7 ?_
   obtain ⟨rd2_b,rd2_o,rfl⟩:=rd2.ptr zO
   refine D0 ?_;refine D117 ?_;refine Z6 ?_;refine jag (Post:=fun v=>v=_) rfl zq zK (fun H' hH=>f173_c m H' _ _) ?_
   rintro v rfl;refine Z5 ?_
   have hcd:=jrU (xs:=xs) (ys:=ys) (k:=k) zO zO
   refine Zs ?_
   refine jaP rfl zq (fun hc=>?_) (fun hc=>?_)
   ·refine Z8 ?_;refine D128 ?_;refine Zs ?_
    exact ⟨rfl,by rw [he,hcd];exact congrArg _ (sgn_ne hc)⟩
   ·have hcz:=hc
    refine Z8 ?_
    exact m.weak jaa (hnext _ _ _ zO ⟨k+1,rfl,by omega,by omega,by rw [he,hcd,sgn_eq hcz],exU rfl,rfl⟩)
 ·refine Z11 ?_
  refine jak rfl zq (fun hc=>?_) (fun hc=>?_)
  ·refine Z7 ?_;refine D128 ?_;refine Zs ?_
   exact ⟨rfl,by rw [he,jk1 zO zO zO,if_neg zO,if_pos zO]⟩
  ·refine Z8 ?_;refine D128 ?_;refine Zs ?_
   exact ⟨rfl,by rw [he,jk1 zO zO zO,if_neg zO,if_neg zO]⟩
def bitN (mm k:Nat):Nat:=(mm/2^k)%2
def jbR (mm k:Nat):List Int:=(jbk k).filter fun i=>decide (bitN mm i.toNat=1)
def w1 (o:Option Nat) (n:Nat):Nat:=match o with|none=>0|some s=>if s=2*n then 2 else 1
section
variable {m:Md P B} {S h h' H:Hp} {kd:Kd}
theorem jmT {x y:Operand} {w:Int} (a k:Nat) (ho:ops[i]?=some ⟨d,.binOp .quo t x y u,ty,pos,af,g⟩) (hw:Wt ops l g) [KHeap kd S h H] [ex:OpV l x (.int .i64 z)] [ey:OpV l y (.int .i64 w)] (hz:z=a) (hk:w=k) (h0:0<k) (ha:a≤10000000) [PutV l d (.int .i64 ((a/k:Nat):Int)) l'] (q:RegK m S ops r l' h C):RegK m S ops ((i,kd)::r) l h C:=
 RegK.rd (v:= .int .i64 ((a/k:Nat):Int)) ho hw (jaY ex.eq ey.eq zS (by
  subst hz
  subst hk
  have:(k:Int)≠0:=by omega
  have hle:=Nat.div_le_self a k
  have h64:jep ((a/k:Nat):Int):=by generalize a/k=q at hle⊢;unfold jep;omega
  simp only [binOp,Op.intDiv,if_neg this,←Int.ofNat_tdiv,jdK h64]
  rfl)) q
end
theorem f162_c (m:Md Tryz.prog B) (h:Hp) {c:Nat} (hl:xs.length=n) (hn:n≤100000) (lo hi f:Nat) (hlo:lo≤100000) (hb:f+hi≤n) (hh:HeapF xs f (lo+1) hi):FnC m 162 #[.slice (some ⟨bk,0,none⟩) n c,.int .i64 (lo:Int),.int .i64 (hi:Int),.int .i64 (f:Int)] (h++[jbl bk xs junk]) fun v h'=>v= .tuple [].toArray∧ ∃ys,h'=h++[jbl bk ys junk]∧Sw (f+lo) (f+hi) xs ys∧HeapF ys f lo hi:=by
 refine jae Tryz.func162 rfl rfl (l:=(.slice (some ⟨bk,0,none⟩) n c)::(.int .i64 (lo:Int))::(.int .i64 (hi:Int))::(.int .i64 (f:Int))::uu72) rfl ?_
 intro cf cs K hK
 refine Z6 ?_
 refine jaf (fun nn l h'=> ∃(root:Nat) (ys:List Int),nn=100000+hi-root∧(lo≤root)∧(root≤100000)∧(Sw (f+lo) (f+hi) xs ys)∧(HeapR ys f lo hi root)∧(∃U:Nat→Value,l=((.slice (some ⟨bk,0,none⟩) n c)::(.int .i64 (lo:Int))::(.int .i64 (hi:Int))::(.int .i64 (f:Int))::vw4 U 4 ((.int .i64 (root:Int))::vw67 U 9 [])))∧h++[jbl bk ys junk]=h') _ ⟨lo,xs,rfl,by omega,by omega,.refl _,HeapR.start hh,exU rfl,rfl⟩ ?_;rintro nn l h' ⟨root,ys,rfl,hr1,hr2,hsw,hre,⟨U,rfl⟩,rfl⟩ hnext;have hyl:=hsw.length
 refine Z4 ?_;refine D26 ?_;refine Z8 ?_
 refine jbG rfl zq (fun hc=>?_) (fun hc=>?_)
 ·refine Z3 ?_;refine jcJ rfl ?_;refine D122 ?_;refine Zs ?_
  first
   |exact E12
   |exact E13
 ·refine Z5 ?_;refine jan [Zp 0,Zp 1,Zp 2,Zp 3,Zp 4,Zp 5,Zp 6,Zp 7,Zp 8,Zp 9,Zp 11,Zp 12,Zp 13,Zp 14,Zp 15,Zp 16,Zr 10,Zr 17,Zk 18,Zp 19] zK zK (gE _) ?_;refine Z3 ?_
  refine jak rfl zq (fun hc=>?_) (fun hc=>?_)
  ·refine Z4 ?_;refine jo9 rfl rfl (by unfold jep;omega) ?_;refine D5 ?_;refine Z3 ?_;refine jo9 rfl rfl (by unfold jep;omega) ?_;refine jo9 rfl rfl (by unfold jep;omega) ?_;refine D5 ?_;refine jaI rfl rfl (jaC (f+(2*root+1)) zO zO) ?_;refine jaI rfl rfl (jaC (f+(2*root+2)) zO zO) ?_;refine D16 ?_
   rintro v (⟨hc,rfl⟩|⟨hc,rfl⟩);refine Z7 ?_
   obtain ⟨ch,hce,hch,hmax⟩: ∃ch:Nat,2*(root:Int)+1+1=(ch:Int)∧(ch=2*root+1∨ch=2*root+2)∧ ∀c,(c=2*root+1∨c=2*root+2)→c<hi→ys.getD (f+c) 0≤ys.getD (f+ch) 0:=⟨2*root+2,by omega,.inr rfl,fun c h1 h2=>by
    rcases h1 with h1|h1<;>rw [h1]<;>omega⟩
   rw [hce];refine Z2 ?_
   rotate_left
   refine Zs ?_
   obtain ⟨ch,hce,hch,hmax⟩: ∃ch:Nat,2*(root:Int)+1=(ch:Int)∧(ch=2*root+1∨ch=2*root+2)∧ ∀c,(c=2*root+1∨c=2*root+2)→c<hi→ys.getD (f+c) 0≤ys.getD (f+ch) 0:=⟨2*root+1,by omega,.inl rfl,fun c h1 h2=>by
    rcases h1 with h1|h1<;>rw [h1]<;>omega⟩
   rw [hce];refine Z4 ?_
   all_goals
    refine Z2 ?_;refine D45 ?_;refine Z4 ?_;refine D0 ?_;refine Z4 ?_;refine D0 ?_;refine D111 ?_;refine D112 ?_;refine D46 ?_
    rintro v (⟨hc,rfl⟩|⟨hc,rfl⟩)
    ·refine Z6 ?_;refine D24 ?_;refine Z12 ?_;refine D0 ?_;refine Z4 ?_;refine D0 ?_;refine D112 ?_;refine D111 ?_;refine D0 ?_
     haveI hs1:=setSeg_ints (xs:=ys) (junk:=junk) (v:=ys.getD (f+ch) 0) (i:=(f:Int)+(root:Int)) (k:=f+root) zO zO
     refine jmu ?_
     haveI hs2:=setSeg_ints (xs:=ys.set (f+root) (ys.getD (f+ch) 0)) (junk:=junk) (v:=ys.getD (f+root) 0) (i:=(f:Int)+(ch:Int)) (k:=f+ch) zO zN
     refine D9 ?_
     rw [jby];refine Z6 ?_
     exact E14
    ·refine Z5 ?_;refine D122 ?_;refine Zs ?_
     first
      |exact E12
      |exact E13
  ·obtain ⟨ch,hce,hch,hmax⟩: ∃ch:Nat,2*(root:Int)+1=(ch:Int)∧(ch=2*root+1∨ch=2*root+2)∧ ∀c,(c=2*root+1∨c=2*root+2)→c<hi→ys.getD (f+c) 0≤ys.getD (f+ch) 0:=⟨2*root+1,by omega,.inl rfl,fun c h1 h2=>by
    rw [show c=2*root+1 by omega];omega⟩
   rw [hce];refine Z21 ?_;refine D45 ?_;refine Z4 ?_;refine D0 ?_;refine Z4 ?_;refine D0 ?_;refine D111 ?_;refine D112 ?_;refine D46 ?_
   rintro v (⟨hc,rfl⟩|⟨hc,rfl⟩)
   ·refine Z6 ?_;refine D24 ?_;refine Z12 ?_;refine D0 ?_;refine Z4 ?_;refine D0 ?_;refine D112 ?_;refine D111 ?_;refine D0 ?_
    haveI hs1:=setSeg_ints (xs:=ys) (junk:=junk) (v:=ys.getD (f+ch) 0) (i:=(f:Int)+(root:Int)) (k:=f+root) zO zO
    refine jmu ?_
    haveI hs2:=setSeg_ints (xs:=ys.set (f+root) (ys.getD (f+ch) 0)) (junk:=junk) (v:=ys.getD (f+root) 0) (i:=(f:Int)+(ch:Int)) (k:=f+ch) zO zN
    refine D9 ?_
    rw [jby];refine Z6 ?_
    exact E14
   ·refine Z5 ?_;refine D122 ?_;refine Zs ?_
    first
     |exact E12
     |exact E13
theorem f126_c (m:Md Tryz.prog B) (h:Hp) {c:Nat} (hl:xs.length=n) (hn:n≤100000) (a b:Nat) (hab:a<b) (hb:b≤n):FnC m 126 #[.slice (some ⟨bk,0,none⟩) n c,.int .i64 (a:Int),.int .i64 (b:Int)] (h++[jbl bk xs junk]) fun v h'=>v= .tuple [].toArray∧ ∃ys,h'=h++[jbl bk ys junk]∧Sw a b xs ys∧SortR ys a b:=by
 refine jae Tryz.func126 rfl rfl (l:=(.slice (some ⟨bk,0,none⟩) n c)::(.int .i64 (a:Int))::(.int .i64 (b:Int))::uu53) rfl ?_
 intro cf cs K hK
 refine Z14 ?_
 obtain ⟨w,hwe⟩: ∃w:Nat,(b:Int)-(a:Int)=(w:Int):=⟨b-a,by omega⟩
 have hwn:w=b-a:=by omega
 rw [hwe];refine Z7 ?_;refine jmT (w-1) 2 rfl zq zO rfl zO zO ?_;refine Z3 ?_
 refine jaf (fun nn l h'=> ∃(j:Nat) (z:Int) (ys:List Int),nn=j+1∧(z=(j:Int)-1)∧(j≤100000)∧(Sw a b xs ys)∧(HeapF ys a j w)∧(∃U:Nat→Value,l=((.slice (some ⟨bk,0,none⟩) n c)::(.int .i64 (a:Int))::(.int .i64 (b:Int))::(U 3)::(U 4)::(U 5)::(.int .i64 (a:Int))::(.int .i64 0)::(.int .i64 (w:Int))::(.int .i64 z)::vw46 U 10 []))∧h++[jbl bk ys junk]=h') _ ⟨(w-1)/2+1,_,xs,rfl,by omega,by omega,.refl _,HeapF.empty zO,exU rfl,rfl⟩ ?_;rintro nn l h' ⟨j,z,ys,rfl,hz,hj,hsw,hhf,⟨U,rfl⟩,rfl⟩ hnext1;have hyl:=hsw.length
 refine Z4 ?_
 refine jbG rfl zq (fun hc=>?_) (fun hc=>?_)
 ·refine Z5 ?_
  obtain ⟨i,rfl⟩: ∃i:Nat,z=(i:Int):=⟨z.toNat,by omega⟩
  obtain rfl:j=i+1:=by omega
  refine Z5 ?_;refine jbt rfl zq zK (f162_c m h zO hn i w a zO zO hhf) ?_
  rintro v h' ⟨rfl,zs,rfl,hzw,hzf⟩;refine Z8 ?_
  exact m.weak jaa (hnext1 _ _ _ zO ⟨i,_,zs,rfl,by omega,by omega,hsw.trans (hzw.mono zO zO),hzf,exU rfl,rfl⟩)
 ·refine Z5 ?_
  obtain rfl:j=0:=by omega
  refine Z5 ?_
  refine jaf (fun nn l h'=> ∃(j:Nat) (z:Int) (us:List Int),nn=j+1∧(z=(j:Int)-1)∧(j≤w)∧(Sw a b xs us)∧(Pop us a b j)∧(∃U:Nat→Value,l=((.slice (some ⟨bk,0,none⟩) n c)::(.int .i64 (a:Int))::(.int .i64 (b:Int))::(U 3)::(U 4)::(U 5)::(.int .i64 (a:Int))::(.int .i64 0)::(U 8)::(U 9)::(.int .i64 z)::vw45 U 11 []))∧h++[jbl bk us junk]=h') _ ⟨w,_,ys,rfl,by omega,by omega,hsw,by rw [hwn];exact Pop.start (hwn▸hhf) zO,exU rfl,rfl⟩ ?_;rintro nn l h' ⟨j,z,us,rfl,hz2,hj2,hsw2,hpop,⟨U,rfl⟩,rfl⟩ hnext2;have hul:=hsw2.length
  refine Z4 ?_
  refine jbG rfl zq (fun hc=>?_) (fun hc=>?_)
  ·refine Z6 ?_
   obtain ⟨i,rfl⟩: ∃i:Nat,z=(i:Int):=⟨z.toNat,by omega⟩
   obtain rfl:j=i+1:=by omega
   refine D34 ?_;refine Z10 ?_;refine jow ?_;refine jaI rfl zq (jaC (a+i) zO zO) ?_;refine D77 ?_;refine D0 ?_
   haveI hs1:=setSeg_ints (xs:=us) (junk:=junk) (v:=us.getD (a+i) 0) (i:=(a:Int)) (k:=a) zO zO
   refine jmu ?_
   haveI hs2:=setSeg_ints (xs:=us.set (a) (us.getD (a+i) 0)) (junk:=junk) (v:=us.getD (a) 0) (i:=(a:Int)+(i:Int)) (k:=a+i) zO zN
   refine D9 ?_
   rw [jby];refine Z6 ?_;refine jbt rfl zq zK (f162_c m h (by rw [jcV];omega) hn 0 i a zO zO (hpop.1.cut zO)) ?_
   rintro v h' ⟨rfl,zs,rfl,hzw,hzf⟩;refine Z8 ?_
   exact m.weak jaa (hnext2 _ _ _ zO ⟨i,_,zs,rfl,by omega,by omega,(Sw.step a (a+i) ⟨by omega,by omega⟩ ⟨by omega,by omega⟩ hsw2).trans (hzw.mono zO zO),hpop.step zO zO hzw hzf,exU rfl,rfl⟩)
  ·refine Z3 ?_;refine jcJ rfl ?_;refine jac (h++[jbl bk us junk]) rfl Tryz.func126 rfl jaa ?_;refine Zs ?_
   obtain rfl:j=0:=by omega
   exact ⟨rfl,us,rfl,hsw2,hpop.2.1⟩
theorem f129_c (m:Md Tryz.prog B) (h:Hp) {c:Nat} (hl:xs.length=n) (hn:n≤100000) (a b:Nat) (hab:a<b) (hb:b≤n):FnC m 129 #[.slice (some ⟨bk,0,none⟩) n c,.int .i64 (a:Int),.int .i64 (b:Int)] (h++[jbl bk xs junk]) fun v h'=>v= .tuple [].toArray∧ ∃ys,h'=h++[jbl bk ys junk]∧Sw a b xs ys:=by
 refine jae Tryz.func129 rfl rfl (l:=(.slice (some ⟨bk,0,none⟩) n c)::(.int .i64 (a:Int))::(.int .i64 (b:Int))::uu29) rfl ?_
 intro cf cs K hK
 refine Z12 ?_
 refine jaf (fun nn l h'=> ∃(i j:Nat) (z:Int) (ys:List Int),nn=j+1∧(z=(j:Int)-1)∧(a≤i)∧(j≤b)∧(Sw a b xs ys)∧(∃U:Nat→Value,l=((.slice (some ⟨bk,0,none⟩) n c)::(.int .i64 (a:Int))::(.int .i64 (b:Int))::(U 3)::(U 4)::(U 5)::(.int .i64 (i:Int))::(.int .i64 z)::vw24 U 8 []))∧h++[jbl bk ys junk]=h') _ ⟨a,b,_,xs,rfl,by omega,by omega,by omega,.refl _,exU rfl,rfl⟩ ?_;rintro nn l h' ⟨i,j,z,ys,rfl,hz,hi1,hj1,hsw,⟨U,rfl⟩,rfl⟩ hnext;have hyl:=hsw.length
 refine Z5 ?_
 refine jak rfl zq (fun hc=>?_) (fun hc=>?_)
 ·refine Z5 ?_
  obtain ⟨k,rfl⟩: ∃k:Nat,z=(k:Int):=⟨z.toNat,by omega⟩
  refine D1 ?_;refine Z6 ?_;refine jow ?_;refine jaI rfl zq (jaC (k) zO zO) ?_;refine jaI rfl zq (jaC (i) zO zO) ?_;refine D0 ?_
  haveI hs1:=setSeg_ints (xs:=ys) (junk:=junk) (v:=ys.getD (k) 0) (i:=(i:Int)) (k:=i) zO zO
  refine jmu ?_
  haveI hs2:=setSeg_ints (xs:=ys.set (i) (ys.getD (k) 0)) (junk:=junk) (v:=ys.getD (i) 0) (i:=(k:Int)) (k:=k) zO zN
  refine D9 ?_
  rw [jby];refine Z13 ?_
  exact m.weak jaa (hnext _ _ _ zO ⟨i+1,j-1,_,jbj ys i k,rfl,by omega,by omega,by omega,.step i k ⟨by omega,by omega⟩ ⟨by omega,by omega⟩ hsw,exU rfl,rfl⟩)
 ·refine Z3 ?_;refine jcJ rfl ?_;refine jac (h++[jbl bk ys junk]) rfl Tryz.func129 rfl jaa ?_;refine Zs ?_
  exact ⟨rfl,ys,rfl,hsw⟩
theorem jcu {m:Md P B} (C0:List Value→Hp→Prop) {b:Frame} {ds:List Deferred} {k:List Item} {cs:List Frame} {K:Goroutine→Hp→Prop} {id:Nat} (r:List (Nat×Kd)) (hm:(P.follows .mixedOrders||!Region.departs ops)=true)
  (hok:(ordOk ops r&&jf4 P ops r)=true) (hS:S.Sublist h) (t:RegK m S ops r l h C0) (n: ∀l' h',C0 l' h'→m.R K (Gr b l' ds k cs) h'):m.R K (Gr b l ds (.code (.region id ops true)::k) cs) h:=
 jan r hm hok hS (RegK.mono (fun l' h' x=>n l' h' x) t)
theorem SortR.snoc {ys:List Int} {a i:Nat} (h:SortR ys a i) (ha:a<i) (hl:ys.getD (i-1) 0≤ys.getD i 0):SortR ys a (i+1):=fun p q h1 h2 h3=>by
 by_cases e:q=i
 ·subst e
  by_cases e2:p=q-1
  ·subst e2
   exact hl
  ·have:=h p (q-1) h1 zO zO;omega
 ·exact h p q h1 h2 zO
theorem sw_getD {pv:Nat} (h1:a<xs.length) (h2:pv<xs.length):(jbj xs a pv).getD a 0=xs.getD pv 0:=by
 rw [jbd h1 h2];by_cases e:a=pv
 ·rw [if_pos e,e]
 ·rw [if_neg e,if_pos rfl]
theorem f133_c (m:Md Tryz.prog B) (h:Hp) {c:Nat} (hl:xs.length=n) (hn:n≤100000) (a b pv:Nat) (ha:a≤pv) (hp:pv<b) (hb:b≤n):FnC m 133 #[.slice (some ⟨bk,0,none⟩) n c,.int .i64 (a:Int),.int .i64 (b:Int),.int .i64 (pv:Int)] (h++[jbl bk xs junk]) fun v h'=> ∃(q:Nat) (t:Bool) (ys:List Int),v= .tuple [.int .i64 (q:Int),.bool t].toArray∧h'=h++[jbl bk ys junk]∧Sw a b xs ys∧a≤q∧q<b∧Cut ys a b q:=by
 refine jae Tryz.func133 rfl rfl (l:=(.slice (some ⟨bk,0,none⟩) n c)::(.int .i64 (a:Int))::(.int .i64 (b:Int))::(.int .i64 (pv:Int))::uu164) rfl ?_
 intro cf cs K hK
 refine Z6 ?_;refine D1 ?_;refine Z6 ?_;refine jow ?_;refine jaI rfl zq (jaC (pv) zO zO) ?_;refine D77 ?_;refine D0 ?_
 haveI hs1:=setSeg_ints (xs:=xs) (junk:=junk) (v:=xs.getD (pv) 0) (i:=(a:Int)) (k:=a) zO zO
 refine jmu ?_
 haveI hs2:=setSeg_ints (xs:=xs.set (a) (xs.getD (pv) 0)) (junk:=junk) (v:=xs.getD (a) 0) (i:=(pv:Int)) (k:=pv) zO zN
 refine D9 ?_
 rw [jby];refine Z2 ?_
 have hsw0:Sw a b xs (jbj xs a pv):=Sw.one a pv ⟨by omega,by omega⟩ ⟨by omega,by omega⟩
 have hyl:=hsw0.length
 generalize jbj xs a pv=y0 at hsw0 hyl⊢
 refine Z10 ?_
 refine jaf (fun nn l h'=> ∃(i:Nat) (z:Int),nn=b-i∧(z=(b:Int)-1)∧(a<i)∧(i≤b)∧(∀k,a<k→k<i→y0.getD k 0<y0.getD a 0)∧(∃U:Nat→Value,l=((.slice (some ⟨bk,0,none⟩) n c)::(.int .i64 (a:Int))::(.int .i64 (b:Int))::(.int .i64 (pv:Int))::vw6 U 4 ((.int .i64 (i:Int))::(.int .i64 z)::jpM U 12 [])))∧h++[jbl bk y0 junk]=h') _ ⟨a+1,(b:Int)-1,rfl,by omega,by omega,by omega,fun k h1 h2=>by omega,exU rfl,rfl⟩ ?_;rintro nn l h' ⟨i,z,rfl,hz,hi1,hi2,hp1,⟨U,rfl⟩,rfl⟩ hnext1;refine Z2 ?_
 refine jcu (fun l' h'=> ∃t:Bool,(∃U:Nat→Value,l'=((.slice (some ⟨bk,0,none⟩) n c)::(.int .i64 (a:Int))::(.int .i64 (b:Int))::(.int .i64 (pv:Int))::vw6 U 4 ((.int .i64 (i:Int))::(.int .i64 z)::vw31 U 12 ((.bool t)::jmy U 44 []))))∧h'=h++[jbl bk y0 junk]∧(t=true↔i<b∧y0.getD i 0<y0.getD a 0)) [Zp 0,Zp 1,Zp 2,Zp 3,Zp 4,Zp 5,Zp 6,Zp 8,Zp 9,Zp 10,Zr 7,Zr 11,Zk 12,Zp 13] zK zK (gE _) ?_ ?_
 ·refine Z2 ?_
  refine jbK rfl zq (fun hc=>?_) (fun hc=>?_)
  ·refine Z3 ?_;refine D5 ?_;refine Z2 ?_;refine D5 ?_;refine jaI rfl rfl (jaC (i) zO zO) ?_;refine D75 ?_;refine D16 ?_
   rintro v (⟨hc,rfl⟩|⟨hc,rfl⟩);all_goals
    refine Z3 ?_
    exact E15
  ·refine Z12 ?_
   exact E15
 ·rintro l' h' ⟨t,⟨U,rfl⟩,rfl,ht⟩;cases t
  ·have hcf: ¬(i<b∧y0.getD i 0<y0.getD a 0):=fun e=>absurd (ht.2 e) zA
   refine Z4 ?_
   have hs1:=hcf
   refine jaf (fun nn l h'=> ∃(j:Nat) (z:Int),nn=j+1∧(z=(j:Int)-1)∧(i≤j)∧(j≤b)∧(∀k,j≤k→k<b→y0.getD a 0≤y0.getD k 0)∧(∃U:Nat→Value,l=((.slice (some ⟨bk,0,none⟩) n c)::(.int .i64 (a:Int))::(.int .i64 (b:Int))::(.int .i64 (pv:Int))::vw6 U 4 ((.int .i64 (i:Int))::(.int .i64 z)::jpM U 12 [])))∧h++[jbl bk y0 junk]=h') _ ⟨b,z,rfl,by omega,by omega,by omega,fun k h1 h2=>by omega,exU rfl,rfl⟩ ?_;rintro nn l h' ⟨j,z,rfl,hz2,hj1,hj2,hp2,⟨U,rfl⟩,rfl⟩ hnext2;refine Z2 ?_
   refine jcu (fun l' h'=> ∃t:Bool,(∃U:Nat→Value,l'=((.slice (some ⟨bk,0,none⟩) n c)::(.int .i64 (a:Int))::(.int .i64 (b:Int))::(.int .i64 (pv:Int))::vw6 U 4 ((.int .i64 (i:Int))::(.int .i64 z)::vw48 U 12 ((.bool t)::vw107 U 61 []))))∧h'=h++[jbl bk y0 junk]∧(t=true↔i<j∧ ¬y0.getD (j-1) 0<y0.getD a 0)) [Zp 0,Zp 1,Zp 2,Zp 3,Zp 4,Zp 5,Zp 6,Zp 8,Zp 9,Zp 10,Zr 7,Zr 11,Zk 12,Zp 13,Zp 14] zK zK (gE _) ?_ ?_
   ·refine Z2 ?_
    refine jbK rfl zq (fun hc=>?_) (fun hc=>?_)
    ·refine Z3 ?_;refine D5 ?_;refine Z2 ?_;refine D5 ?_;refine jaI rfl rfl (jaC (j-1) zO zO) ?_;refine D75 ?_;refine D16 ?_
     rintro v (⟨hc,rfl⟩|⟨hc,rfl⟩);refine jpD ?_
     rotate_left
     refine D135 ?_
     all_goals
      refine Z2 ?_
      exact E15
    ·refine Z13 ?_
     exact E15
   ·rintro l' h' ⟨t,⟨U,rfl⟩,rfl,ht⟩;cases t
    ·have hcf: ¬(i<j∧ ¬y0.getD (j-1) 0<y0.getD a 0):=fun e=>absurd (ht.2 e) zA
     refine Z4 ?_
     have hs2:=hcf
     have hpt:Part y0 a b i (j-1):=⟨hp1,fun k h1 h2=>hp2 k zO h2⟩
     refine Z3 ?_
     refine jaz rfl zq (fun hc=>?_) (fun hc=>?_)
     ·refine Z3 ?_;refine D1 ?_;refine Z6 ?_;refine jow ?_;refine D77 ?_;refine D93 ?_;refine D0 ?_
      haveI hs1:=setSeg_ints (xs:=y0) (junk:=junk) (v:=y0.getD (a) 0) (i:=z) (k:=j-1) zO zO
      refine jmu ?_
      haveI hs2:=setSeg_ints (xs:=y0.set (j-1) (y0.getD (a) 0)) (junk:=junk) (v:=y0.getD (j-1) 0) (i:=(a:Int)) (k:=a) zO zN
      refine D9 ?_
      rw [jby];refine Z8 ?_;refine jac (h++[jbl bk (jbj y0 (j-1) a) junk]) rfl Tryz.func133 rfl jaa ?_;refine Zs ?_
      exact ⟨j-1,true,_,by rw [hz2,show (j:Int)-1=((j-1:Nat):Int) by omega],rfl,.step (j-1) a ⟨by omega,by omega⟩ ⟨by omega,by omega⟩ hsw0,by omega,by omega,hpt.cut zO zO zO zO⟩
     ·refine Z4 ?_
      have hne:i≠j-1:=fun e=>by rw [e] at hs1;omega
      refine D1 ?_;refine Z6 ?_;refine jow ?_;refine D93 ?_;refine jaI rfl zq (jaC (i) zO zO) ?_;refine D0 ?_
      haveI hs1:=setSeg_ints (xs:=y0) (junk:=junk) (v:=y0.getD (j-1) 0) (i:=(i:Int)) (k:=i) zO zO
      refine jmu ?_
      haveI hs2:=setSeg_ints (xs:=y0.set (i) (y0.getD (j-1) 0)) (junk:=junk) (v:=y0.getD (i) 0) (i:=z) (k:=j-1) zO zN
      refine D9 ?_
      rw [jby];refine Z15 ?_
      refine jaf (fun nn l h'=> ∃(i3 j3:Nat) (z3:Int) (ys:List Int),nn=j3-i3∧(z3=(j3:Int)-1)∧(a<i3)∧(i3≤j3)∧(j3≤b)∧(Sw a b xs ys)∧(Part ys a b i3 (j3-1))∧(∃U:Nat→Value,l=((.slice (some ⟨bk,0,none⟩) n c)::(.int .i64 (a:Int))::(.int .i64 (b:Int))::(.int .i64 (pv:Int))::vw6 U 4 ((.int .i64 (i3:Int))::(.int .i64 z3)::jpM U 12 [])))∧h++[jbl bk ys junk]=h') _ ⟨i+1,j-1,z-1,jbj y0 i (j-1),rfl,by omega,by omega,by omega,by omega,.step i (j-1) ⟨by omega,by omega⟩ ⟨by omega,by omega⟩ hsw0,hpt.swap zO zO zO zO zO zO,exU rfl,rfl⟩ ?_;rintro nn l h' ⟨i3,j3,z3,ys,rfl,hz3,hi3,hij3,hjb3,hsw3,hpt3,⟨U,rfl⟩,rfl⟩ hnext3;have hyl3:=hsw3.length
      refine Z3 ?_
      refine jaf (fun nn l h'=> ∃(i4:Nat),nn=j3-i4∧(i3≤i4)∧(i4≤j3)∧(∀k,a<k→k<i4→ys.getD k 0<ys.getD a 0)∧(∃U:Nat→Value,l=((.slice (some ⟨bk,0,none⟩) n c)::(.int .i64 (a:Int))::(.int .i64 (b:Int))::(.int .i64 (pv:Int))::vw6 U 4 ((.int .i64 (i4:Int))::(.int .i64 z3)::jpM U 12 [])))∧h++[jbl bk ys junk]=h') _ ⟨i3,rfl,by omega,by omega,hpt3.1,exU rfl,rfl⟩ ?_;rintro nn l h' ⟨i4,rfl,hi4,hij4,hp4,⟨U,rfl⟩,rfl⟩ hnext4;refine Z2 ?_
      refine jcu (fun l' h'=> ∃t:Bool,(∃U:Nat→Value,l'=((.slice (some ⟨bk,0,none⟩) n c)::(.int .i64 (a:Int))::(.int .i64 (b:Int))::(.int .i64 (pv:Int))::vw6 U 4 ((.int .i64 (i4:Int))::(.int .i64 z3)::vw100 U 12 ((.bool t)::vw55 U 113 []))))∧h'=h++[jbl bk ys junk]∧(t=true↔i4<j3∧ys.getD i4 0<ys.getD a 0)) [Zp 0,Zp 1,Zp 2,Zp 3,Zp 4,Zp 5,Zp 6,Zp 8,Zp 9,Zp 10,Zr 7,Zr 11,Zk 12,Zp 13] zK zK (gE _) ?_ ?_
      ·refine Z2 ?_
       refine jbK rfl zq (fun hc=>?_) (fun hc=>?_)
       ·refine Z3 ?_;refine D5 ?_;refine Z2 ?_;refine D5 ?_;refine jaI rfl rfl (jaC (i4) zO zO) ?_;refine D75 ?_;refine D16 ?_
        rintro v (⟨hc,rfl⟩|⟨hc,rfl⟩);all_goals
         refine Z3 ?_
         exact E15
       ·refine Z12 ?_
        exact E15
      ·rintro l' h' ⟨t,⟨U,rfl⟩,rfl,ht⟩;cases t
       ·have hcf: ¬(i4<j3∧ys.getD i4 0<ys.getD a 0):=fun e=>absurd (ht.2 e) zA
        refine Z4 ?_
        have hs4:=hcf
        refine jaf (fun nn l h'=> ∃(j5:Nat) (z5:Int),nn=j5+1∧(z5=(j5:Int)-1)∧(i4≤j5)∧(j5≤j3)∧(∀k,j5≤k→k<b→ys.getD a 0≤ys.getD k 0)∧(∃U:Nat→Value,l=((.slice (some ⟨bk,0,none⟩) n c)::(.int .i64 (a:Int))::(.int .i64 (b:Int))::(.int .i64 (pv:Int))::vw6 U 4 ((.int .i64 (i4:Int))::(.int .i64 z5)::jpM U 12 [])))∧h++[jbl bk ys junk]=h') _ ⟨j3,z3,rfl,by omega,by omega,by omega,fun k h1 h2=>hpt3.2 k zO h2,exU rfl,rfl⟩ ?_;rintro nn l h' ⟨j5,z5,rfl,hz5,hj5,hjj5,hp5,⟨U,rfl⟩,rfl⟩ hnext5;refine Z2 ?_
        refine jcu (fun l' h'=> ∃t:Bool,(∃U:Nat→Value,l'=((.slice (some ⟨bk,0,none⟩) n c)::(.int .i64 (a:Int))::(.int .i64 (b:Int))::(.int .i64 (pv:Int))::vw6 U 4 ((.int .i64 (i4:Int))::(.int .i64 z5)::vw117 U 12 ((.bool t)::vw38 U 130 []))))∧h'=h++[jbl bk ys junk]∧(t=true↔i4<j5∧ ¬ys.getD (j5-1) 0<ys.getD a 0)) [Zp 0,Zp 1,Zp 2,Zp 3,Zp 4,Zp 5,Zp 6,Zp 8,Zp 9,Zp 10,Zr 7,Zr 11,Zk 12,Zp 13,Zp 14] zK zK (gE _) ?_ ?_
        ·refine Z2 ?_
         refine jbK rfl zq (fun hc=>?_) (fun hc=>?_)
         ·refine Z3 ?_;refine D5 ?_;refine Z2 ?_;refine D5 ?_;refine jaI rfl rfl (jaC (j5-1) zO zO) ?_;refine D75 ?_;refine D16 ?_
          rintro v (⟨hc,rfl⟩|⟨hc,rfl⟩);refine jpD ?_
          rotate_left
          refine D135 ?_
          all_goals
           refine Z2 ?_
           exact E15
         ·refine Z13 ?_
          exact E15
        ·rintro l' h' ⟨t,⟨U,rfl⟩,rfl,ht⟩;cases t
         ·have hcf: ¬(i4<j5∧ ¬ys.getD (j5-1) 0<ys.getD a 0):=fun e=>absurd (ht.2 e) zA
          refine Z4 ?_
          have hs5:=hcf
          have hpt5:Part ys a b i4 (j5-1):=⟨hp4,fun k h1 h2=>hp5 k zO h2⟩
          refine Z3 ?_
          refine jaz rfl zq (fun hc=>?_) (fun hc=>?_)
          ·refine Z4 ?_;refine D1 ?_;refine Z6 ?_;refine jow ?_;refine D77 ?_;refine jaI rfl zq (jaC (j5-1) zO zO) ?_;refine D0 ?_
           haveI hs1:=setSeg_ints (xs:=ys) (junk:=junk) (v:=ys.getD (a) 0) (i:=z5) (k:=j5-1) zO zO
           refine jmu ?_
           haveI hs2:=setSeg_ints (xs:=ys.set (j5-1) (ys.getD (a) 0)) (junk:=junk) (v:=ys.getD (j5-1) 0) (i:=(a:Int)) (k:=a) zO zN
           refine D9 ?_
           rw [jby];refine Z8 ?_;refine jac (h++[jbl bk (jbj ys (j5-1) a) junk]) rfl Tryz.func133 rfl jaa ?_;refine Zs ?_
           exact ⟨j5-1,false,_,by rw [hz5,show (j5:Int)-1=((j5-1:Nat):Int) by omega],rfl,.step (j5-1) a ⟨by omega,by omega⟩ ⟨by omega,by omega⟩ hsw3,by omega,by omega,hpt5.cut zO zO zO zO⟩
          ·refine Z4 ?_
           have hne5:i4≠j5-1:=fun e=>by rw [e] at hs4;omega
           refine D1 ?_;refine Z6 ?_;refine jow ?_;refine jaI rfl zq (jaC (j5-1) zO zO) ?_;refine jaI rfl zq (jaC (i4) zO zO) ?_;refine D0 ?_
           haveI hs1:=setSeg_ints (xs:=ys) (junk:=junk) (v:=ys.getD (j5-1) 0) (i:=(i4:Int)) (k:=i4) zO zO
           refine jmu ?_
           haveI hs2:=setSeg_ints (xs:=ys.set (i4) (ys.getD (j5-1) 0)) (junk:=junk) (v:=ys.getD (i4) 0) (i:=z5) (k:=j5-1) zO zN
           refine D9 ?_
           rw [jby];refine Z13 ?_
           exact m.weak jaa (hnext3 _ _ _ zO ⟨i4+1,j5-1,z5-1,jbj ys i4 (j5-1),rfl,by omega,by omega,by omega,by omega,.step i4 (j5-1) ⟨by omega,by omega⟩ ⟨by omega,by omega⟩ hsw3,hpt5.swap zO zO zO zO zO zO,exU rfl,rfl⟩)
         ·have hct:=ht.1 rfl
          refine Z9 ?_
          exact m.weak jaa (hnext5 _ _ _ zO ⟨j5-1,z5-1,rfl,by omega,by omega,by omega,fun k h1 h2=>by
           by_cases e:k=j5-1
           ·subst e
            omega
           ·exact hp5 k zO h2,exU rfl,rfl⟩)
       ·have hct:=ht.1 rfl
        refine Z9 ?_
        exact m.weak jaa (hnext4 _ _ _ zO ⟨i4+1,rfl,by omega,by omega,fun k h1 h2=>by
         by_cases e:k=i4
         ·subst e
          exact hct.2
         ·exact hp4 k h1 zO,exU rfl,rfl⟩)
    ·have hct:=ht.1 rfl
     refine Z9 ?_
     exact m.weak jaa (hnext2 _ _ _ zO ⟨j-1,z-1,rfl,by omega,by omega,by omega,fun k h1 h2=>by
      by_cases e:k=j-1
      ·subst e
       omega
      ·exact hp2 k zO h2,exU rfl,rfl⟩)
  ·have hct:=ht.1 rfl
   refine Z9 ?_
   exact m.weak jaa (hnext1 _ _ _ zO ⟨i+1,z,rfl,by omega,by omega,by omega,fun k h1 h2=>by
    by_cases e:k=i
    ·subst e
     exact hct.2
    ·exact hp1 k h1 zO,exU rfl,rfl⟩)
theorem f132_c (m:Md Tryz.prog B) (h:Hp) {c:Nat} (hl:xs.length=n) (hn:n≤100000) (a b pv:Nat) (ha:a≤pv) (hp:pv<b) (hb:b≤n) (hmin: ∀k,a≤k→k<b→xs.getD pv 0≤xs.getD k 0):FnC m 132 #[.slice (some ⟨bk,0,none⟩) n c,.int .i64 (a:Int),.int .i64 (b:Int),.int .i64 (pv:Int)] (h++[jbl bk xs junk]) fun v h'=> ∃(q:Nat) (ys:List Int),v= .int .i64 (q:Int)∧h'=h++[jbl bk ys junk]∧Sw a b xs ys∧a<q∧q≤b∧SortR ys a q∧ ∀p k,a≤p→p<q→q≤k→k<b→ys.getD p 0≤ys.getD k 0:=by
 refine jae Tryz.func132 rfl rfl (l:=(.slice (some ⟨bk,0,none⟩) n c)::(.int .i64 (a:Int))::(.int .i64 (b:Int))::(.int .i64 (pv:Int))::uu80) rfl ?_
 intro cf cs K hK
 refine Z5 ?_;refine D1 ?_;refine Z6 ?_;refine jow ?_;refine jaI rfl zq (jaC (pv) zO zO) ?_;refine D77 ?_;refine D0 ?_
 haveI hs1:=setSeg_ints (xs:=xs) (junk:=junk) (v:=xs.getD (pv) 0) (i:=(a:Int)) (k:=a) zO zO
 refine jmu ?_
 haveI hs2:=setSeg_ints (xs:=xs.set (a) (xs.getD (pv) 0)) (junk:=junk) (v:=xs.getD (a) 0) (i:=(pv:Int)) (k:=pv) zO zN
 refine D9 ?_
 rw [jby];refine Z2 ?_
 have hsw0:Sw a b xs (jbj xs a pv):=Sw.one a pv ⟨by omega,by omega⟩ ⟨by omega,by omega⟩
 have hyl:=hsw0.length
 have hpa:=sw_getD (xs:=xs) (a:=a) (pv:=pv) zO zO
 generalize jbj xs a pv=y0 at hsw0 hyl hpa⊢
 refine Z10 ?_
 refine jaf (fun nn l h'=> ∃(i3 j3:Nat) (z3:Int) (ys:List Int),nn=j3-i3∧(z3=(j3:Int)-1)∧(a<i3)∧(i3≤j3)∧(j3≤b)∧(Sw a b xs ys)∧(Pare ys a b i3 (j3-1))∧(ys.getD a 0=xs.getD pv 0)∧(∃U:Nat→Value,l=((.slice (some ⟨bk,0,none⟩) n c)::(.int .i64 (a:Int))::(.int .i64 (b:Int))::(.int .i64 (pv:Int))::vw5 U 4 ((.int .i64 (i3:Int))::(.int .i64 z3)::vw73 U 11 [])))∧h++[jbl bk ys junk]=h') _ ⟨a+1,b,(b:Int)-1,y0,rfl,by omega,by omega,by omega,by omega,hsw0,Pare.start _ a b,hpa,exU rfl,rfl⟩ ?_;rintro nn l h' ⟨i3,j3,z3,ys,rfl,hz3,hi3,hij3,hjb3,hsw3,hpt3,hpa3,⟨U,rfl⟩,rfl⟩ hnext3;have hyl3:=hsw3.length
 refine Z3 ?_
 refine jaf (fun nn l h'=> ∃(i4:Nat),nn=j3-i4∧(i3≤i4)∧(i4≤j3)∧(∀k,a≤k→k<i4→ys.getD k 0≤ys.getD a 0)∧(∃U:Nat→Value,l=((.slice (some ⟨bk,0,none⟩) n c)::(.int .i64 (a:Int))::(.int .i64 (b:Int))::(.int .i64 (pv:Int))::vw5 U 4 ((.int .i64 (i4:Int))::(.int .i64 z3)::vw73 U 11 [])))∧h++[jbl bk ys junk]=h') _ ⟨i3,rfl,by omega,by omega,hpt3.1,exU rfl,rfl⟩ ?_;rintro nn l h' ⟨i4,rfl,hi4,hij4,hp4,⟨U,rfl⟩,rfl⟩ hnext4;refine Z2 ?_
 refine jcu (fun l' h'=> ∃t:Bool,(∃U:Nat→Value,l'=((.slice (some ⟨bk,0,none⟩) n c)::(.int .i64 (a:Int))::(.int .i64 (b:Int))::(.int .i64 (pv:Int))::vw5 U 4 ((.int .i64 (i4:Int))::(.int .i64 z3)::vw32 U 11 ((.bool t)::vw40 U 44 []))))∧h'=h++[jbl bk ys junk]∧(t=true↔i4<j3∧ ¬ys.getD a 0<ys.getD i4 0)) [Zp 0,Zp 1,Zp 2,Zp 3,Zp 4,Zp 5,Zp 6,Zp 8,Zp 9,Zp 10,Zr 7,Zr 11,Zk 12,Zp 13,Zp 14] zK zK (gE _) ?_ ?_
 ·refine Z2 ?_
  refine jbK rfl zq (fun hc=>?_) (fun hc=>?_)
  ·refine Z3 ?_;refine D5 ?_;refine Z2 ?_;refine D5 ?_;refine D75 ?_;refine jaI rfl rfl (jaC (i4) zO zO) ?_;refine D16 ?_
   rintro v (⟨hc,rfl⟩|⟨hc,rfl⟩);refine jpD ?_
   rotate_left
   refine D135 ?_
   all_goals
    refine Z2 ?_
    exact E15
  ·refine Z13 ?_
   exact E15
 ·rintro l' h' ⟨t,⟨U,rfl⟩,rfl,ht⟩;cases t
  ·have hcf: ¬(i4<j3∧ ¬ys.getD a 0<ys.getD i4 0):=fun e=>absurd (ht.2 e) zA
   refine Z4 ?_
   have hs4:=hcf
   refine jaf (fun nn l h'=> ∃(j5:Nat) (z5:Int),nn=j5+1∧(z5=(j5:Int)-1)∧(i4≤j5)∧(j5≤j3)∧(∀k,j5≤k→k<b→ys.getD a 0<ys.getD k 0)∧(∃U:Nat→Value,l=((.slice (some ⟨bk,0,none⟩) n c)::(.int .i64 (a:Int))::(.int .i64 (b:Int))::(.int .i64 (pv:Int))::vw5 U 4 ((.int .i64 (i4:Int))::(.int .i64 z5)::vw73 U 11 [])))∧h++[jbl bk ys junk]=h') _ ⟨j3,z3,rfl,by omega,by omega,by omega,fun k h1 h2=>hpt3.2 k zO h2,exU rfl,rfl⟩ ?_;rintro nn l h' ⟨j5,z5,rfl,hz5,hj5,hjj5,hp5,⟨U,rfl⟩,rfl⟩ hnext5;refine Z2 ?_
   refine jcu (fun l' h'=> ∃t:Bool,(∃U:Nat→Value,l'=((.slice (some ⟨bk,0,none⟩) n c)::(.int .i64 (a:Int))::(.int .i64 (b:Int))::(.int .i64 (pv:Int))::vw5 U 4 ((.int .i64 (i4:Int))::(.int .i64 z5)::vw48 U 11 ((.bool t)::vw24 U 60 []))))∧h'=h++[jbl bk ys junk]∧(t=true↔i4<j5∧ys.getD a 0<ys.getD (j5-1) 0)) [Zp 0,Zp 1,Zp 2,Zp 3,Zp 4,Zp 5,Zp 6,Zp 8,Zp 9,Zp 10,Zr 7,Zr 11,Zk 12,Zp 13] zK zK (gE _) ?_ ?_
   ·refine Z2 ?_
    refine jbK rfl zq (fun hc=>?_) (fun hc=>?_)
    ·refine Z3 ?_;refine D5 ?_;refine Z2 ?_;refine D5 ?_;refine D75 ?_;refine jaI rfl rfl (jaC (j5-1) zO zO) ?_;refine D16 ?_
     rintro v (⟨hc,rfl⟩|⟨hc,rfl⟩);all_goals
      refine Z3 ?_
      exact E15
    ·refine Z12 ?_
     exact E15
   ·rintro l' h' ⟨t,⟨U,rfl⟩,rfl,ht⟩;cases t
    ·have hcf: ¬(i4<j5∧ys.getD a 0<ys.getD (j5-1) 0):=fun e=>absurd (ht.2 e) zA
     refine Z4 ?_
     have hs5:=hcf
     have hpt5:Pare ys a b i4 (j5-1):=⟨hp4,fun k h1 h2=>hp5 k zO h2⟩
     refine Z3 ?_
     refine jaz rfl zq (fun hc=>?_) (fun hc=>?_)
     ·refine Z9 ?_;refine jac (h++[jbl bk ys junk]) rfl Tryz.func132 rfl jaa ?_;refine Zs ?_
      have hall:=hsw3.all (p:=fun v=>xs.getD pv 0≤v) zO hmin
      have hij5:i4=j5:=by omega
      exact ⟨i4,ys,rfl,rfl,hsw3,by omega,by omega,fun p q h1 h2 h3=>by have:=hp4 p h1 zO;have:=hall q zO zO;omega,fun p k h1 h2 h3 h4=>by have:=hp4 p h1 h2;have:=hp5 k zO h4;omega⟩
     ·refine Z4 ?_
      have hne5:i4≠j5-1:=fun e=>by rw [e] at hs4;omega
      refine D1 ?_;refine Z6 ?_;refine jow ?_;refine jaI rfl zq (jaC (j5-1) zO zO) ?_;refine jaI rfl zq (jaC (i4) zO zO) ?_;refine D0 ?_
      haveI hs1:=setSeg_ints (xs:=ys) (junk:=junk) (v:=ys.getD (j5-1) 0) (i:=(i4:Int)) (k:=i4) zO zO
      refine jmu ?_
      haveI hs2:=setSeg_ints (xs:=ys.set (i4) (ys.getD (j5-1) 0)) (junk:=junk) (v:=ys.getD (i4) 0) (i:=z5) (k:=j5-1) zO zN
      refine D9 ?_
      rw [jby];refine Z13 ?_
      exact m.weak jaa (hnext3 _ _ _ zO ⟨i4+1,j5-1,z5-1,jbj ys i4 (j5-1),rfl,by omega,by omega,by omega,by omega,.step i4 (j5-1) ⟨by omega,by omega⟩ ⟨by omega,by omega⟩ hsw3,hpt5.swap zO zO zO zO zO zO,by rw [jbd zO zO,if_neg zO,if_neg zO];exact hpa3,exU rfl,rfl⟩)
    ·have hct:=ht.1 rfl
     refine Z9 ?_
     exact m.weak jaa (hnext5 _ _ _ zO ⟨j5-1,z5-1,rfl,by omega,by omega,by omega,fun k h1 h2=>by
      by_cases e:k=j5-1
      ·subst e
       omega
      ·exact hp5 k zO h2,exU rfl,rfl⟩)
  ·have hct:=ht.1 rfl
   refine Z9 ?_
   exact m.weak jaa (hnext4 _ _ _ zO ⟨i4+1,rfl,by omega,by omega,fun k h1 h2=>by
    by_cases e:k=i4
    ·subst e
     omega
    ·exact hp4 k h1 zO,exU rfl,rfl⟩)
end
end Go.Proofs
