/- A part of the proof of a law. Condition of each theorem: as its statement says. -/
import Derived.Test.YtggpepeiedkbbaaGreatDoorVR5
import Derived.Conc.LeavingOf
import Derived.Deep.Slices
import Derived.OpenShut
import Derived.Carry
import Derived.LaidMore
import Derived.Stop.Joined
set_option linter.all false
variable {P:Go.Program} {B:Array Go.Obj} {f:Go.FuncId} {args fc cp:Array Go.Value} {l vs cs junk l':List Go.Value} {n a k fuel b0 fid i bk:Nat} {K:Go.Goroutine→Go.Lo.Hp→Prop} {h S:Go.Lo.Hp} {v:Go.Value} {sp:Nat→Bool} {kd:Go.IntKind} {t e u ty:Go.TypeId} {g:Option (Nat×Bool)} {ts:List Go.TypeId} {A:Prop} {xs ys ln:List Int} {p p2:Option Go.Addr} {pr:Nat→Prop} {ops:Array Go.Oper} {C:List Go.Value→Go.Lo.Hp→Prop} {r:List (Nat×Go.Lo.Kd)} {d:Option Go.Tmp} {pos:String} {af:Array Go.Edge}
set_option maxHeartbeats 4000000
set_option maxRecDepth 100000
set_option synthInstance.maxHeartbeats 1000000
set_option synthInstance.maxSize 100000
namespace Go.Lo
open Go.Conc
section
variable {m:Md P B}
theorem jpi {fn:Func} {body:Code} {args:List Value} (hf:P.funcs[f]?=some fn) (hb:fn.body=some body) (hn:fn.ntmps=n) (hl:args++List.replicate (n-args.length) undef=l)
    (t:m.R K (Gr (bF f) l [] [.code body] []) h):m.R K (G (Frame.enter P f args.toArray .normal) []) h:=by
  have e:Frame.enter P f args.toArray .normal=Fr (bF f) l [] [.code body]:=by
    subst hl
    simp [Frame.enter,hf,hb,hn,Fr,bF]
  rw [e];exact t
theorem jhy {b:Frame} {todo:List Item} {K:Value→Hp→Prop} {fn:Func} {rs:List ResultVar} (hk:b.kind= .normal) (hf:P.funcs[b.fn]?=some fn) (hi:P.inits.idxOf? b.fn=none) (hr:fn.results=rs.toArray) [ResL P h l rs vs] [ResV vs v] (k:K v h):
    m.R (jmE P B K) (jeC b l [] todo []) h:=by
  refine m.stop ⟨rfl,v,k,fun w sw=>?_⟩
  obtain ⟨h1,h2⟩:=jkU (P:=P) (B:=B) (h:=h) (l:=l) (vs:=vs) (v:=v) hr w sw
  refine ⟨seen P b.fn ((results fn l.toArray).events P w #[]),?_,fun e he=>h2 e (jck _ _ _ e he)⟩
  simp [jeC,Fr,G,stepG,unwind,doReturn,hf,h1,hk,hi,GStep.after]
end
theorem jce {H:Type} {enc:TypeId×Value→H} {a:Assume} {C:Checked} {os:Os} {fn:Func} {s:ChangeSpec} {conds:List PathCond} {apart fresh handsOn again:Bool} {X:World→Array Value→Prop}
    (hX: ∀(w w':World) (args:Array Value),w.heap=w'.heap→X w args→X w' args)
    (own:ownKnob C.prog.godebug=none) (started:os.Started) (hfn:C.prog.funcs[f]?=some fn)
    (witness: ∃(w:World) (tape:Tape) (i:Input),w.os=os∧(w.forCall tape i).Shaped C.prog∧i.vars=[]∧Input.okWide C.prog (w.forCall tape i) .any w.heap.size f i∧
      ((s.pre enc C.prog fn conds apart (w.forCall tape i).memory i.args∧X (w.forCall tape i).memory i.args)∧sizedMet enc C.prog fn (OpenSpec.ofChange s) apart (w.forCall tape i).memory i.args)∧a.holds C.prog (lone (Frame.enter C.prog f i.args .normal) [] (w.forCall tape i)))
    (runs: ∀(W:World) (base:Nat) (args:Array Value) (ds gs:List (DataW H)) (jbC:List MemPlace),
      (∀(j:Nat) t v,fn.params[j]?=some t→args[j]?=some v→Value.okWide C.prog W .any base t v)→
      DataW.Whole enc C.prog fn.params.toList s.vars apart W args.toList ds gs jbC→X W args→
      ∃M last o w' t',runNT C.prog (M+1) (solo (G (Frame.enter C.prog f args .normal) []) W) #[]=(.ended o w',t')∧runN C.prog M (solo (G (Frame.enter C.prog f args .normal) []) W)= .next last∧
        step C.prog last= .ended o w'∧Conc.Good C.prog (fun v W'=>s.post enc C.prog fn apart fresh handsOn again W args v W') last o w' t'):
    ReturnsInLeavingWide a C os f .any (fun w args=>(s.pre enc C.prog fn conds apart w args∧X w args)∧sizedMet enc C.prog fn (OpenSpec.ofChange s) apart w args) (s.post enc C.prog fn apart fresh handsOn again):=by
  refine returnsInLeavingWide_of_good own started witness ?_
  intro w tape i _ _ _ hok hpre _
  obtain ⟨_,_,_,fn',hfn',_,_,_,_,hval⟩:=hok
  have e:fn'=fn:=gD (hfn'.symm.trans hfn)
  subst e
  obtain ⟨⟨⟨ds,gs,jbC,hw,_⟩,hx⟩,_⟩:=hpre
  have hw':=DataW.Whole.of_heap (w':=w.forCall tape i) (by rfl) hw
  obtain ⟨M,last,o,w',t',h1,h2,h3,h4⟩:=runs (w.forCall tape i) w.heap.size i.args ds gs jbC hval hw' (hX _ _ _ (by rfl) hx)
  exact ⟨M,last,o,w',t',h1,h2,h3,h4.mono fun v hp=>ChangeSpec.post_blind hp⟩
section
variable {H:Type} {enc:TypeId×Value→H} {w:World} {base:Nat} {held:Bool}
theorem jeK {a:Addr} (e:w.cell? a=some v):Rd w.heap h a v:=by
  unfold World.cell? at e
  split at e
  · rename_i c t f hb
    split at e
    · cases e
    · rename_i hs
      exact Rd.base (by simpa using hs) hb e
  · cases e
def jj4 (P:Program) (kd:IntKind):Nat→TypeId→Nat→Bool
  |0,_,_=>false
  |dd+1,t,k=>P.cellsOf t==k&&(match P.underlying t with
    |some (.int kk)=>kk==kd&&k==1
    |some (.struct fs)=>(List.range k).all fun i=>(List.range fs.size).any fun j=>match fs[j]? with
      |some f=>decide (f.offset≤i)&&decide (i<f.offset+P.cellsOf f.type)&&jj4 P kd dd f.type (P.cellsOf f.type)
      |none=>false
    |_=>false)
theorem joB {dd:Nat} (h:jj4 P kd dd t k=true):P.cellsOf t=k:=by
  cases dd with
  |zero=>simp [jj4] at h
  |succ dd=>
    unfold jj4 at h
    rw [gH] at h
    exact eq_of_beq h.1
theorem jiT {kd:IntKind}: ∀(dd:Nat) {t:TypeId} {k fuel:Nat} {cs:List Value} {x:DataW H×List MemPlace},jj4 P kd dd t k=true→DataW.trod enc P w base sp held fuel t cs=some x→cs.length=k∧ ∀i,i<k→ ∃n,cs[i]?=some (.int kd n)∧(Lit.int kd n).wf=true
  |0,_,_,_,_,_,hB,_=>by simp [jj4] at hB
  |dd+1,t,k,fuel,cs,x,hB,h=>by
    unfold jj4 at hB
    rw [gH] at hB
    obtain ⟨hc,hB⟩:=hB
    split at hB
    · rename_i kk hu
      simp only [gH,beq_iff_eq] at hB
      obtain ⟨rfl,rfl⟩:=hB
      obtain ⟨n,rfl,_,hw⟩:=DataW.trod_int hu h
      exact ⟨rfl,fun i hi=>⟨n,by rw [show i=0 by omega];rfl,hw⟩⟩
    · rename_i fs hu
      obtain ⟨xs,m,_,_,hl,hxl,hx⟩:=DataW.trod_struct hu h
      rw [beq_iff_eq] at hc
      refine ⟨hl.trans hc,fun i hi=>?_⟩
      obtain ⟨j,hj,hf⟩:=VN.1 (gT.1 hB i (gP.2 hi))
      split at hf
      · rename_i f hfj
        simp only [gH,decide_eq_true_eq] at hf
        obtain ⟨⟨h1,h2⟩,h3⟩:=hf
        have e:=hx j f hfj
        rw [gC (by rw [hxl];exact gP.1 hj)] at e
        obtain ⟨_,hall⟩:=jiT dd h3 e
        obtain ⟨n,hn,hw⟩:=hall (i-f.offset) zO
        rw [Gz,if_pos zO,vA,show f.offset+(i-f.offset)=i by omega] at hn
        exact ⟨n,hn,hw⟩
      · cases hf
    · cases hB
end
section
theorem jqe {W:World} (r:(Md.starC P W.heap).R (jmE P W.heap fun v _=>v= .bool true) (G (Frame.enter P f args .normal) []) []):
    ∃M last o w' t',runNT P (M+1) (solo (G (Frame.enter P f args .normal) []) W) #[]=(.ended o w',t')∧runN P M (solo (G (Frame.enter P f args .normal) []) W)= .next last∧step P last= .ended o w'∧Conc.Good P (fun v w'=>v= .bool true∧RowKit.Below W.heap.size W w') last o w' t':=
  joF r fun v h w hk s ho=>⟨hk,ho.1,ho.2.2,ho.2.1,s.size,fun k hk=>by
    rw [gM hk];exact s.base _ _ (gM hk)⟩
end
end Go.Lo
namespace Go.Lo
section
variable {H:Type} {enc:TypeId×Value→H} {w:World} {base:Nat} {held:Bool}
theorem job {x:DataW H×List MemPlace} (hu:P.underlying t=some (.slice e)) (hB:jj4 P kd 3 e k=true) (h:DataW.trod enc P w base sp held fuel t cs=some x) (hs: ∀a n c,cs=[.slice (some a) n c]→a.spot=none):
    ∃(p:Option Addr) (n c:Nat) (zs:List Int),cs=[.slice p n c]∧n≤c∧zs.length=n*k∧RdS w.heap [] k (.slice p n c) n (zs.map (Value.int kd))∧ ∀z∈zs,(Lit.int kd z).wf=true:=by
  rcases Deep.open_slice hu h with ⟨rfl,_⟩|⟨a,len,cap,m,n,D,Pl,rfl,hb,hl,hm,hmm,_,hx⟩
  · exact ⟨none,0,0,[],rfl,gK _,by simp,⟨none,0,rfl,by simp,.inl ⟨rfl,rfl⟩⟩,fun z hz=>by simp at hz⟩
  · have hlm:len≤m:=by rw [hmm];split<;>omega
    have hc:P.cellsOf e=k:=joB hB
    obtain ⟨ab,ao,sx⟩:=a
    obtain rfl:sx=none:=hs _ _ _ rfl
    obtain ⟨V,hV⟩:=Deep.choose_lt (α:=Int) (n:=len*k) (p:=fun q z=>w.cell? ⟨ab,ao+q,none⟩=some (.int kd z)∧(Lit.int kd z).wf=true) (fun q hq=>by
      have hk:0<k:=by rcases vy k with e0|e0;subst e0;simp at hq;exact e0
      have hi:q/k<len:=Nat.div_lt_of_lt_mul (by rw [Nat.mul_comm];exact hq)
      obtain ⟨cs',h1,h2⟩:=hx (q/k) zO
      obtain ⟨_,hlen,hcell⟩:=World.cells?_some h1
      obtain ⟨_,hall⟩:=jiT 3 hB h2
      obtain ⟨z,hz,hw⟩:=hall (q%k) (VA _ hk)
      refine ⟨z,?_,hw⟩
      have:=hcell (q%k) (by rw [hc];exact VA _ hk)
      rw [hz,Addr.add_none,Addr.add_none,hc] at this
      rw [←this];have e:=Nat.div_add_mod q k
      have e2:q/k*k=k*(q/k):=Nat.mul_comm _ _
      congr 2;omega)
    refine ⟨some ⟨ab,ao,none⟩,len,cap,(List.range (len*k)).map V,rfl,hl,by simp,⟨_,cap,rfl,by simp,.inr ⟨ab,ao,rfl,fun j hj=>?_⟩⟩,fun z hz=>?_⟩
    · have hj':j<len*k:=by simpa using hj
      have:(((List.range (len*k)).map V).map (Value.int kd)).getD j undef= .int kd (V j):=by
        rw [gB,gk,gk,vH hj'];rfl
      rw [this];exact jeK (hV j hj').1
    · obtain ⟨q,hq,rfl⟩:=gQ.1 hz
      exact (hV q (gP.1 hq)).2
theorem jjK {r:Reach} (hu:P.underlying t=some (.slice e)) (h:Cell.okWide P w r b0 t v): ∀a n c,[v]=[.slice (some a) n c]→a.spot=none:=fun a n c e1=>by
  obtain rfl:=GD e1
  unfold Cell.okWide at h
  rw [hu] at h
  simp only [Cell.ok,hu] at h
  exact h.2.2.2.1
def jn7:Value→Str
  | .string s=>s.data.toList
  |_=>[]
theorem str_of (s:ByteArray):Value.string s=str (jn7 (.string s)):=by cases s;simp [str,jn7]
theorem jiZ {x:DataW H×List MemPlace} (hu:P.underlying t=some (.slice e)) (he:P.underlying e=some .string) (hc:P.cellsOf e=1) (h:DataW.trod enc P w base sp held fuel t cs=some x):
    ∃(p:Option Addr) (c:Nat) (ss:List Str),cs=[.slice p ss.length c]∧ss.length≤c∧((∀a,p=some a→a.spot=none)∨0<ss.length→RdS w.heap [] 1 (.slice p ss.length c) ss.length (jax ss)):=by
  rcases Deep.open_slice1 hu hc h with ⟨rfl,_⟩|⟨a,len,cap,m,n,V,D,Pl,rfl,hb,hl,hm,hmm,_,hx⟩
  · exact ⟨none,0,[],rfl,gK _,fun _=>⟨none,0,rfl,rfl,.inl ⟨rfl,rfl⟩⟩⟩
  · have hlm:len≤m:=by rw [hmm];split<;>omega
    obtain ⟨ab,ao,sx⟩:=a
    have hv: ∀i,i<len→V i=str (jn7 (V i)):=fun i hi=>by
      obtain ⟨s,e,_⟩:=DataW.trod_string he (hx i zO).2
      have e':=GD e
      rw [e'];exact str_of s
    have hlen:((List.range len).map fun i=>jn7 (V i)).length=len:=by simp
    refine ⟨some ⟨ab,ao,sx⟩,cap,(List.range len).map fun i=>jn7 (V i),by rw [hlen],by rw [hlen];exact hl,fun hs=>?_⟩
    have hn:sx=none:=by
      rcases hs with hs|hs
      · exact hs _ rfl
      · rw [hlen] at hs
        have:=World.cell?_spot (hx 0 zO).1
        simpa [Addr.add] using this
    subst hn
    rw [hlen];refine ⟨_,cap,rfl,by rw [jc2];simp,.inr ⟨ab,ao,rfl,fun j hj=>?_⟩⟩
    have hj':j<len:=by simpa [jc2] using hj
    have e:(jax ((List.range len).map fun i=>jn7 (V i))).getD j undef=V j:=by
      rw [jc2,gB,gk,gk,vH hj'];exact (hv j hj').symm
    rw [e];have:=(hx j zO).1
    rw [Addr.add_none] at this
    exact jeK this
theorem jht {g z:TypeId} {fs:Array Field} {x:DataW H×List MemPlace} (hu:P.underlying t=some (.slice e)) (he:P.underlying e=some (.struct fs)) (hfs:fs.toList.map (fun f=>(f.offset,f.type))=[(0,g),(1,u)]) (hg:P.underlying g=some (.int .i64)) (hgu:P.underlying u=some (.slice z)) (hz:P.underlying z=some .string)
    (ce:P.cellsOf e=2) (cg:P.cellsOf g=1) (cu:P.cellsOf u=1) (cz:P.cellsOf z=1) (h:DataW.trod enc P w base sp held fuel t cs=some x) (hs: ∀a n c,cs=[.slice (some a) n c]→a.spot=none):
    ∃(p:Option Addr) (n c:Nat) (lns:List Ln),cs=[.slice p n c]∧n≤c∧RdLn w.heap [] (.slice p n c) n lns:=by
  rcases Deep.open_slice hu h with ⟨rfl,_⟩|⟨a,len,cap,m,n,D,Pl,rfl,hb,hl,hm,hmm,_,hx⟩
  · exact ⟨none,0,0,[],rfl,gK _,[],rfl,⟨none,0,rfl,rfl,.inl ⟨rfl,rfl⟩⟩,by simp⟩
  · have hlm:len≤m:=by rw [hmm];split<;>omega
    obtain ⟨ab,ao,sx⟩:=a
    obtain rfl:sx=none:=hs _ _ _ rfl
    obtain ⟨f0,f1,rfl⟩: ∃f0 f1,fs= #[f0,f1]:=by
      obtain ⟨fl⟩:=fs
      have hlen:fl.length=2:=by simpa using congrArg List.length hfs
      match fl,hlen with
      |[f0,f1],_=>exact ⟨_,_,rfl⟩
    simp only [gx,vt,Gc,vx,and_true] at hfs
    obtain ⟨⟨o0,t0⟩,o1,t1⟩:=hfs
    obtain ⟨L,hL⟩:=Deep.choose_lt (α:=Lp) (n:=len) (p:=fun i x=>w.cell? ⟨ab,ao+i*2,none⟩=some (.int .i64 x.ln.lat)∧w.cell? ⟨ab,ao+i*2+1,none⟩=some (.slice x.p x.ln.figs.length x.c)∧x.ln.figs.length≤x.c∧(0<x.ln.figs.length→RdS w.heap [] 1 (.slice x.p x.ln.figs.length x.c) x.ln.figs.length (jax x.ln.figs))) (fun i hi=>by
      obtain ⟨cs',h1,h2⟩:=hx i zO
      rw [ce] at h1
      obtain ⟨_,hlen,hcell⟩:=World.cells?_some h1
      obtain ⟨c0,c1,rfl⟩: ∃c0 c1,cs'=[c0,c1]:=by
        match cs',hlen with
        |[c0,c1],_=>exact ⟨_,_,rfl⟩
      obtain ⟨xs,k,_,_,_,hxl,hxx⟩:=DataW.trod_struct he h2
      have go: ∀i,i<2→ ∃y,xs[i]?=some y:=fun i hi=>⟨_,gC (by rw [hxl];exact hi)⟩
      obtain ⟨y0,e0⟩:=go 0 zO;obtain ⟨y1,e1⟩:=go 1 zO
      have g0:=(hxx 0 f0 rfl).trans e0
      have g1:=(hxx 1 f1 rfl).trans e1
      rw [t0,o0,cg] at g0
      rw [t1,o1,cu] at g1
      obtain ⟨n0,q0,_,w0⟩:=DataW.trod_int hg g0
      obtain rfl:=GD (show [c0]=[Value.int .i64 n0] from q0)
      obtain ⟨p,c,ss,es,hc,hr⟩:=jiZ (cs:=[c1]) hgu hz cz g1
      obtain rfl:=GD es
      have k0:=hcell 0 zO
      have k1:=hcell 1 zO
      rw [Addr.add_none,Addr.add_none] at k0 k1
      exact ⟨⟨⟨n0,ss⟩,p,c⟩,k0,k1,hc,fun hp=>hr (.inr hp)⟩)
    refine ⟨some ⟨ab,ao,none⟩,len,cap,((List.range len).map L).map (·.ln),rfl,hl,(List.range len).map L,rfl,⟨_,cap,rfl,by rw [jaO];simp,.inr ⟨ab,ao,rfl,fun j hj=>?_⟩⟩,fun y hy=>?_⟩
    · have hj':j<len*2:=by rw [jaO] at hj;simpa using hj
      have hi:j/2<len:=by omega
      have hgl:((List.range len).map L).getD (j/2) default=L (j/2):=by rw [gB,gk,vH hi];rfl
      have e:=jmp ((List.range len).map L) (j/2) (j%2) (by simpa using hi) zO
      rw [hgl,show j/2*2+j%2=j by omega] at e
      obtain ⟨k0,k1,_⟩:=hL (j/2) hi
      rw [gB,e];rcases (by omega:j%2=0∨j%2=1) with hm|hm
      · rw [hm,show ao+j=ao+j/2*2 by omega];exact jeK k0
      · rw [hm,show ao+j=ao+j/2*2+1 by omega];exact jeK k1
    · obtain ⟨i,hi,rfl⟩:=gQ.1 hy
      obtain ⟨_,_,h1,h2⟩:=hL i (gP.1 hi)
      exact ⟨h1,h2⟩
end
end Go.Lo
namespace Go.Proofs
open Go.Lo
section
variable {H:Type} {enc:TypeId×Value→H} {w:World} {held:Bool}
theorem jqE {r:Reach} {d:DataW H} {ps:List MemPlace} (ht: Tryz.prog.underlying t=some (.int kd)) (hv:Value.okWide Tryz.prog w r b0 t v) (h:DataW.Trod enc Tryz.prog w 0 sp held t v d ps):
    ∃n,v= .int kd n∧(Lit.int kd n).wf=true:=by
  obtain ⟨n,e,_,_,hw⟩:=ChangeShapes.open_int ht hv h
  exact ⟨n,e,hw⟩
theorem jp6 {n M:Int} (e:v= .int kd n∧(Lit.int kd n).wf=true) (h:(Lit.int kd n).wf=true→0≤n∧n≤M): ∃z:Nat,v= .int kd (z:Int)∧(z:Int)≤M:=by
  obtain ⟨h0,h1⟩:=h e.2
  exact ⟨n.toNat,by rw [e.1,xH h0],by rw [xH h0];exact h1⟩
theorem u16_arg {r:Reach} {d:DataW H} {ps:List MemPlace} (hv:Value.okWide Tryz.prog w r b0 56 v) (h:DataW.Trod enc Tryz.prog w 0 sp held 56 v d ps): ∃z:Nat,v= .int .u16 (z:Int)∧z≤65535:=by
  obtain ⟨n,e⟩:=jqE (kd:= .u16) zK hv h
  obtain ⟨z,e,hz⟩:=jp6 (M:=65535) e (fun hw=>by simp [Lit.wf,IntKind.min,IntKind.max,IntKind.signed,IntKind.bits] at hw;omega)
  exact ⟨z,e,by omega⟩
theorem u8_arg {r:Reach} {d:DataW H} {ps:List MemPlace} (hv:Value.okWide Tryz.prog w r b0 5 v) (h:DataW.Trod enc Tryz.prog w 0 sp held 5 v d ps): ∃z:Nat,v= .int .u8 (z:Int)∧z≤255:=by
  obtain ⟨n,e⟩:=jqE (kd:= .u8) zK hv h
  obtain ⟨z,e,hz⟩:=jp6 (M:=255) e (fun hw=>by simp [Lit.wf,IntKind.min,IntKind.max,IntKind.signed,IntKind.bits] at hw;omega)
  exact ⟨z,e,by omega⟩
theorem nums_arg {r:Reach} {d:DataW H} {ps:List MemPlace} (hu: Tryz.prog.underlying t=some (.slice e)) (hB:jj4 Tryz.prog kd 3 e 1=true) (hv:Value.okWide Tryz.prog w r b0 t v) (h:DataW.Trod enc Tryz.prog w 0 sp held t v d ps):
    ∃(p:Option Addr) (n c:Nat) (xs:List Int),v= .slice p n c∧RdS w.heap [] 1 (.slice p n c) n (xs.map (Value.int kd))∧ ∀x∈xs,(Lit.int kd x).wf=true:=by
  have hv':Cell.okWide Tryz.prog w r b0 t v:=by
    unfold Value.okWide at hv
    rw [hu] at hv
    exact hv
  obtain ⟨fuel,h⟩:=h
  have hsl:v.cells.toList=[v]:=by
    unfold Cell.okWide at hv'
    rw [hu] at hv'
    cases v<;>first|rfl|(simp [Cell.ok,hu] at hv')
  rw [hsl] at h
  obtain ⟨p,n,c,zs,e,_,_,rd,hw⟩:=job hu hB h (jjK hu hv')
  exact ⟨p,n,c,zs,GD e,rd,hw⟩
theorem jpQ {r:Reach} {d:DataW H} {ps:List MemPlace} (hv:Value.okWide Tryz.prog w r b0 100 v) (h:DataW.Trod enc Tryz.prog w 0 sp held 100 v d ps):
    ∃(p:Option Addr) (n c:Nat) (xs:List Int),v= .slice p n c∧RdS w.heap [] 1 (.slice p n c) n (xs.map (Value.int .u16))∧ ∀x∈xs,0≤x∧x≤65535:=by
  obtain ⟨p,n,c,xs,e,rd,hw⟩:=nums_arg (e:=56) (kd:= .u16) zK zK hv h
  exact ⟨p,n,c,xs,e,rd,fun x hx=>by have:=hw x hx;simp [Lit.wf,IntKind.min,IntKind.max,IntKind.signed,IntKind.bits] at this;omega⟩
theorem jdr {base:Nat} {ds:List (DataW H)} {ps:List MemPlace} (h:DataW.TrodAll enc P w base sp held (t::ts) vs ds ps):
    ∃v vr d dr p q,vs=v::vr∧ds=d::dr∧ps=p++q∧DataW.Trod enc P w base sp held t v d p∧DataW.TrodAll enc P w base sp held ts vr dr q:=by
  cases vs with
  |nil=>cases ds<;>exact absurd h id
  |cons v vr=>
    cases ds with
    |nil=>exact absurd h id
    |cons d dr=>
      obtain ⟨p,q,h1,h2,e⟩:=h
      exact ⟨v,vr,d,dr,p,q,rfl,rfl,e,h1,h2⟩
theorem jlV {base:Nat} {ds:List (DataW H)} {ps:List MemPlace} (h:DataW.TrodAll enc P w base sp held [] vs ds ps):vs=[]∧ds=[]∧ps=[]:=by
  cases vs with
  |nil=>
    cases ds with
    |nil=>exact ⟨rfl,rfl,h⟩
    |cons d dr=>exact absurd h id
  |cons v vr=>cases ds<;>exact absurd h id
theorem jdq {base:Nat} {d:DataW H} {ds:List (DataW H)} {p q:List MemPlace} (h:DataW.Trod enc P w base sp held t v d p) (k:DataW.TrodAll enc P w base sp held ts vs ds q):DataW.TrodAll enc P w base sp held (t::ts) (v::vs) (d::ds) (p++q):=⟨p,q,h,k,rfl⟩
theorem tb_arg {r:Reach} {d:DataW H} {ps:List MemPlace} (hv:Value.okWide Tryz.prog w r b0 25 v) (h:DataW.Trod enc Tryz.prog w 0 sp held 25 v d ps):
    ∃b qs ns ks pw nw cw pb nb cb,v=tbV b qs ns ks pw nw cw pb nb cb∧ns≤ks∧RdS w.heap [] 1 (.slice qs ns ks) ns (jax b.sts)∧RdLn w.heap [] (.slice pw nw cw) nw b.waters∧RdLn w.heap [] (.slice pb nb cb) nb b.butts∧jeB b.wrong:=by
  obtain ⟨fs,hu,hfs⟩: ∃fs,Tryz.prog.underlying 25=some (.struct fs)∧fs.toList.map (fun f=>(f.offset,f.type))=[(0,3),(1,22),(2,23),(3,23)]:=⟨_,Tryz.underlying25,by kernel_rfl⟩
  obtain ⟨ls,hul,hls⟩: ∃fs,Tryz.prog.underlying 121=some (.struct fs)∧fs.toList.map (fun f=>(f.offset,f.type))=[(0,3),(1,22)]:=⟨_,Tryz.underlying121,by kernel_rfl⟩
  have hct: Tryz.prog.cellTypes Tryz.prog.depth 25=some [3,22,23,23]:=by kernel_rfl
  have h3: Tryz.prog.underlying 3=some (.int .i64):=by kernel_rfl
  have h9: Tryz.prog.underlying 9=some .string:=by kernel_rfl
  have h22: Tryz.prog.underlying 22=some (.slice 9):=by kernel_rfl
  have h23: Tryz.prog.underlying 23=some (.slice 121):=by kernel_rfl
  unfold Value.okWide at hv
  rw [hu] at hv
  obtain ⟨cs,rfl,hsz,ts,hts,_,hall⟩:=hv
  rw [hct] at hts
  obtain rfl:=gD hts
  obtain ⟨fuel,h⟩:=h
  obtain ⟨xs,m,_,_,hl,hxl,hx⟩:=DataW.trod_struct hu h
  have hl4:cs.size=4:=hsz.trans zK
  obtain ⟨cl⟩:=cs
  have hl4':cl.length=4:=hl4
  obtain ⟨c0,c1,c2,c3,rfl⟩: ∃c0 c1 c2 c3,cl=[c0,c1,c2,c3]:=by
    match cl,hl4' with
    |[c0,c1,c2,c3],_=>exact ⟨_,_,_,_,rfl⟩
  obtain ⟨f0,f1,f2,f3,rfl⟩: ∃f0 f1 f2 f3,fs= #[f0,f1,f2,f3]:=by
    obtain ⟨fl⟩:=fs
    have hlen:fl.length=4:=by simpa using congrArg List.length hfs
    match fl,hlen with
    |[f0,f1,f2,f3],_=>exact ⟨_,_,_,_,rfl⟩
  simp only [gx,vt,Gc,vx,and_true] at hfs
  obtain ⟨⟨o0,t0⟩,⟨o1,t1⟩,⟨o2,t2⟩,o3,t3⟩:=hfs
  have s3: Tryz.prog.cellsOf 3=1:=by kernel_rfl
  have s9: Tryz.prog.cellsOf 9=1:=by kernel_rfl
  have s22: Tryz.prog.cellsOf 22=1:=by kernel_rfl
  have s23: Tryz.prog.cellsOf 23=1:=by kernel_rfl
  have s121: Tryz.prog.cellsOf 121=2:=by kernel_rfl
  have go: ∀i,i<4→ ∃y,xs[i]?=some y:=fun i hi=>⟨_,gC (by rw [hxl];exact hi)⟩
  obtain ⟨y0,e0⟩:=go 0 zO;obtain ⟨y1,e1⟩:=go 1 zO;obtain ⟨y2,e2⟩:=go 2 zO;obtain ⟨y3,e3⟩:=go 3 zO
  have g0:=(hx 0 f0 rfl).trans e0
  have g1:=(hx 1 f1 rfl).trans e1
  have g2:=(hx 2 f2 rfl).trans e2
  have g3:=(hx 3 f3 rfl).trans e3
  rw [t0,o0,s3] at g0
  rw [t1,o1,s22] at g1
  rw [t2,o2,s23] at g2
  rw [t3,o3,s23] at g3
  obtain ⟨n0,q0,_,w0⟩:=DataW.trod_int h3 g0
  obtain rfl:=GD (show [c0]=[Value.int .i64 n0] from q0)
  obtain ⟨u1,hu1,k1⟩:=hall 1 c1 rfl
  obtain ⟨u2,hu2,k2⟩:=hall 2 c2 rfl
  obtain ⟨u3,hu3,k3⟩:=hall 3 c3 rfl
  obtain rfl:22=u1:=gD hu1
  obtain rfl:23=u2:=gD hu2
  obtain rfl:23=u3:=gD hu3
  obtain ⟨qs,ks,ss,es,hks,rs⟩:=jiZ (cs:=[c1]) h22 h9 s9 g1
  obtain rfl:=GD es
  obtain ⟨pw,nw,cw,lw,ew,hcw,rw'⟩:=jht (cs:=[c2]) h23 hul hls h3 h22 h9 s121 s3 s22 s9 g2 (jjK h23 k2)
  obtain ⟨pb,nb,cb,lb,eb,hcb,rb⟩:=jht (cs:=[c3]) h23 hul hls h3 h22 h9 s121 s3 s22 s9 g3 (jjK h23 k3)
  obtain rfl:=GD ew
  obtain rfl:=GD eb
  exact ⟨⟨n0,ss,lw,lb⟩,qs,ss.length,ks,pw,nw,cw,pb,nb,cb,rfl,hks,rs (.inl fun a ha=>by subst ha;exact jjK h22 k1 a _ _ rfl),rw',rb,by
    simp [Lit.wf,IntKind.min,IntKind.max,IntKind.signed,IntKind.bits] at w0
    show jeB n0
    unfold jeB;omega⟩
end
end Go.Proofs
namespace Go.Lo
abbrev vw4 (U:Nat→Value) (i:Nat) (r:List Value):List Value:=U i::U (i+1)::U (i+2)::U (i+3)::r
abbrev vw5 (U:Nat→Value) (i:Nat) (r:List Value):List Value:=vw4 U i (U (i+4)::r)
abbrev vw6 (U:Nat→Value) (i:Nat) (r:List Value):List Value:=vw5 U i (U (i+5)::r)
abbrev vw7 (U:Nat→Value) (i:Nat) (r:List Value):List Value:=vw6 U i (U (i+6)::r)
abbrev vw8 (U:Nat→Value) (i:Nat) (r:List Value):List Value:=vw7 U i (U (i+7)::r)
abbrev vw9 (U:Nat→Value) (i:Nat) (r:List Value):List Value:=vw8 U i (U (i+8)::r)
abbrev jo5 (U:Nat→Value) (i:Nat) (r:List Value):List Value:=vw9 U i (U (i+9)::r)
abbrev vw11 (U:Nat→Value) (i:Nat) (r:List Value):List Value:=jo5 U i (U (i+10)::r)
abbrev vw12 (U:Nat→Value) (i:Nat) (r:List Value):List Value:=vw11 U i (U (i+11)::r)
abbrev vw13 (U:Nat→Value) (i:Nat) (r:List Value):List Value:=vw12 U i (U (i+12)::r)
abbrev vw14 (U:Nat→Value) (i:Nat) (r:List Value):List Value:=vw13 U i (U (i+13)::r)
abbrev vw15 (U:Nat→Value) (i:Nat) (r:List Value):List Value:=vw14 U i (U (i+14)::r)
abbrev vw16 (U:Nat→Value) (i:Nat) (r:List Value):List Value:=vw15 U i (U (i+15)::r)
abbrev vw17 (U:Nat→Value) (i:Nat) (r:List Value):List Value:=vw16 U i (U (i+16)::r)
abbrev vw18 (U:Nat→Value) (i:Nat) (r:List Value):List Value:=vw17 U i (U (i+17)::r)
abbrev vw20 (U:Nat→Value) (i:Nat) (r:List Value):List Value:=vw18 U i (U (i+18)::U (i+19)::r)
abbrev vw22 (U:Nat→Value) (i:Nat) (r:List Value):List Value:=vw20 U i (U (i+20)::U (i+21)::r)
abbrev vw23 (U:Nat→Value) (i:Nat) (r:List Value):List Value:=vw22 U i (U (i+22)::r)
abbrev vw24 (U:Nat→Value) (i:Nat) (r:List Value):List Value:=vw23 U i (U (i+23)::r)
abbrev vw25 (U:Nat→Value) (i:Nat) (r:List Value):List Value:=vw24 U i (U (i+24)::r)
abbrev vw27 (U:Nat→Value) (i:Nat) (r:List Value):List Value:=vw25 U i (U (i+25)::U (i+26)::r)
abbrev vw28 (U:Nat→Value) (i:Nat) (r:List Value):List Value:=vw27 U i (U (i+27)::r)
abbrev vw31 (U:Nat→Value) (i:Nat) (r:List Value):List Value:=vw28 U i (U (i+28)::U (i+29)::U (i+30)::r)
abbrev vw32 (U:Nat→Value) (i:Nat) (r:List Value):List Value:=vw31 U i (U (i+31)::r)
abbrev vw33 (U:Nat→Value) (i:Nat) (r:List Value):List Value:=vw32 U i (U (i+32)::r)
abbrev vw34 (U:Nat→Value) (i:Nat) (r:List Value):List Value:=vw33 U i (U (i+33)::r)
abbrev vw36 (U:Nat→Value) (i:Nat) (r:List Value):List Value:=vw34 U i (U (i+34)::U (i+35)::r)
abbrev vw37 (U:Nat→Value) (i:Nat) (r:List Value):List Value:=vw36 U i (U (i+36)::r)
abbrev vw38 (U:Nat→Value) (i:Nat) (r:List Value):List Value:=vw37 U i (U (i+37)::r)
abbrev vw39 (U:Nat→Value) (i:Nat) (r:List Value):List Value:=vw38 U i (U (i+38)::r)
abbrev vw40 (U:Nat→Value) (i:Nat) (r:List Value):List Value:=vw39 U i (U (i+39)::r)
abbrev vw41 (U:Nat→Value) (i:Nat) (r:List Value):List Value:=vw40 U i (U (i+40)::r)
abbrev vw42 (U:Nat→Value) (i:Nat) (r:List Value):List Value:=vw41 U i (U (i+41)::r)
abbrev vw45 (U:Nat→Value) (i:Nat) (r:List Value):List Value:=vw42 U i (U (i+42)::U (i+43)::U (i+44)::r)
abbrev vw46 (U:Nat→Value) (i:Nat) (r:List Value):List Value:=vw45 U i (U (i+45)::r)
abbrev vw48 (U:Nat→Value) (i:Nat) (r:List Value):List Value:=vw46 U i (U (i+46)::U (i+47)::r)
abbrev vw49 (U:Nat→Value) (i:Nat) (r:List Value):List Value:=vw48 U i (U (i+48)::r)
abbrev vw50 (U:Nat→Value) (i:Nat) (r:List Value):List Value:=vw49 U i (U (i+49)::r)
abbrev vw52 (U:Nat→Value) (i:Nat) (r:List Value):List Value:=vw50 U i (U (i+50)::U (i+51)::r)
abbrev vw54 (U:Nat→Value) (i:Nat) (r:List Value):List Value:=vw52 U i (U (i+52)::U (i+53)::r)
abbrev vw55 (U:Nat→Value) (i:Nat) (r:List Value):List Value:=vw54 U i (U (i+54)::r)
abbrev vw57 (U:Nat→Value) (i:Nat) (r:List Value):List Value:=vw55 U i (U (i+55)::U (i+56)::r)
abbrev vw62 (U:Nat→Value) (i:Nat) (r:List Value):List Value:=vw57 U i (vw5 U (i+57) r)
abbrev vw63 (U:Nat→Value) (i:Nat) (r:List Value):List Value:=vw62 U i (U (i+62)::r)
abbrev vw65 (U:Nat→Value) (i:Nat) (r:List Value):List Value:=vw63 U i (U (i+63)::U (i+64)::r)
abbrev vw66 (U:Nat→Value) (i:Nat) (r:List Value):List Value:=vw65 U i (U (i+65)::r)
abbrev vw67 (U:Nat→Value) (i:Nat) (r:List Value):List Value:=vw66 U i (U (i+66)::r)
abbrev vw68 (U:Nat→Value) (i:Nat) (r:List Value):List Value:=vw67 U i (U (i+67)::r)
abbrev vw73 (U:Nat→Value) (i:Nat) (r:List Value):List Value:=vw68 U i (vw5 U (i+68) r)
abbrev vw74 (U:Nat→Value) (i:Nat) (r:List Value):List Value:=vw73 U i (U (i+73)::r)
abbrev vw83 (U:Nat→Value) (i:Nat) (r:List Value):List Value:=vw74 U i (vw9 U (i+74) r)
abbrev vw84 (U:Nat→Value) (i:Nat) (r:List Value):List Value:=vw83 U i (U (i+83)::r)
abbrev vw85 (U:Nat→Value) (i:Nat) (r:List Value):List Value:=vw84 U i (U (i+84)::r)
abbrev vw90 (U:Nat→Value) (i:Nat) (r:List Value):List Value:=vw85 U i (vw5 U (i+85) r)
abbrev vw100 (U:Nat→Value) (i:Nat) (r:List Value):List Value:=vw90 U i (jo5 U (i+90) r)
abbrev vw105 (U:Nat→Value) (i:Nat) (r:List Value):List Value:=vw100 U i (vw5 U (i+100) r)
abbrev vw107 (U:Nat→Value) (i:Nat) (r:List Value):List Value:=vw105 U i (U (i+105)::U (i+106)::r)
abbrev vw117 (U:Nat→Value) (i:Nat) (r:List Value):List Value:=vw107 U i (jo5 U (i+107) r)
abbrev vw121 (U:Nat→Value) (i:Nat) (r:List Value):List Value:=vw117 U i (vw4 U (i+117) r)
abbrev vw122 (U:Nat→Value) (i:Nat) (r:List Value):List Value:=vw121 U i (U (i+121)::r)
abbrev vw123 (U:Nat→Value) (i:Nat) (r:List Value):List Value:=vw122 U i (U (i+122)::r)
abbrev jlS (U:Nat→Value) (i:Nat) (r:List Value):List Value:=vw123 U i (U (i+123)::r)
abbrev vw130 (U:Nat→Value) (i:Nat) (r:List Value):List Value:=jlS U i (vw6 U (i+124) r)
abbrev jo4 (U:Nat→Value) (i:Nat) (r:List Value):List Value:=vw130 U i (vw25 U (i+130) (U (i+155)::r))
abbrev Zp (i:Nat):Nat×Kd:=(i,.pure)
abbrev Zr (i:Nat):Nat×Kd:=(i,.read)
abbrev Zk (i:Nat):Nat×Kd:=(i,.keep)
abbrev Za (i:Nat):Nat×Kd:=(i,.alloc)
abbrev Zc (i:Nat):Nat×Kd:=(i,.call)
abbrev Zf (i:Nat):Nat×Kd:=(i,.free)
end Go.Lo
namespace Go.Lo
open Go.Conc (G)
structure Wr (B:Prop):Prop where
  g:B
section
variable {A B:Prop}
theorem Zs (b:B) (h:Wr B→A:=by intro zx;(first|refine jae ?_|refine mq rfl ?_|refine k_nil ?_|refine jb3 ?_|refine k_as rfl zq ?_|refine k_off rfl rfl ?_|refine k_mv rfl rfl ?_|refine run_no ?_|refine run_ret rfl ?_|refine run_skip ?_|refine run_yes ?_|(first|refine k_fa0 rfl zq ?_|refine k_fa rfl zq ?_)|refine rr1 ?_|refine rr2 ?_|refine rr3 ?_|refine k_ldh rfl zq ?_|refine jpD ?_|refine joz rfl zq (by unfold jeB;omega) ?_|refine jqk rfl zq ?_|refine jj2 rfl zq ?_|refine jl3 ?_|refine jqj rfl zq ?_|refine rr4 ?_|refine i_seq ?_|refine k_nilC rfl zq ?_|refine run_exit rfl ?_|refine joW rfl zq ?_|refine jfJ rfl zq ?_|refine jld ?_|refine i_region rfl ?_|refine rr5 ?_|refine k_ext0 rfl zq ?_|refine k_ext1 rfl zq ?_|refine k_sub rfl zq (by unfold jeB;omega) ?_|refine rr6 ?_|refine i_off rfl rfl ?_|refine rr7 ?_|refine k_notT rfl zq ?_|refine jql rfl zq ?_|refine rr8 ?_|(first|refine k_fa0 rfl rfl ?_|refine k_fa rfl rfl ?_)|refine i_as rfl zq ?_|refine k_ixa rfl zq zO zO ?_|refine jqk rfl rfl ?_|refine rr9 ?_|refine i_else ?_|refine i_skip ?_|refine k_ixa rfl rfl zO zO ?_|refine jqj rfl rfl ?_|refine jno rfl zq jjD ?_|refine joC rfl zq ?_|(first|refine i_fa0 rfl zq ?_|refine i_fa rfl zq ?_)|refine rr10 ?_|refine k_nilC rfl rfl ?_|refine i_pickF rfl zq ?_|refine k_notT rfl rfl ?_|refine k_ldh rfl rfl ?_|refine i_if ?_|refine i_ret rfl ?_|refine hK _ _ ?_);exact zx.g):A:=h ⟨b⟩
theorem Z2 (b:B) (h:Wr B→A:=by intro zx;(iterate 2 (refine Zs ?_));exact zx.g):A:=h ⟨b⟩
theorem Z3 (b:B) (h:Wr B→A:=by intro zx;(iterate 3 (refine Zs ?_));exact zx.g):A:=h ⟨b⟩
theorem Z4 (b:B) (h:Wr B→A:=by intro zx;(iterate 4 (refine Zs ?_));exact zx.g):A:=h ⟨b⟩
theorem Z5 (b:B) (h:Wr B→A:=by intro zx;(iterate 5 (refine Zs ?_));exact zx.g):A:=h ⟨b⟩
theorem Z6 (b:B) (h:Wr B→A:=by intro zx;(iterate 6 (refine Zs ?_));exact zx.g):A:=h ⟨b⟩
theorem Z7 (b:B) (h:Wr B→A:=by intro zx;(iterate 7 (refine Zs ?_));exact zx.g):A:=h ⟨b⟩
theorem Z8 (b:B) (h:Wr B→A:=by intro zx;(iterate 8 (refine Zs ?_));exact zx.g):A:=h ⟨b⟩
theorem Z9 (b:B) (h:Wr B→A:=by intro zx;(iterate 9 (refine Zs ?_));exact zx.g):A:=h ⟨b⟩
theorem Z10 (b:B) (h:Wr B→A:=by intro zx;(iterate 10 (refine Zs ?_));exact zx.g):A:=h ⟨b⟩
theorem Z11 (b:B) (h:Wr B→A:=by intro zx;(iterate 11 (refine Zs ?_));exact zx.g):A:=h ⟨b⟩
theorem Z12 (b:B) (h:Wr B→A:=by intro zx;(iterate 12 (refine Zs ?_));exact zx.g):A:=h ⟨b⟩
theorem Z13 (b:B) (h:Wr B→A:=by intro zx;(iterate 13 (refine Zs ?_));exact zx.g):A:=h ⟨b⟩
theorem Z14 (b:B) (h:Wr B→A:=by intro zx;(iterate 14 (refine Zs ?_));exact zx.g):A:=h ⟨b⟩
theorem Z15 (b:B) (h:Wr B→A:=by intro zx;(iterate 15 (refine Zs ?_));exact zx.g):A:=h ⟨b⟩
theorem Z16 (b:B) (h:Wr B→A:=by intro zx;(iterate 16 (refine Zs ?_));exact zx.g):A:=h ⟨b⟩
theorem Z17 (b:B) (h:Wr B→A:=by intro zx;(iterate 17 (refine Zs ?_));exact zx.g):A:=h ⟨b⟩
theorem Z18 (b:B) (h:Wr B→A:=by intro zx;(iterate 18 (refine Zs ?_));exact zx.g):A:=h ⟨b⟩
theorem Z19 (b:B) (h:Wr B→A:=by intro zx;(iterate 19 (refine Zs ?_));exact zx.g):A:=h ⟨b⟩
theorem Z20 (b:B) (h:Wr B→A:=by intro zx;(iterate 20 (refine Zs ?_));exact zx.g):A:=h ⟨b⟩
theorem Z21 (b:B) (h:Wr B→A:=by intro zx;(iterate 21 (refine Zs ?_));exact zx.g):A:=h ⟨b⟩
theorem Z22 (b:B) (h:Wr B→A:=by intro zx;(iterate 22 (refine Zs ?_));exact zx.g):A:=h ⟨b⟩
theorem Z23 (b:B) (h:Wr B→A:=by intro zx;(iterate 23 (refine Zs ?_));exact zx.g):A:=h ⟨b⟩
theorem Z24 (b:B) (h:Wr B→A:=by intro zx;(iterate 24 (refine Zs ?_));exact zx.g):A:=h ⟨b⟩
theorem Z25 (b:B) (h:Wr B→A:=by intro zx;(iterate 25 (refine Zs ?_));exact zx.g):A:=h ⟨b⟩
theorem D0 (b:B) (h:Wr B→A:=by intro zx;refine jcR rfl zq (by first|rfl|assumption) zO zO ?_;exact zx.g):A:=h ⟨b⟩
theorem D1 (b:B) (h:Wr B→A:=by intro zx;refine jao [Zp 0,Zp 1,Zp 2,Zp 3,Zp 4,Zp 5,Zp 6,Zp 8,Zp 9,Zp 10,Zr 7,Zr 11,Zp 12,Zf 13,Zp 14,Zf 15] zK zK (gE _) ?_;exact zx.g):A:=h ⟨b⟩
theorem D2 (b:B) (h:Wr B→A:=by intro zx;refine ja8 rfl zq zK (Post:=fun v nz=>jgw B b (tbL b ps ns ks pw nw cw pb nb cb) (jaX b (jl8 b st x)) nz v) (fun H' hH=>f88_c m H' (ra.keeps (sq hH)) callB145 (fun hk K q hKs hs=>by simpa [jl8,hsl] using f145_c m K hs hsl hns ((rd_has (q:=qs)).keeps (hH.trans hKs)) ((rd_has (q:=qa)).keeps (hH.trans hKs)))) ?_;exact zx.g):A:=h ⟨b⟩
theorem D3 (b:B) (h:Wr B→A:=by intro zx;refine ja8 rfl zq zK (Post:=fun w new=>OwnS 3 1 w (jhR (jap (x.ln.figs.getD j []))).length (jav (jhR (jap (x.ln.figs.getD j [])))) new) (fun H' hH=>f120_c m H' (jaT _)) ?_;exact zx.g):A:=h ⟨b⟩
theorem D4 (b:B) (h:Wr B→A:=by intro zx;refine ja8 rfl zq zK (Post:=fun v nz=> ∃q q',nz=[⟨true,q,.cells [.int .i64 st].toArray 3 (0,0)⟩,⟨true,q',.cells [.int .i64 x].toArray 3 (0,0)⟩]∧v= .func (.func 145) #[] [.pointer (some ⟨q,0,none⟩),.pointer (some ⟨q',0,none⟩)].toArray) (fun H' hH=>f89_c m H' st x) ?_;exact zx.g):A:=h ⟨b⟩
theorem D5 (b:B) (h:Wr B→A:=by intro zx;refine ja8 rfl zq zK (Post:=fun v nz=>jgw B b (tbL b ps ns ks pw nw cw pb nb cb) (jaX b (jgc b c)) nz v) (fun H' hH=>f88_c m H' (ra.keeps (sq hH)) jnN (fun hk K q hKs hs=>by simpa [jgc] using f149_c m K hs (c:=c) (RdN.keepsN (jm1 (q:=qs)) (hH.trans hKs)))) ?_;exact zx.g):A:=h ⟨b⟩
theorem D6 (b:B) (h:Wr B→A:=by intro zx;refine jk9 rfl zq rfl ?_;exact zx.g):A:=h ⟨b⟩
theorem D7 (b:B) (h:Wr B→A:=by intro zx;refine ja8 rfl zq zK (Post:=fun v nz=> ∃q,nz=[⟨true,q,.cells (ceL c).toArray 37 (0,0)⟩]∧v= .func (.func 149) #[] [.pointer (some ⟨q,0,none⟩)].toArray) (fun H' hH=>f97_c m H' c) ?_;exact zx.g):A:=h ⟨b⟩
theorem D8 (b:B) (h:Wr B→A:=by intro zx;refine jcR rfl rfl (by first|rfl|assumption) zO zO ?_;exact zx.g):A:=h ⟨b⟩
theorem D9 (b:B) (h:Wr B→A:=by intro zx;refine k_st1 rfl zq ?_;exact zx.g):A:=h ⟨b⟩
theorem D10 (b:B) (h:Wr B→A:=by intro zx;refine jab (((h0++[⟨true,qy,.cells [yv].toArray 220 (0,0)⟩,⟨true,qn,.cells [.func (.func 180) #[] [.pointer (some ⟨qx,0,none⟩),.pointer (some ⟨qy,0,none⟩),.pointer (some ⟨qm,0,none⟩),.pointer (some ⟨qn,0,none⟩),.pointer (some ⟨qc,0,none⟩)].toArray].toArray 221 (0,0)⟩])++X)++R2) rfl Tryz.func180 rfl jaa ?_;exact zx.g):A:=h ⟨b⟩
theorem D11 (b:B) (h:Wr B→A:=by intro zx;refine jcR rfl zq rfl zO zO ?_;exact zx.g):A:=h ⟨b⟩
theorem D12 (b:B) (h:Wr B→A:=by intro zx;refine jao [Zp 0,Zp 1,Zp 2,Zp 3,Zp 4,Zp 5,Zp 6,Zp 7,Zp 8,Zp 10,Zp 11,Zp 12,Zr 9,Zr 13,Zp 14,Zf 15,Zp 16,Zf 17] zK zK (gE _) ?_;exact zx.g):A:=h ⟨b⟩
theorem D13 (b:B) (h:Wr B→A:=by intro zx;refine jao [Zp 0,Zp 1,Zp 2,Zp 3,Zp 4,Zp 6,Zp 7,Zp 8,Zp 9,Zp 10,Zr 5,Zr 11,Zp 12,Zp 13,Zp 14,Zp 15,Zp 16,Zp 17,Zp 18,Zp 19,Zp 20,Zp 21,Zp 22,Zp 23,Zp 25,Zp 26,Zp 27,Zp 28,Zp 29,Zr 24,Zr 30,Zp 31,Zp 32,Zp 33,Zp 34,Zp 35,Zp 36,Zp 37,Zp 38] zK zK (gE _) ?_;exact zx.g):A:=h ⟨b⟩
theorem D14 (b:B) (h:Wr B→A:=by intro zx;refine jab (h) rfl Tryz.func176 rfl jaa ?_;exact zx.g):A:=h ⟨b⟩
theorem D15 (b:B) (h:Wr B→A:=by intro zx;refine jah (Post:=fun v=>IsB _ v) rfl rfl zK (fun H' hH=>f187_c m H' _ _) ?_;exact zx.g):A:=h ⟨b⟩
theorem D16 (b:B) (h:Wr B→A:=by intro zx;refine jaR (v:= .slice (lps.getD i default).p (lps.getD i default).ln.figs.length (lps.getD i default).c) rfl zq (rl.fat i 1 zO zO rfl) ?_;exact zx.g):A:=h ⟨b⟩
theorem D17 (b:B) (h:Wr B→A:=by intro zx;refine jea (w:=[0,0,0]) rfl zq rfl zN ?_;exact zx.g):A:=h ⟨b⟩
theorem D18 (b:B) (h:Wr B→A:=by intro zx;refine ja8 rfl zq zK (Post:=fun v nz=> ∃q,v= .pointer (some ⟨q,0,none⟩)∧Sheet B nz b q (tbL b ps ns ks pw nw cw pb nb cb)) (fun H' hH=>f95_r m H' (ra.keeps (sq hH)) hk) ?_;exact zx.g):A:=h ⟨b⟩
theorem D19 (b:B) (h:Wr B→A:=by intro zx;refine jdi rfl rfl zA ?_;exact zx.g):A:=h ⟨b⟩
theorem D20 (b:B) (h:Wr B→A:=by intro zx;refine jah (Post:=fun v=>IsB _ v) rfl zq zK (fun H' hH=>f117_c m H' _ _ _) ?_;exact zx.g):A:=h ⟨b⟩
theorem D21 (b:B) (h:Wr B→A:=by intro zx;refine jab (h) rfl Tryz.func119 rfl jaa ?_;exact zx.g):A:=h ⟨b⟩
theorem D22 (b:B) (h:Wr B→A:=by intro zx;refine jao [Zp 0,Zp 1,Zp 2,Zp 3,Zp 4,Zp 5,Zp 6,Zp 7,Zp 8,Zp 9,Zp 10,Zp 11,Zp 12,Zp 14,Zp 15,Zp 16,Zp 17,Zp 18,Zr 13,Zr 19,Zp 20,Zf 21,Zp 22,Zf 23] zK zK (gE _) ?_;exact zx.g):A:=h ⟨b⟩
theorem D23 (b:B) (h:Wr B→A:=by intro zx;refine jcg (v:= .bool false) rfl zq zA (jp1 zA) ?_;exact zx.g):A:=h ⟨b⟩
theorem D24 (b:B) (h:Wr B→A:=by intro zx;refine k_mul rfl zq (by unfold jeB;omega) ?_;exact zx.g):A:=h ⟨b⟩
theorem D25 (b:B) (h:Wr B→A:=by intro zx;refine jab (((h0++[⟨true,qy,.cells [yv].toArray 220 (0,0)⟩,⟨true,qn,.cells [.func (.func 180) #[] [.pointer (some ⟨qx,0,none⟩),.pointer (some ⟨qy,0,none⟩),.pointer (some ⟨qm,0,none⟩),.pointer (some ⟨qn,0,none⟩),.pointer (some ⟨qc,0,none⟩)].toArray].toArray 221 (0,0)⟩])++X)++R1) rfl Tryz.func180 rfl jaa ?_;exact zx.g):A:=h ⟨b⟩
theorem D26 (b:B) (h:Wr B→A:=by intro zx;refine jab (((h0++[⟨true,qy,.cells [yv].toArray 220 (0,0)⟩,⟨true,qn,.cells [.func (.func 180) #[] [.pointer (some ⟨qx,0,none⟩),.pointer (some ⟨qy,0,none⟩),.pointer (some ⟨qm,0,none⟩),.pointer (some ⟨qn,0,none⟩),.pointer (some ⟨qc,0,none⟩)].toArray].toArray 221 (0,0)⟩])++X)++R) rfl Tryz.func180 rfl jaa ?_;exact zx.g):A:=h ⟨b⟩
theorem D27 (b:B) (h:Wr B→A:=by intro zx;refine jah (Post:=fun v=>IsB _ v) rfl zq zK (fun H' hH=>f117_c _ H' _ _ _) ?_;exact zx.g):A:=h ⟨b⟩
theorem D28 (b:B) (h:Wr B→A:=by intro zx;refine jaR rfl rfl ((sh.latI (i:=k) zO).keeps SubH.sub) ?_;exact zx.g):A:=h ⟨b⟩
theorem D29 (b:B) (h:Wr B→A:=by intro zx;refine jab (h) rfl Tryz.func166 rfl jaa ?_;exact zx.g):A:=h ⟨b⟩
theorem D30 (b:B) (h:Wr B→A:=by intro zx;refine m.weak (h':=h++[⟨true,q2,.cells (tbL b ps ns ks pw nw cw pb nb cb).toArray 25 (0,0)⟩,⟨true,q3,.cells (ceL c).toArray 37 (0,0)⟩]++[⟨true,qs,.cells (ceL c).toArray 37 (0,0)⟩]++n8++[⟨true,q6,.cells [.pointer (some ⟨q9,0,none⟩),.slice p8 (jaf b).length c8].toArray 112 (0,0)⟩]) jeD ?_;exact zx.g):A:=h ⟨b⟩
theorem D31 (b:B) (h:Wr B→A:=by intro zx;refine jgI (c:=(jaI s).getD i 0) rfl zq jjD zO (jlh zO) ?_;exact zx.g):A:=h ⟨b⟩
theorem D32 (b:B) (h:Wr B→A:=by intro zx;refine jao [Zp 0,Zp 1,Zp 2,Zp 3,Zp 4,Zp 5,Zp 6,Zp 7,Zp 8,Zp 9,Zp 10,Zp 12,Zp 13,Zp 14,Zr 11,Zr 15,Zp 16,Zf 17,Zp 18,Zf 19] zK zK (gE _) ?_;exact zx.g):A:=h ⟨b⟩
theorem D33 (b:B) (h:Wr B→A:=by intro zx;refine jco (n':=(ru:Int)) rfl zq zK (jds (by unfold jeB;omega)) ?_;exact zx.g):A:=h ⟨b⟩
theorem D34 (b:B) (h:Wr B→A:=by intro zx;refine ja8 rfl zq zK (Post:=fun v nw=>OwnS 136 13 v (jaf b).length (jax (jaf b)) nw) (fun H' hH=>f96_c m H' (sh.keeps (Ga zW hH)) hk) ?_;exact zx.g):A:=h ⟨b⟩
theorem D35 (b:B) (h:Wr B→A:=by intro zx;refine DrawT.leaf [Zp 0,Zp 2,Zp 4,Zp 9,Zp 11,Zr 1,Zr 3,Zp 5,Zp 6,Zr 7,Zr 10,Zp 12,Zp 13,Zr 14,Zk 8,Zk 15,Zp 16,Zk 17,Zk 18,Zp 19,Zf 20] zK ?_;exact zx.g):A:=h ⟨b⟩
theorem D36 (b:B) (h:Wr B→A:=by intro zx;refine jao [Zp 0,Zp 1,Zp 2,Zp 4,Zp 7,Zp 8,Zp 9,Zp 11,Zr 3,Zp 5,Zr 6,Zr 10,Zp 12,Zr 13,Za 14,Za 15,Zk 16,Zf 17] zK zK (gE _) ?_;exact zx.g):A:=h ⟨b⟩
theorem D37 (b:B) (h:Wr B→A:=by intro zx;refine k_bld rfl zq ?_;exact zx.g):A:=h ⟨b⟩
theorem D38 (b:B) (h:Wr B→A:=by intro zx;refine jao [Zp 0,Zp 1,Zp 3,Zp 4,Zr 2,Zr 5,Zp 6,Zp 7,Zp 8,Zf 9] zK zK (gE _) ?_;exact zx.g):A:=h ⟨b⟩
theorem D39 (b:B) (h:Wr B→A:=by intro zx;refine jaR rfl rfl ((sh.latI (i:=i) zO).keeps SubH.sub) ?_;exact zx.g):A:=h ⟨b⟩
theorem D40 (b:B) (h:Wr B→A:=by intro zx;refine jcZ rfl zq (jaT _).len ?_;exact zx.g):A:=h ⟨b⟩
theorem D41 (b:B) (h:Wr B→A:=by intro zx;refine jbd [Zf 0,Zf 1,Zf 2,Zf 3,Zf 4,Zf 5,Zf 6,Zf 7,Zf 8,Zf 9,Zf 10,Zf 11,Zf 12,Zf 13,Zf 14,Zf 15] zK zK ?_;exact zx.g):A:=h ⟨b⟩
theorem D42 (b:B) (h:Wr B→A:=by intro zx;refine jao [Zp 0,Zp 1,Zp 2,Zp 3,Zp 4,Zp 6,Zp 7,Zp 8,Zp 9,Zp 10,Zr 5,Zr 11,Zk 12,Zp 13] zK zK (gE _) ?_;exact zx.g):A:=h ⟨b⟩
theorem D43 (b:B) (h:Wr B→A:=by intro zx;refine jah (Post:=fun v=>IsB _ v) rfl zq zK (fun H' hH=>f187_c m H' _ _) ?_;exact zx.g):A:=h ⟨b⟩
theorem D44 (b:B) (h:Wr B→A:=by intro zx;refine jah (Post:=fun v=>IsB _ v) rfl zq zK (fun H' hH=>f172_c m H' _) ?_;exact zx.g):A:=h ⟨b⟩
theorem D45 (b:B) (h:Wr B→A:=by intro zx;refine jao [Zp 0,Zp 1,Zp 3,Zp 4,Zr 2,Zr 5,Zp 6] zK zK (gE _) ?_;exact zx.g):A:=h ⟨b⟩
theorem D46 (b:B) (h:Wr B→A:=by intro zx;refine jaR (v:= .slice (lps.getD i default).p (lps.getD i default).ln.figs.length (lps.getD i default).c) rfl zq (rl2.fat i 1 zO zO rfl) ?_;exact zx.g):A:=h ⟨b⟩
theorem D47 (b:B) (h:Wr B→A:=by intro zx;refine jco (n':=(((jaI s).getD i 0).toNat:Int)) rfl zq zK (jds (by unfold jeB;omega)) ?_;exact zx.g):A:=h ⟨b⟩
theorem D48 (b:B) (h:Wr B→A:=by intro zx;refine jao [Zp 0,Zp 1,Zp 3,Zp 8,Zp 10,Zr 2,Zr 4,Zp 5,Zp 6,Zr 7,Zr 9,Zp 11,Zf 12] zK zK (gE _) ?_;exact zx.g):A:=h ⟨b⟩
theorem D49 (b:B) (h:Wr B→A:=by intro zx;refine k_bldZ rfl zq ?_;exact zx.g):A:=h ⟨b⟩
theorem D50 (b:B) (h:Wr B→A:=by intro zx;refine jcs (vs:=[.bool (jha b ((jac b).getD i default)).butt,.int .i64 ((jac b).getD i default).line,.int .i64 (jha b ((jac b).getD i default)).st]) rfl zq rfl ((hpc▸hcr).eat i zO zO) ?_;exact zx.g):A:=h ⟨b⟩
theorem D51 (b:B) (h:Wr B→A:=by intro zx;refine jcs (vs:=[.bool (jha b ((jac b).getD k default)).butt,.int .i64 ((jac b).getD k default).line,.int .i64 (jha b ((jac b).getD k default)).st]) rfl zq rfl ((hpc▸hcr).eat k zO zO) ?_;exact zx.g):A:=h ⟨b⟩
theorem D52 (b:B) (h:Wr B→A:=by intro zx;refine jah (Post:=fun v=>v= .tuple [.agg (jav (jo3 b c f)).toArray,.agg (jav (jp4 b c f)).toArray,.int .i64 (jiB b c f)].toArray) rfl zq zK (fun H' hH=>f109_c m H' (ra.keeps (sq hH)) c f hf) ?_;exact zx.g):A:=h ⟨b⟩
theorem D53 (b:B) (h:Wr B→A:=by intro zx;refine jah (Post:=fun v=>v=_) rfl zq zK (fun H' hH=>f65_r m H' (ra.keeps (sq hH))) ?_;exact zx.g):A:=h ⟨b⟩
theorem D54 (b:B) (h:Wr B→A:=by intro zx;refine jcR rfl zq hfp zO zO ?_;exact zx.g):A:=h ⟨b⟩
theorem D55 (b:B) (h:Wr B→A:=by intro zx;refine jea rfl zq (jaT _).len (by rw [(jaT _).len];rfl) ?_;exact zx.g):A:=h ⟨b⟩
theorem D56 (b:B) (h:Wr B→A:=by intro zx;refine ja8 (Post:=fun v nz=> ∃q,v= .pointer (some ⟨q,0,none⟩)∧Sheet B nz b q (tbL b ps ns ks pw nw cw pb nb cb)) rfl zq zK (fun H' hH=>f95_r _ H' (ra.keeps (sq hH)) hk) ?_;exact zx.g):A:=h ⟨b⟩
theorem D57 (b:B) (h:Wr B→A:=by intro zx;refine jbd [Zf 0,Zf 1,Zf 2,Zf 3,Zf 4,Zf 5,Zf 6,Zf 7,Zf 8,Zf 9,Zf 10,Zf 11] zK zK ?_;exact zx.g):A:=h ⟨b⟩
theorem D58 (b:B) (h:Wr B→A:=by intro zx;refine jcs (vs:=[.int .i64 (lps.getD k default).ln.lat,.slice (lps.getD k default).p (lps.getD k default).ln.figs.length (lps.getD k default).c]) rfl zq rfl (rl.eat k zO zO) ?_;exact zx.g):A:=h ⟨b⟩
theorem D59 (b:B) (h:Wr B→A:=by intro zx;refine jab (h) rfl Tryz.func170 rfl jaa ?_;exact zx.g):A:=h ⟨b⟩
theorem D60 (b:B) (h:Wr B→A:=by intro zx;refine jab (h) rfl Tryz.func125 rfl jaa ?_;exact zx.g):A:=h ⟨b⟩
theorem D61 (b:B) (h:Wr B→A:=by intro zx;refine jah (Post:=fun v=>IsB _ v) rfl zq zK (fun H' hH=>f57_c m H' _ _ _) ?_;exact zx.g):A:=h ⟨b⟩
theorem D62 (b:B) (h:Wr B→A:=by intro zx;refine jao [Zp 0,Zp 1,Zp 2,Zp 4,Zp 5,Zp 6,Zp 7,Zr 3,Zr 8,Zp 9] zK zK (gE _) ?_;exact zx.g):A:=h ⟨b⟩
theorem D63 (b:B) (h:Wr B→A:=by intro zx;refine jao [Zp 0,Zp 1,Zp 2,Zp 3,Zp 6,Zr 4,Zp 5,Zr 7,Zp 8,Zp 9] zK zK (gE _) ?_;exact zx.g):A:=h ⟨b⟩
theorem D64 (b:B) (h:Wr B→A:=by intro zx;refine jao [Zp 0,Zp 1,Zp 3,Zp 4,Zr 2,Zr 5,Zk 6,Zp 7,Zp 8,Zf 9] zK zK (gE _) ?_;exact zx.g):A:=h ⟨b⟩
theorem D65 (b:B) (h:Wr B→A:=by intro zx;refine ja8 rfl zq zK (Post:=fun v new=> ∃w,OwnS 3 1 w (lisP s).length (jav (lisP s)) new∧v= .tuple [w,.bool (ja1 s)].toArray) (fun H' hH=>f55p_c m H' s hl) ?_;exact zx.g):A:=h ⟨b⟩
theorem D66 (b:B) (h:Wr B→A:=by intro zx;refine jcR rfl zq hrp zO zO ?_;exact zx.g):A:=h ⟨b⟩
theorem D67 (b:B) (h:Wr B→A:=by intro zx;refine jaR rfl zq (hcv.keeps SubH.sub) ?_;exact zx.g):A:=h ⟨b⟩
theorem D68 (b:B) (h:Wr B→A:=by intro zx;refine k_mul rfl zq (by rcases sgn_or s with e|e<;>rw [e]<;>unfold jeB<;>omega) ?_;exact zx.g):A:=h ⟨b⟩
theorem D69 (b:B) (h:Wr B→A:=by intro zx;refine jad Tryz.func176 rfl rfl (l:=(.pointer (some ⟨q,0,none⟩))::(.int .i64 (i:Int))::(.int .i64 (k:Int))::(.int .i64 mi)::(.int .i64 mk)::uu119) rfl ?_;exact zx.g):A:=h ⟨b⟩
theorem D70 (b:B) (h:Wr B→A:=by intro zx;refine jaR (v:= .slice ((lw++lb).getD k default).p ((lw++lb).getD k default).ln.figs.length ((lw++lb).getD k default).c) rfl zq (r64.fat k 1 zO zO rfl) ?_;exact zx.g):A:=h ⟨b⟩
theorem D71 (b:B) (h:Wr B→A:=by intro zx;refine jaR rfl rfl (jaz (a) zO zO) ?_;exact zx.g):A:=h ⟨b⟩
theorem D72 (b:B) (h:Wr B→A:=by intro zx;refine ja8 rfl zq zK (Post:=fun v nw=> ∃ps pw pb,v=tbV exT ps 2 2 pw 2 2 pb 1 1∧RawTb B nw exT ps 2 2 pw 2 2 pb 1 1) (fun H' hH=>f87_c _ H') ?_;exact zx.g):A:=h ⟨b⟩
theorem D73 (b:B) (h:Wr B→A:=by intro zx;refine jaR rfl zq (jaz (a) zO zO) ?_;exact zx.g):A:=h ⟨b⟩
theorem D74 (b:B) (h:Wr B→A:=by intro zx;refine DrawT.leaf [Zp 1,Zp 2,Zr 0,Zk 3,Zk 4,Zp 5,Zp 6,Zp 7,Za 8,Zf 9,Zp 10] zK ?_;exact zx.g):A:=h ⟨b⟩
theorem D75 (b:B) (h:Wr B→A:=by intro zx;refine DrawT.leaf [Zp 1,Zp 2,Zr 0,Zk 3,Za 8,Zk 4,Zp 5,Zp 6,Zp 7,Zf 9,Zp 10] zK ?_;exact zx.g):A:=h ⟨b⟩
theorem D76 (b:B) (h:Wr B→A:=by intro zx;refine DrawT.leaf [Zp 1,Zp 2,Zr 0,Za 8,Zk 3,Zk 4,Zp 5,Zp 6,Zp 7,Zf 9,Zp 10] zK ?_;exact zx.g):A:=h ⟨b⟩
theorem D77 (b:B) (h:Wr B→A:=by intro zx;refine jaR rfl zq ((sh.latI (i:=i) zO).keeps SubH.sub) ?_;exact zx.g):A:=h ⟨b⟩
theorem D78 (b:B) (h:Wr B→A:=by intro zx;refine jab (h) rfl Tryz.func66 rfl jaa ?_;exact zx.g):A:=h ⟨b⟩
theorem D79 (b:B) (h:Wr B→A:=by intro zx;refine jcR rfl zq hzp zO zO ?_;exact zx.g):A:=h ⟨b⟩
theorem D80 (b:B) (h:Wr B→A:=by intro zx;refine jah (Post:=fun v=>v= .int .u64 ((jbX x|||2^x.length:Nat):Int)) rfl zq zK (fun H' hH=>f135_c m H' (jbX x) x.length hbs hx12) ?_;exact zx.g):A:=h ⟨b⟩
theorem D81 (b:B) (h:Wr B→A:=by intro zx;refine ja8 rfl zq zK (Post:=fun v nz=>OwnS 9 1 v x.ln.figs.length (jax x.ln.figs) nz) (fun H' hH=>f162_c m H' (rdf.keeps (sq hH)) zO) ?_;exact zx.g):A:=h ⟨b⟩
theorem D82 (b:B) (h:Wr B→A:=by intro zx;refine jcD rfl Tryz.func153 (jcA rfl) ?_;exact zx.g):A:=h ⟨b⟩
theorem D83 (b:B) (h:Wr B→A:=by intro zx;refine jqs rfl rfl k zO zO ?_;exact zx.g):A:=h ⟨b⟩
theorem D84 (b:B) (h:Wr B→A:=by intro zx;refine jcs (vs:=boL ((jaf b).getD j [])) rfl zq (jaG _) (rdB'.eat j zO zO) ?_;exact zx.g):A:=h ⟨b⟩
theorem D85 (b:B) (h:Wr B→A:=by intro zx;refine DrawT.leaf [Zr 0,Zr 1,Zk 2,Zk 3,Zp 4,Zp 5,Zp 6,Za 7,Zf 8,Zp 9] zK ?_;exact zx.g):A:=h ⟨b⟩
theorem D86 (b:B) (h:Wr B→A:=by intro zx;refine DrawT.leaf [Zr 0,Zr 1,Zk 2,Za 7,Zk 3,Zp 4,Zp 5,Zp 6,Zf 8,Zp 9] zK ?_;exact zx.g):A:=h ⟨b⟩
theorem D87 (b:B) (h:Wr B→A:=by intro zx;refine DrawT.leaf [Zr 0,Zr 1,Za 7,Zk 2,Zk 3,Zp 4,Zp 5,Zp 6,Zf 8,Zp 9] zK ?_;exact zx.g):A:=h ⟨b⟩
theorem D88 (b:B) (h:Wr B→A:=by intro zx;refine i_pickT rfl zq ?_;exact zx.g):A:=h ⟨b⟩
theorem D89 (b:B) (h:Wr B→A:=by intro zx;refine jaR rfl zq (jaz (j-1) zO zO) ?_;exact zx.g):A:=h ⟨b⟩
theorem D90 (b:B) (h:Wr B→A:=by intro zx;refine jeZ (Post:=fun v=>v= .pointer (some ⟨q1,2+i,none⟩)) rfl zq (jh5 i zO) (fun H' hH=>jqK m H' q1 i zO) ?_;exact zx.g):A:=h ⟨b⟩
theorem D91 (b:B) (h:Wr B→A:=by intro zx;refine jcg (v:= .bool false) rfl rfl zA (jk4 zA) ?_;exact zx.g):A:=h ⟨b⟩
theorem D92 (b:B) (h:Wr B→A:=by intro zx;refine jab (h) rfl Tryz.func123 rfl jaa ?_;exact zx.g):A:=h ⟨b⟩
theorem D93 (b:B) (h:Wr B→A:=by intro zx;refine jah (Post:=fun v=>v= .int .u64 ((2^(jac b).length-1:Nat):Int)) rfl zq zK (fun H' hH=>f106_c _ H' _ h12) ?_;exact zx.g):A:=h ⟨b⟩
theorem D94 (b:B) (h:Wr B→A:=by intro zx;refine jcR rfl zq hpc zO zO ?_;exact zx.g):A:=h ⟨b⟩
theorem D95 (b:B) (h:Wr B→A:=by intro zx;refine jab (h) rfl Tryz.func19 rfl jaa ?_;exact zx.g):A:=h ⟨b⟩
theorem D96 (b:B) (h:Wr B→A:=by intro zx;refine k_sub rfl rfl (by unfold jeB;omega) ?_;exact zx.g):A:=h ⟨b⟩
theorem D97 (b:B) (h:Wr B→A:=by intro zx;refine jmf w 4 rfl zq rfl rfl zO zO ?_;exact zx.g):A:=h ⟨b⟩
theorem D98 (b:B) (h:Wr B→A:=by intro zx;refine jah (Post:=fun v=>v=_) rfl zq zK (fun H' hH=>f221_c m H' _) ?_;exact zx.g):A:=h ⟨b⟩
theorem D99 (b:B) (h:Wr B→A:=by intro zx;refine jev Tryz.func201 rfl rfl (l:=(.pointer (some ⟨C.wg,0,none⟩))::uu6) rfl ?_;exact zx.g):A:=h ⟨b⟩
theorem D100 (b:B) (h:Wr B→A:=by intro zx;refine jaR rfl zq (rdg.sat k zO zO) ?_;exact zx.g):A:=h ⟨b⟩
theorem D101 (b:B) (h:Wr B→A:=by intro zx;refine jcg (v:= .bool false) rfl zq zA (jnb (decide_eq_false zO)) ?_;exact zx.g):A:=h ⟨b⟩
theorem D102 (b:B) (h:Wr B→A:=by intro zx;refine jcg (v:= .bool true) rfl zq zA (jk4 (decide_eq_true zO)) ?_;exact zx.g):A:=h ⟨b⟩
theorem D103 (b:B) (h:Wr B→A:=by intro zx;refine jao [Zr 0,Zr 1,Zr 3,Zk 2,Zp 4] zK zK (gE _) ?_;exact zx.g):A:=h ⟨b⟩
theorem D104 (b:B) (h:Wr B→A:=by intro zx;refine i_cal rfl zq zK ?_;exact zx.g):A:=h ⟨b⟩
theorem D105 (b:B) (h:Wr B→A:=by intro zx;refine (Md.starC Tryz.prog B).weak (h':=ro h) (by simpa using jo2 (B:=B) h []) ?_;exact zx.g):A:=h ⟨b⟩
theorem D106 (b:B) (h:Wr B→A:=by intro zx;refine jaR rfl zq (jaz (f+root) zO zO) ?_;exact zx.g):A:=h ⟨b⟩
theorem D107 (b:B) (h:Wr B→A:=by intro zx;refine jaR rfl zq (jaz (f+ch) zO zO) ?_;exact zx.g):A:=h ⟨b⟩
theorem D108 (b:B) (h:Wr B→A:=by intro zx;refine jab (h) rfl Tryz.func121 rfl jaa ?_;exact zx.g):A:=h ⟨b⟩
theorem D109 (b:B) (h:Wr B→A:=by intro zx;refine jcR rfl rfl rfl zO zO ?_;exact zx.g):A:=h ⟨b⟩
theorem D110 (b:B) (h:Wr B→A:=by intro zx;refine jaR (v:= .int .i64 (lps.getD (i-1) default).ln.lat) rfl rfl (rl.fat (i-1) 0 zO zO rfl) ?_;exact zx.g):A:=h ⟨b⟩
theorem D111 (b:B) (h:Wr B→A:=by intro zx;refine jgI (c:=s.getD i 0) rfl rfl jjD zO (jlh zO) ?_;exact zx.g):A:=h ⟨b⟩
theorem D112 (b:B) (h:Wr B→A:=by intro zx;refine jcD rfl Tryz.func201 (jbD rfl) ?_;exact zx.g):A:=h ⟨b⟩
theorem D113 (b:B) (h:Wr B→A:=by intro zx;refine jcg (v:= .bool true) rfl zq zA (jp1 zA) ?_;exact zx.g):A:=h ⟨b⟩
theorem D114 (b:B) (h:Wr B→A:=by intro zx;refine jaR rfl zq (rd.iat k zO zO) ?_;exact zx.g):A:=h ⟨b⟩
theorem D115 (b:B) (h:Wr B→A:=by intro zx;refine jo0 rfl zq ⟨rfl,.inl rfl⟩ uptrW.1 uptrW.2.1 uptrW.2.2 ?_;exact zx.g):A:=h ⟨b⟩
theorem D116 (b:B) (h:Wr B→A:=by intro zx;refine jab (h++[jbc bk ys junk]) rfl Tryz.func216 rfl jaa ?_;exact zx.g):A:=h ⟨b⟩
theorem D117 (b:B) (h:Wr B→A:=by intro zx;refine jab (h++[jbc bk ys junk]) rfl Tryz.func186 rfl jaa ?_;exact zx.g):A:=h ⟨b⟩
theorem D118 (b:B) (h:Wr B→A:=by intro zx;refine jhz [Zf 0] [1] zK zK ?_;exact zx.g):A:=h ⟨b⟩
theorem D119 (b:B) (h:Wr B→A:=by intro zx;refine jaR rfl zq (rx.keeps SubH.sub) ?_;exact zx.g):A:=h ⟨b⟩
theorem D120 (b:B) (h:Wr B→A:=by intro zx;refine jab (h) rfl Tryz.func210 rfl jaa ?_;exact zx.g):A:=h ⟨b⟩
theorem D121 (b:B) (h:Wr B→A:=by intro zx;refine jab (h) rfl Tryz.func109 rfl jaa ?_;exact zx.g):A:=h ⟨b⟩
theorem D122 (b:B) (h:Wr B→A:=by intro zx;refine jcR rfl zq hyp zO zO ?_;exact zx.g):A:=h ⟨b⟩
theorem jiA (b:B) (h:Wr B→A:=by intro zx;refine D14 ?_;refine Zs ?_;exact zx.g):A:=h ⟨b⟩
theorem D124 (b:B) (h:Wr B→A:=by intro zx;refine D19 ?_;refine Z3 ?_;exact zx.g):A:=h ⟨b⟩
theorem jhd (b:B) (h:Wr B→A:=by intro zx;refine D6 ?_;refine Z3 ?_;exact zx.g):A:=h ⟨b⟩
theorem D126 (b:B) (h:Wr B→A:=by intro zx;refine Z2 ?_;refine D0 ?_;exact zx.g):A:=h ⟨b⟩
theorem D127 (b:B) (h:Wr B→A:=by intro zx;refine Zs ?_;refine jql rfl rfl ?_;exact zx.g):A:=h ⟨b⟩
theorem D128 (b:B) (h:Wr B→A:=by intro zx;refine k_subW (z:=(ru:Int)-48) rfl zq zL ?_;refine jco (n':=(ru:Int)-48) rfl zq zK (jds (by unfold jeB;omega)) ?_;exact zx.g):A:=h ⟨b⟩
theorem jlP (b:B) (h:Wr B→A:=by intro zx;refine D21 ?_;refine Zs ?_;exact zx.g):A:=h ⟨b⟩
theorem jnX (b:B) (h:Wr B→A:=by intro zx;refine D0 ?_;refine D126 ?_;exact zx.g):A:=h ⟨b⟩
theorem D131 (b:B) (h:Wr B→A:=by intro zx;refine D49 ?_;refine D17 ?_;exact zx.g):A:=h ⟨b⟩
theorem jnW (b:B) (h:Wr B→A:=by intro zx;refine D131 ?_;refine Z3 ?_;exact zx.g):A:=h ⟨b⟩
theorem jlO (b:B) (h:Wr B→A:=by intro zx;refine D9 ?_;refine D0 ?_;exact zx.g):A:=h ⟨b⟩
theorem D134 (b:B) (h:Wr B→A:=by intro zx;refine jgk (v:= .int .u64 (v:Int)) rfl zq (.inr rfl) (jna zA (jcK v 0 hv70 zO).hi) ?_;refine jew rfl zq zK (jcK v 0 hv70 zO).hi32 ?_;exact zx.g):A:=h ⟨b⟩
theorem D135 (b:B) (h:Wr B→A:=by intro zx;refine jqs rfl zq k zO zN ?_;refine jaR rfl zq (most_atI k zO) ?_;exact zx.g):A:=h ⟨b⟩
theorem jnV (b:B) (h:Wr B→A:=by intro zx;refine D29 ?_;refine Zs ?_;exact zx.g):A:=h ⟨b⟩
theorem D137 (b:B) (h:Wr B→A:=by intro zx;refine jcg (v:= .int .u64 0) rfl zq zA (jeY ((jcK v 0 hv70 zO).lo)) ?_;refine jew rfl zq zK (jcK v 0 hv70 zO).lo32 ?_;exact zx.g):A:=h ⟨b⟩
theorem D138 (b:B) (h:Wr B→A:=by intro zx;refine jea rfl zq (jei b c f).len (by rw [(jei b c f).len];rfl) ?_;refine jea rfl zq (jeq b c f).len (by rw [(jeq b c f).len];rfl) ?_;exact zx.g):A:=h ⟨b⟩
theorem D139 (b:B) (h:Wr B→A:=by intro zx;refine D124 ?_;refine D124 ?_;exact zx.g):A:=h ⟨b⟩
end
end Go.Lo
namespace Go.Lo
theorem E0 (h:A:=by first|exact ⟨rfl,IsB.yes zO⟩|exact ⟨rfl,IsB.no zO⟩):A:=h
theorem E1 (h:A:=by exact m.weak jaa (hnext1 _ _ _ zO ⟨i+1,zs,rfl,by omega,by omega,hzw,hin.stop zO zO zO,exU rfl,rfl⟩)):A:=h
theorem E2 (h:A:=by first|exact ⟨rfl,by rw [if_pos zO]⟩|exact ⟨rfl,by rw [if_neg zO,if_pos zO]⟩|exact ⟨rfl,by rw [if_neg zO,if_neg zO]⟩):A:=h
theorem E3 (h:A:=by exact ⟨rfl,by rw [if_neg zO,if_pos zO]⟩):A:=h
theorem E4 (h:A:=by exact ⟨rfl,by rw [if_neg zO,if_neg zO]⟩):A:=h
theorem E5 (h:A:=by exact ⟨rfl,ys,rfl,hsw,hre.stop fun c h1 h2=>by omega⟩):A:=h
theorem E6 (h:A:=by exact ⟨rfl,ys,rfl,hsw,hre.stop fun c h1 h2=>by have:=hmax c h1 h2;omega⟩):A:=h
theorem E7 (h:A:=by exact m.weak jaa (hnext _ _ _ zO ⟨ch,jbb ys (f+root) (f+ch),rfl,by omega,by omega,.step (f+root) (f+ch) ⟨by omega,by omega⟩ ⟨by omega,by omega⟩ hsw,hre.step hr1 hch zO zO hmax zD,exU rfl,rfl⟩)):A:=h
theorem E8 (h:A:=by first|exact ⟨true,exU rfl,rfl,⟨fun _=>by omega,fun _=>rfl⟩⟩|exact ⟨false,exU rfl,rfl,⟨fun e=>(by cases e),fun e=>zO⟩⟩):A:=h
theorem E9 (h:A:=by exact ⟨false,exU rfl,rfl,⟨fun e=>(by cases e),fun e=>zO⟩⟩):A:=h
theorem E10 (h:A:=by first|exact ⟨true,ys,rfl,rfl,hsw,fun _=>by rw [show b=i1 by omega];exact hso2⟩|exact ⟨false,ys,rfl,rfl,hsw,fun e=>by cases e⟩):A:=h
theorem E11 (h:A:=by exact ⟨false,ys,rfl,rfl,hsw,fun e=>by cases e⟩):A:=h
theorem E12 (h:A:=by exact ⟨zs,hzw,by have:=hin.stop zO zO zO;rwa [show i1-1+1=i1 by omega] at this,exU rfl,rfl⟩):A:=h
theorem E13 (h:A:=by exact ⟨y1,hswy,fun p q h1 h2 h3=>by omega,exU rfl,rfl⟩):A:=h
theorem E14 (h:A:=by exact ⟨i1,_,by omega,by omega,by first|exact hvw|exact hsw4,by first|exact hvo|exact hso4,exU rfl,rfl⟩):A:=h
theorem E15 (h:A:=by exact ⟨_,_,_,by omega,by omega,by first|exact hs1.trans hrw|exact hs1,exU rfl,rfl⟩):A:=h
theorem E16 (h:A:=by exact ⟨_,by first|exact hs2.trans hiw|exact hs2,exU rfl,rfl⟩):A:=h
theorem E17 (h:A:=by exact m.weak jaa (hnext _ _ _ zO ⟨p+1,k,n+1,v.set k (10*v.getD k 0+((ru:Int)-48)),rfl,by rw [←hrd,hdr,hru];exact (jjT zO (by rw [←hru];omega)).symm,by simpa using hv3,hk2,by omega,by omega,jhv (by rw [jbq zO] at hc;omega) hvb,fun j hj=>by rw [set_other zO];exact hvz j zO,exU rfl,rfl⟩)):A:=h
theorem E18 (h:A:=by exact m.weak jaa (hnext _ _ _ zO ⟨k+1,rfl,by omega,exU rfl,rfl⟩)):A:=h
theorem E19 (h:A:=by exact m.weak jaa (hnext _ _ _ zO ⟨k+1,wp,wc,M,rfl,by omega,by rw [hks];exact how,exU rfl,rfl⟩)):A:=h
theorem E20 (h:A:=by exact m.weak jaa (hnext _ _ _ zO ⟨k+1,p9,c9,n9,rfl,by omega,by rw [hkl,hks,jbh];exact o9,exU rfl,rfl⟩)):A:=h
theorem E21 (h:A:=by exact ⟨rfl,_,rfl,by unfold jeB;omega,⟨fun _=>hse▸jak (l:=ss) zO,fun _=>by omega⟩⟩):A:=h
theorem E22 (h:A:=by first|exact (jcP zD).symm|exact (jcO zD zD).symm):A:=h
theorem E23 (h:A:=by exact (jbT zO ⟨_,by rw [jaJ zO,jaZ _ _ zO],by omega⟩).symm):A:=h
theorem E24 (h:A:=by exact (jbV zO hnu zO).symm):A:=h
theorem E25 (h:A:=by exact (jbU zO hnu zO fun e=>by have:=e _ (jak (l:=x.ln.figs) (i:=k) zO);rw [show x.ln.figs.getD k default=x.ln.figs.getD k [] from rfl,jbl,hfo,decide_eq_false (show¬x.ln.figs.getD k []=jiN from hda)] at this;cases this).symm):A:=h
theorem E26 (h:A:=by exact m.weak jaa (hnext1 _ _ _ zO ⟨i+1,rfl,by omega,by rw [hlm,hdr,jg2 zO hnu zO hall,jaJ zO,Nat.add_sub_cancel,jaZ _ _ zO,←hx],exU rfl,rfl⟩)):A:=h
theorem E27 (h:A:=by exact m.weak jaa (hnext2 _ _ _ zO ⟨k+1,rfl,by omega,exU rfl,rfl⟩)):A:=h
theorem E28 (h:A:=by exact ⟨rfl,IsB.no fun e=>by have:=e.1;omega⟩):A:=h
theorem E29 (h:A:=by exact ⟨rfl,IsB.no fun e=>by have:=e.2 i zO;rw [←hcc] at this;unfold jio at this;omega⟩):A:=h
theorem E30 (h:A:=by exact ⟨rfl,IsB.no fun e=>by have:=e.2 0 zO;unfold jio at this;omega⟩):A:=h
theorem E31 (h:A:=by exact ⟨rfl,IsB.yes ⟨by omega,fun j hj=>hch j zO⟩⟩):A:=h
theorem E32 (h:A:=by exact m.weak jaa (hnext _ _ _ zO ⟨i+1,p9,c9,n9,i+1,rfl,by omega,hk2.symm,by rw [hkl,hks,jjp,←hf];exact o9,exU rfl,rfl⟩)):A:=h
theorem E33 (h:A:=by exact jaV fun e=>e.2.1 ⟨(jaW (n:=48) zA).1 zD,hz⟩):A:=h
theorem E34 (h:A:=by exact jaV fun e=>absurd (e.2.2 i zO) zD):A:=h
theorem E35 (h:A:=by exact absurd ((jaW (n:=48) zA).2 e.1) zD):A:=h
theorem E36 (h:A:=by exact ⟨rfl,_,IsB.yes (.inl hq),by rw [jcf,if_pos hq]⟩):A:=h
theorem E37 (h:A:=by exact ⟨rfl,_,IsB.no (by rintro (e|e);exact hq e;exact of_decide_eq_false hno e.1),by rw [jcf,if_neg hq]⟩):A:=h
theorem E38 (h:A:=by exact ⟨rfl,_,IsB.yes (.inr ⟨of_decide_eq_true hno,by assumption⟩),by rw [jcf,if_neg hq]⟩):A:=h
theorem E39 (h:A:=by exact ⟨rfl,_,IsB.no (by rintro (e|e);exact hq e;exact absurd e.2 zD),by rw [jcf,if_neg hq]⟩):A:=h
theorem E40 (h:A:=by exact ⟨⟨fun x=>by simp at x,fun x=>absurd x this⟩,fun x=>absurd x this⟩):A:=h
theorem E41 (h:A:=by exact ⟨rfl,IsB.no fun e=>by rcases (jdK s).1 e with e|e;rw [hfo] at e;cases e;exact hda e⟩):A:=h
theorem E42 (h:A:=by exact (jbU zO hnu zO fun e=>absurd (e _ (jak (l:=x.ln.figs) (i:=k) zO)) zD).symm):A:=h
theorem E43 (h:A:=by exact (jaL (jcT zO) zA).symm):A:=h
theorem E44 (h:A:=by exact (jaL (jcS zO zO) zA).symm):A:=h
theorem E45 (h:A:=by exact (je4 hh0 zO zD).symm):A:=h
theorem E46 (h:A:=by exact m.weak jaa (hnext3 _ _ _ zO ⟨k+1,wpk,wck,Mk,rfl,by omega,by rw [hks];exact howk,exU rfl,rfl⟩)):A:=h
theorem E47 (h:A:=by exact (decide_eq_true (gu fun e=>by rw [this.2 zO] at hr;cases hr)).symm):A:=h
theorem E48 (h:A:=by first|exact congrArg Value.bool (decide_eq_true zO).symm|exact congrArg Value.bool (decide_eq_false zO).symm):A:=h
theorem E49 (h:A:=by exact congrArg Value.bool (decide_eq_false zO).symm):A:=h
theorem E50 (h:A:=by exact ⟨rfl,congrArg Value.bool fall_turn.symm⟩):A:=h
theorem E51 (h:A:=by exact ⟨_,rfl,.inl ⟨rfl,by rw [hgp,if_pos (by first|exact .inl zO|exact .inr (by simpa using hc)),gb];exact hRp⟩⟩):A:=h
theorem E52 (h:A:=by first|exact .inl zO|exact .inr (by simpa using hc)):A:=h
theorem E53 (h:A:=by first|exact jaj.1 zO zO|exact jaj.2.1 zO zO|exact jaj.2.2.1 zO zO|exact jaj.2.2.2 zO zO):A:=h
theorem E54 (h:A:=by exact m.weak jaa (hnext1 _ _ _ zO ⟨i+1,fd,rfl,by omega,by rw [hst];exact hfd,exU rfl,rfl⟩)):A:=h
theorem E55 (h:A:=by exact hnext2 _ _ _ zO ⟨k+1,lps.set k ⟨x.ln,p44,c44⟩,_,FM++n44,rfl,by omega,by simpa using hlen,by rw [jgH (by rw [hxk])];exact hmap,fun j hj=>by rw [jli zO];exact hsame j zO,OwnS.blk (junk:=junk) (by rw [jbn];simp [hlen]) (by have:=hwc;rw [jbn] at this⊢;simpa using this) hwn,by rw [jkw zO];exact .snoc hof o44,exU rfl,rfl⟩):A:=h
theorem E56 (h:A:=by exact OwnS.blk (junk:=junkf) (by rw [jaO]) (by have:=hfc;rw [jaO] at this⊢;simpa using this) (by simpa using hfn)):A:=h
theorem E57 (h:A:=by exact hnext1 _ _ _ zO ⟨2,wp,wc,_,_,M0,_,rfl,by omega,fun e=>by omega,fun e=>by omega,fun _=>hh0,fun _=>hHalf,exU rfl,rfl⟩):A:=h
theorem E58 (h:A:=by exact hnext1 _ _ _ zO ⟨1,_,_,pb,cb,_,[],rfl,by omega,fun e=>by omega,fun _=>⟨rfl,rfl,rfl⟩,fun _=>hHalf,fun e=>by omega,exU rfl,(by rw [gb])⟩):A:=h
theorem E59 (h:A:=by exact ⟨n37,rfl,x0,y1,z1,w1,y2,z2,w2,y3,z3,w3,by rw [e0],fun e=>ha1 (by rwa [e0] at e),fun e=>⟨_,_,_,_,_,_,_,_,_,ha2 (by rwa [e0] at e),ra2⟩⟩):A:=h
theorem E60 (h:A:=by exact IsB.yes (.inr ⟨by omega,(jb7 zO).1 zO⟩)):A:=h
theorem E61 (h:A:=by exact IsB.no fun e=>e.elim (fun e=>by omega) (fun e=>by have:=(jb7 (xs:=xs) (ys:=ys) zO).2 e.2;omega)):A:=h
theorem E62 (h:A:=by exact IsB.no fun e=>e.elim (fun e=>by omega) (fun e=>by omega)):A:=h
theorem E63 (h:A:=by exact ⟨rfl,IsB.yes (.inl zO)⟩):A:=h
theorem E64 (h:A:=by exact ⟨rfl,IsB.yes (.inr (.inl zO))⟩):A:=h
theorem E65 (h:A:=by exact ⟨rfl,IsB.yes (.inr (.inr (.inl zO)))⟩):A:=h
theorem E66 (h:A:=by exact ⟨rfl,IsB.yes (.inr (.inr (.inr (.inl ⟨j,by omega,by omega⟩))))⟩):A:=h
theorem E67 (h:A:=by exact ⟨rfl,IsB.yes (.inr (.inr (.inr (.inr (.inl hgw)))))⟩):A:=h
theorem E68 (h:A:=by exact ⟨rfl,IsB.yes (.inr (.inr (.inr (.inr (.inr hgb)))))⟩):A:=h
theorem E69 (h:A:=by first|exact ⟨rfl,IsB.no fun e=>e.1 hgr⟩|exact ⟨rfl,IsB.yes ⟨hgr,by omega⟩⟩|exact ⟨rfl,IsB.no fun e=>by have:=e.2;omega⟩):A:=h
theorem E70 (h:A:=by first|exact (jau.2 zO).symm|exact (gt.2 fun e=>by have:=jau.1 e;omega).symm):A:=h
theorem E71 (h:A:=by exact (gt.2 fun e=>by have:=jau.1 e;omega).symm):A:=h
theorem E72 (h:A:=by first|exact (jat.2 zO).symm|exact (gt.2 fun e=>by have:=jat.1 e;omega).symm):A:=h
theorem E73 (h:A:=by exact (gt.2 fun e=>by have:=jat.1 e;omega).symm):A:=h
theorem E74 (h:A:=by exact ⟨rfl,congrArg Value.bool (jca zD hbt hab)⟩):A:=h
theorem E75 (h:A:=by exact hnext _ _ _ zO ⟨k+1,wr,ms++[(vn:Int)],js++[k],wp,p9m,p9l,p9n,wc,c9m,c9l,c9n,Mw,n9m,n9l,n9n,rfl,by omega,hR.keep hvm,how,o9m,by rw [hcel];exact o9l,by rw [hnow];exact o9n,exU rfl,rfl⟩):A:=h
end Go.Lo
namespace Go.Proofs
open Go.Lo
open Go.Conc (G)
section
theorem f57_c (m:Md Tryz.prog B) (h:Hp) (x lo hi:Int):FnC m 57 #[.int .i64 x,.int .i64 lo,.int .i64 hi] h fun v h'=>h'=h∧IsB (lo≤x∧x≤hi) v:=by
 refine jad Tryz.func57 rfl rfl (l:=(.int .i64 x)::(.int .i64 lo)::(.int .i64 hi)::uu12) rfl ?_
 intro cf cs K hK
 refine Z8 ?_
 refine jbL rfl zq (fun hc=>?_) (fun hc=>?_)
 ·refine Z3 ?_
  refine jbL rfl rfl (fun hc=>?_) (fun hc=>?_);all_goals
   refine Z4 ?_;refine jab (h) rfl Tryz.func57 rfl jaa ?_;refine Zs ?_
   exact E0
 ·refine Z8 ?_;refine jab (h) rfl Tryz.func57 rfl jaa ?_;refine Zs ?_
  exact E0
theorem ext_getD (hl:xs.length=ys.length) (he: ∀i,i<xs.length→xs.getD i 0=ys.getD i 0):xs=ys:=by
 apply vB hl
 intro i h1 h2
 have:=he i h1
 rw [gB,gC h1,gB,gC h2] at this
 exact this
theorem jcn {x:Int}:x∈xs↔ ∃i,i<xs.length∧xs.getD i 0=x:=by
 rw [GE];constructor
 ·rintro ⟨i,h,e⟩;exact ⟨i,h,by rw [gB,gC h];exact e⟩
 ·rintro ⟨i,h,e⟩;exact ⟨i,h,by rw [gB,gC h] at e;exact e⟩
def jbC:List Int→List Int→Bool
 |a::r,b::s=>if a=b then jbC r s else decide (a<b)
 |[],_::_=>true
 |_,[]=>false
def jeg (xs ys:List Int):Prop:=xs.length<ys.length∨(xs.length=ys.length∧jbC xs ys=true)
def jdL (n:Nat):List Int:=(List.range n).map fun i:Nat=>(i:Int)
theorem jia (n:Nat):jdL (n+1)=jdL n++[(n:Int)]:=by simp [jdL,GO]
theorem f42_c (m:Md Tryz.prog B) (h:Hp) {c n2 c2:Nat} (rd:RdS B h 1 (.slice p n c) n (jav xs)) (hn:n≤1000000) (rd2:RdS B h 1 (.slice p2 n2 c2) n2 (jav ys)):FnC m 42 #[.slice p n c,.slice p2 n2 c2] h fun v h'=>h'=h∧IsB (xs=ys) v:=by
 have hl:=rd.ilen
 have hl2:=rd2.ilen
 refine jad Tryz.func42 rfl rfl (l:=(.slice p n c)::(.slice p2 n2 c2)::uu24) rfl ?_
 intro cf cs K hK
 refine Z11 ?_
 refine ja5 rfl zq (fun hc=>?_) (fun hc=>?_)
 ·refine Z7 ?_;refine jab (h) rfl Tryz.func42 rfl jaa ?_;refine Zs ?_
  exact ⟨rfl,IsB.no fun e=>by subst e;omega⟩
 ·refine Z9 ?_
  refine jag (fun nn l h'=> ∃(k:Nat),nn=n-k∧(k≤n)∧(∀i,i<k→xs.getD i 0=ys.getD i 0)∧(∃U:Nat→Value,l=((.slice p n c)::(.slice p2 n2 c2)::(U 2)::(U 3)::(U 4)::(.int .i64 (k:Int))::vw20 U 6 []))∧h=h') _ ⟨0,rfl,by omega,by omega,exU rfl,rfl⟩ ?_;rintro nn l h' ⟨k,rfl,hk,he,⟨U,rfl⟩,rfl⟩ hnext;refine Z6 ?_
  refine jal rfl zq (fun hc=>?_) (fun hc=>?_)
  ·refine Z6 ?_;refine jao [Zp 0,Zp 1,Zp 2,Zp 4,Zp 5,Zp 6,Zr 3,Zr 7,Zp 8] zK zK (gE _) ?_;refine Z2 ?_
   obtain ⟨rd_b,rd_o,rfl⟩:=rd.ptr zO
   refine D0 ?_;refine Z2 ?_
   obtain ⟨rd2_b,rd2_o,rfl⟩:=rd2.ptr zO
   refine D0 ?_;refine D114 ?_;refine jaR rfl zq (rd2.iat k zO zO) ?_
   refine ja5 rfl zq (fun hc=>?_) (fun hc=>?_)
   ·refine Z7 ?_;refine jab (h) rfl Tryz.func42 rfl jaa ?_;refine Zs ?_
    exact ⟨rfl,IsB.no fun e=>by subst e;contradiction⟩
   ·refine Z9 ?_
    exact m.weak jaa (hnext _ _ _ zO ⟨k+1,rfl,by omega,fun i hi=>by
     rcases GX i k with h1|h1
     ·exact he i h1
     ·obtain rfl:i=k:=by omega
      assumption,exU rfl,rfl⟩)
  ·refine Z8 ?_;refine jab (h) rfl Tryz.func42 rfl jaa ?_;refine Zs ?_
   exact ⟨rfl,IsB.yes (ext_getD zO fun i hi=>he i zO)⟩
theorem f35_c (m:Md Tryz.prog B) (h:Hp) {c:Nat} (x:Int) (rd:RdS B h 1 (.slice p n c) n (jav xs)) (hn:n≤1000000):FnC m 35 #[.slice p n c,.int .i64 x] h fun v h'=>h'=h∧IsB (x∈xs) v:=by
 have hl:=rd.ilen
 refine jad Tryz.func35 rfl rfl (l:=(.slice p n c)::(.int .i64 x)::uu16) rfl ?_
 intro cf cs K hK
 refine Z10 ?_
 refine jag (fun nn l h'=> ∃(k:Nat),nn=n-k∧(k≤n)∧(∀i,i<k→xs.getD i 0≠x)∧(∃U:Nat→Value,l=((.slice p n c)::(.int .i64 x)::(U 2)::(U 3)::(U 4)::(.int .i64 (k:Int))::vw12 U 6 []))∧h=h') _ ⟨0,rfl,by omega,by omega,exU rfl,rfl⟩ ?_;rintro nn l h' ⟨k,rfl,hk,he,⟨U,rfl⟩,rfl⟩ hnext;refine Z6 ?_
 refine jal rfl zq (fun hc=>?_) (fun hc=>?_)
 ·refine Z9 ?_
  obtain ⟨rd_b,rd_o,rfl⟩:=rd.ptr zO
  refine D0 ?_;refine D114 ?_;refine Zs ?_
  refine jaC rfl zq (fun hc=>?_) (fun hc=>?_)
  ·refine Z7 ?_;refine jab (h) rfl Tryz.func35 rfl jaa ?_;refine Zs ?_
   exact ⟨rfl,IsB.yes (jcn.2 ⟨k,by omega,by assumption⟩)⟩
  ·refine Z9 ?_
   exact m.weak jaa (hnext _ _ _ zO ⟨k+1,rfl,by omega,fun i hi=>by
    rcases GX i k with h1|h1
    ·exact he i h1
    ·obtain rfl:i=k:=by omega
     assumption,exU rfl,rfl⟩)
 ·refine Z8 ?_;refine jab (h) rfl Tryz.func35 rfl jaa ?_;refine Zs ?_
  exact ⟨rfl,IsB.no fun e=>by
   obtain ⟨i,h1,h2⟩:=jcn.1 e
   exact he i zO h2⟩
def Asc (ys:List Int):Prop:=ys.Pairwise (· < ·)
theorem Asc.eq: ∀{xs ys:List Int},Asc xs→Asc ys→(∀z,z∈xs↔z∈ys)→xs=ys
 |[],[],_,_,_=>rfl
 |[],b::s,_,_,h=>by have:=(h b).2 zS;simp at this
 |a::r,[],_,_,h=>by have:=(h a).1 zS;simp at this
 |a::r,b::s,h1,h2,h=>by
  unfold Asc at h1 h2
  rw [vX] at h1 h2
  have hab:a=b:=by
   rcases gN.1 ((h a).1 zS) with e|e
   ·exact e
   ·rcases gN.1 ((h b).2 zS) with e'|e'
    ·exact e'.symm
    ·have:=h1.1 b e';have:=h2.1 a e;omega
  subst hab
  have:r=s:=Asc.eq h1.2 h2.2 fun z=>by
   constructor
   ·intro hz
    rcases gN.1 ((h z).1 (gL _ hz)) with e|e
    ·have:=h1.1 z hz;omega
    ·exact e
   ·intro hz
    rcases gN.1 ((h z).2 (gL _ hz)) with e|e
    ·have:=h2.1 z hz;omega
    ·exact e
  rw [this]
theorem OwnS.full {t q:Nat} (hl:cs.length=n*k):OwnS t k (.slice (some ⟨q,0,none⟩) n n) n cs [⟨true,q,.cells cs.toArray t (0,0)⟩]:=by
 have:=OwnS.blk (t:=t) (k:=k) (b:=q) (n:=n) (cap:=n) (cs:=cs) (junk:=[]) hl (by simpa using hl) (gK _)
 simpa using this
def RdI (B:Array Obj) (h:Hp) (w:Value) (xs:List Int):Prop:= ∃p c,w= .slice p xs.length c∧RdS B h 1 (.slice p xs.length c) xs.length (jav xs)
theorem RdI.nil:RdI B h (.slice none 0 0) []:=⟨none,0,rfl,none,0,rfl,rfl,.inl ⟨rfl,rfl⟩⟩
theorem f174_c (m:Md Tryz.prog B) (h:Hp) {c:Nat} (rd:RdS B h 1 (.slice p n c) n (jav xs)) (hn:n≤100000) (hcall:jbE Tryz.prog fid=true) (hf: ∀i,i<n→ ∀H':Hp,h.Sublist H'→FnC m fid (fc++[Value.int .i64 (xs.getD i 0)].toArray++cp) H' fun v h'=>h'=H'∧IsB (pr i) v):FnC m 174 #[.slice p n c,.func (.func fid) fc cp] h fun v h'=>h'=h∧ ∃j:Int,v= .int .i64 j∧(0≤j↔ ∃i,i<n∧pr i):=by
 refine jad Tryz.func174 rfl rfl (l:=(.slice p n c)::(.func (.func fid) fc cp)::uu17) rfl ?_
 intro cf cs K hK
 refine Z12 ?_
 refine jag (fun nn l h'=> ∃(k:Nat),nn=n-k∧(k≤n)∧(∀i,i<k→ ¬pr i)∧(∃U:Nat→Value,l=((.slice p n c)::(.func (.func fid) fc cp)::vw5 U 2 ((.int .i64 (n:Int))::(.int .i64 (k:Int))::jo5 U 9 [])))∧h=h') _ ⟨0,rfl,by omega,fun i hi=>by omega,exU rfl,rfl⟩ ?_;rintro nn l h' ⟨k,rfl,hk,he,⟨U,rfl⟩,rfl⟩ hnext;refine Z2 ?_
 refine jal rfl zq (fun hc=>?_) (fun hc=>?_)
 ·refine Z16 ?_
  obtain ⟨rd_b,rd_o,rfl⟩:=rd.ptr zO
  refine D0 ?_;refine D114 ?_;refine jeZ (Post:=fun v=>IsB _ v) rfl zq hcall (fun H' hH=>hf k zO H' hH) ?_
  rintro v (⟨hc,rfl⟩|⟨hc,rfl⟩)
  ·refine Z9 ?_;refine jab (h) rfl Tryz.func174 rfl jaa ?_;refine Zs ?_
   first
    |exact ⟨rfl,_,rfl,fun _=>⟨k,by omega,hc⟩,fun _=>by omega⟩
    |(refine ⟨rfl,_,rfl,fun e=>absurd e zA,?_⟩;rintro ⟨i,h1,h2⟩;exact absurd h2 (he i zO))
  ·refine Z9 ?_
   exact m.weak jaa (hnext _ _ _ zO ⟨k+1,rfl,by omega,fun i hi=>by
    rcases GX i k with h1|h1
    ·exact he i h1
    ·obtain rfl:i=k:=by omega
     exact hc,exU rfl,rfl⟩)
 ·refine Z9 ?_;refine jab (h) rfl Tryz.func174 rfl jaa ?_;refine Zs ?_
  first
   |exact ⟨rfl,_,rfl,fun _=>⟨k,by omega,hc⟩,fun _=>by omega⟩
   |(refine ⟨rfl,_,rfl,fun e=>absurd e zA,?_⟩;rintro ⟨i,h1,h2⟩;exact absurd h2 (he i zO))
theorem f136_c (m:Md Tryz.prog B) (h:Hp) {c:Nat} (rd:RdS B h 1 (.slice p n c) n (jav xs)) (hn:n≤100000) (hcall:jbE Tryz.prog fid=true) (hf: ∀i,i<n→ ∀H':Hp,h.Sublist H'→FnC m fid (fc++[Value.int .i64 (xs.getD i 0)].toArray++cp) H' fun v h'=>h'=H'∧IsB (pr i) v):FnC m 136 #[.slice p n c,.func (.func fid) fc cp] h fun v h'=>h'=h∧IsB (∃i,i<n∧pr i) v:=by
 refine jad Tryz.func136 rfl rfl (l:=(.slice p n c)::(.func (.func fid) fc cp)::uu7) rfl ?_
 intro cf cs K hK
 refine Z8 ?_;refine jah (Post:=fun v=> ∃j:Int,v= .int .i64 j∧(0≤j↔ ∃i,i<n∧pr i)) rfl zq zK (fun H' hH=>f174_c m H' (rd.keeps (sq hH)) hn hcall (fun i hi K hK=>hf i hi K (SubH.sub.trans (hH.trans hK)))) ?_
 rintro v ⟨j,rfl,hj⟩;refine Zs ?_
 refine jbB rfl zq (fun hc=>?_) (fun hc=>?_);all_goals
  refine Z3 ?_;refine jab (h) rfl Tryz.func136 rfl jaa ?_;refine Zs ?_
  first|exact ⟨rfl,IsB.yes (hj.1 zD)⟩|exact ⟨rfl,IsB.no (fun e=>absurd (hj.2 e) zO)⟩
theorem take_set {n:Int} (h:i<ln.length):(ln.set i n).take (i+1)=ln.take i++[n]:=by
 rw [vo (by simpa using h)];simp [VS]
theorem f221_c (m:Md Tryz.prog B) (h:Hp) (x:Int):FnC m 221 #[.int .i64 x] h fun v h'=>h'=h∧v= .bool false:=by
 refine jad Tryz.func221 rfl rfl (l:=[.int .i64 x,undef,undef,undef,undef,undef]) rfl ?_
 intro cf cs K hK
 refine Z8 ?_;refine jqn rfl zq ?_;refine Z3 ?_;refine jab (h) rfl Tryz.func221 rfl jaa ?_;refine Zs ?_
 exact ⟨rfl,by simp⟩
theorem f187_c (m:Md Tryz.prog B) (h:Hp) (x y:Int):FnC m 187 #[.int .i64 x,.int .i64 y] h fun v h'=>h'=h∧IsB (x<y) v:=by
 refine jad Tryz.func187 rfl rfl (l:=(.int .i64 x)::(.int .i64 y)::uu15) rfl ?_
 intro cf cs K hK
 refine Z5 ?_;refine rr13 ?_;refine Zs ?_;refine D98 ?_
 rintro v rfl;refine Z9 ?_
 refine jal rfl rfl (fun hc=>?_) (fun hc=>?_);all_goals
  refine Z4 ?_;refine jab (h) rfl Tryz.func187 rfl jaa ?_;refine Zs ?_
  first|exact ⟨rfl,IsB.yes zD⟩|exact ⟨rfl,IsB.no zO⟩
def Ins (ys:List Int) (a i j:Nat):Prop:=(∀p q,a≤p→p<q→q≤i→p≠j→q≠j→ys.getD p 0≤ys.getD q 0)∧(∀q,j<q→q≤i→ys.getD j 0≤ys.getD q 0)
theorem Ins.start (h:SortR ys a i):Ins ys a i i:=⟨fun p q h1 h2 h3 h4 h5=>h p q h1 h2 zO,fun q h1 h2=>by omega⟩
theorem Ins.stop {ys:List Int} {a i j:Nat} (h:Ins ys a i j) (hj:j=a∨(a<j∧ys.getD (j-1) 0≤ys.getD j 0)) (haj:a≤j) (hji:j≤i):SortR ys a (i+1):=fun p q h1 h2 h3=>by
 by_cases e1:p=j
 ·subst e1
  exact h.2 q h2 zO
 ·by_cases e2:q=j
  ·subst e2
   rcases hj with hj|⟨hj,hle⟩
   ·omega
   ·by_cases e3:p=q-1
    ·subst e3
     exact hle
    ·have:=h.1 p (q-1) h1 zO zO e1 zO
     omega
  ·exact h.1 p q h1 h2 zO e1 e2
theorem Ins.step {ys:List Int} {a i j:Nat} (h:Ins ys a i j) (haj:a<j) (hji:j≤i) (hi:i<ys.length) (hlt:ys.getD j 0<ys.getD (j-1) 0):Ins (jbb ys j (j-1)) a i (j-1):=by
 have g: ∀k,(jbb ys j (j-1)).getD k 0=if k=j-1 then ys.getD j 0 else if k=j then ys.getD (j-1) 0 else ys.getD k 0:=fun k=>ja6 zO zO
 refine ⟨fun p q h1 h2 h3 h4 h5=>?_,fun q h1 h2=>?_⟩
 ·rw [g,g,if_neg h4,if_neg h5];by_cases e1:p=j
  ·subst e1
   rw [if_pos rfl,if_neg zO];exact h.1 (p-1) q zO zO h3 zO zO
  ·rw [if_neg e1];by_cases e2:q=j
   ·subst e2
    rw [if_pos rfl];exact h.1 p (q-1) h1 zO zO e1 zO
   ·rw [if_neg e2];exact h.1 p q h1 h2 h3 e1 e2
 ·rw [g,g,if_pos rfl,if_neg zO];by_cases e2:q=j
  ·subst e2
   rw [if_pos rfl];omega
  ·rw [if_neg e2];exact h.2 q zO h2
theorem jbp {j:Nat}:(ys.set i (ys.getD j 0)).set j (ys.getD i 0)=jbb ys i j:=rfl
theorem f181_c (m:Md Tryz.prog B) (h:Hp) {c:Nat} (hl:xs.length=n) (hn:n≤100000) (a b:Nat) (hab:a≤b) (hb:b≤n):FnC m 181 #[.slice (some ⟨bk,0,none⟩) n c,.int .i64 (a:Int),.int .i64 (b:Int)] (h++[jbc bk xs junk]) fun v h'=>v= .tuple [].toArray∧ ∃ys,h'=h++[jbc bk ys junk]∧Sw a b xs ys∧SortR ys a b:=by
 refine jad Tryz.func181 rfl rfl (l:=(.slice (some ⟨bk,0,none⟩) n c)::(.int .i64 (a:Int))::(.int .i64 (b:Int))::uu46) rfl ?_
 intro cf cs K hK
 refine Z7 ?_
 refine jag (fun nn l h'=> ∃(i:Nat) (ys:List Int),nn=b-i∧(a+1≤i)∧(i≤max (a+1) b)∧(Sw a b xs ys)∧(SortR ys a i)∧(∃U:Nat→Value,l=((.slice (some ⟨bk,0,none⟩) n c)::(.int .i64 (a:Int))::(.int .i64 (b:Int))::(U 3)::(U 4)::(U 5)::(.int .i64 (i:Int))::vw42 U 7 []))∧h++[jbc bk ys junk]=h') _ ⟨a+1,xs,rfl,by omega,by omega,.refl _,fun p q h1 h2 h3=>by omega,exU rfl,rfl⟩ ?_;rintro nn l h' ⟨i,ys,rfl,hi1,hi2,hsw,hso,⟨U,rfl⟩,rfl⟩ hnext1;have hyl:=hsw.length
 refine Z5 ?_
 refine jal rfl zq (fun hc=>?_) (fun hc=>?_)
 ·refine Z11 ?_
  refine jag (fun nn l h'=> ∃(j:Nat) (zs:List Int),nn=j+1∧(a≤j)∧(j≤i)∧(Sw a b xs zs)∧(Ins zs a i j)∧(∃U:Nat→Value,l=((.slice (some ⟨bk,0,none⟩) n c)::(.int .i64 (a:Int))::(.int .i64 (b:Int))::(U 3)::(U 4)::(U 5)::(.int .i64 (i:Int))::(.int .i64 (j:Int))::vw41 U 8 []))∧h++[jbc bk zs junk]=h') _ ⟨i,ys,rfl,by omega,by omega,hsw,Ins.start hso,exU rfl,rfl⟩ ?_;rintro nn l h' ⟨j,zs,rfl,hj1,hj2,hzw,hin,⟨U,rfl⟩,rfl⟩ hnext2;have hzl:=hzw.length
  refine Z2 ?_;refine jao [Zp 0,Zp 1,Zp 2,Zp 3,Zp 4,Zp 5,Zp 6,Zp 8,Zp 9,Zp 10,Zp 11,Zr 7,Zr 12,Zk 13,Zp 14] zK zK (gE _) ?_;refine Z2 ?_
  refine jaD rfl zq (fun hc=>?_) (fun hc=>?_)
  ·refine Z3 ?_;refine D8 ?_;refine Z2 ?_;refine D96 ?_;refine D8 ?_;refine jaR rfl rfl (jaz j rfl zO) ?_;refine jaR rfl rfl (jaz (j-1) zO zO) ?_;refine D15 ?_
   rintro v (⟨hc,rfl⟩|⟨hc,rfl⟩)
   ·refine Z7 ?_;refine D12 ?_;refine Z8 ?_;refine jnX ?_;refine D89 ?_;refine jaR rfl zq (jaz j rfl zO) ?_;refine D0 ?_
    haveI hs1:=setSeg_ints (xs:=zs) (junk:=junk) (v:=zs.getD (j-1) 0) (i:=(j:Int)) (k:=j) rfl zO
    refine jlO ?_
    haveI hs2:=setSeg_ints (xs:=zs.set j (zs.getD (j-1) 0)) (junk:=junk) (v:=zs.getD j 0) (i:=(j:Int)-1) (k:=j-1) zO zN
    refine D9 ?_
    rw [jbp];refine Z7 ?_
    have ej:(j:Int)-1=((j-1:Nat):Int):=by omega
    rw [ej];exact m.weak jaa (hnext2 _ _ _ zO ⟨j-1,jbb zs j (j-1),rfl,by omega,by omega,.step j (j-1) ⟨by omega,by omega⟩ ⟨by omega,by omega⟩ hzw,hin.step zO zO zO zO,exU rfl,rfl⟩)
   ·refine Z11 ?_
    exact E1
  ·refine Z21 ?_
   exact E1
 ·refine Z3 ?_;refine jcu rfl ?_;refine jab (h++[jbc bk ys junk]) rfl Tryz.func181 rfl jaa ?_;refine Zs ?_
  refine ⟨rfl,ys,rfl,hsw,fun p q h1 h2 h3=>?_⟩
  by_cases e:a<b
  ·exact hso p q h1 h2 zO
  ·omega
theorem f191_c (m:Md Tryz.prog B) (h:Hp) (x:Int) (hx:0≤x∧x<65536):FnC m 191 #[.int .u64 x] h fun v h'=>h'=h∧ ∃k:Int,v= .int .i64 k∧0≤k∧k≤1000:=by
 refine jad Tryz.func191 rfl rfl (l:=(.int .u64 x)::uu24) rfl ?_
 intro cf cs K hK
 refine Z8 ?_
 refine jbB rfl zq (fun hc=>?_) (fun hc=>?_)
 ·exfalso
  omega
 ·refine Z7 ?_
  refine jbB rfl zq (fun hc=>?_) (fun hc=>?_)
  ·exfalso
   omega
  ·refine Z7 ?_
   refine jbB rfl zq (fun hc=>?_) (fun hc=>?_);refine Z5 ?_
   have hq:x.fdiv (2^(min (8:Int).toNat IntKind.u64.bits))=x/256:=by
    rw [ve _ zA];rfl
   refine k_shr (x/256) rfl zq zA hq ?_;refine Z7 ?_;rotate_left
   refine Z3 ?_
   all_goals
    refine Z4 ?_
    first
     |refine jco rfl zq zK (n':=x) zL ?_
     |refine jco rfl zq zK (n':=x/256) zL ?_
    refine k_ixS (n:=256) rfl zq zK zK zO zO (fun b8=>jae ?_);have hb8:=b8.toNat_lt
    refine jco rfl zq zK (n':=(b8.toNat:Int)) zL ?_;refine Z4 ?_;refine jab (h) rfl Tryz.func191 rfl jaa ?_;refine Zs ?_;exact ⟨rfl,_,rfl,by omega,by omega⟩
theorem f151_c (m:Md Tryz.prog B) (h:Hp) (x:Int) (hx:0≤x∧x<65536):FnC m 151 #[.int .u64 x] h fun v h'=>h'=h∧ ∃k:Int,v= .int .i64 k∧0≤k∧k≤1000:=by
 refine jad Tryz.func151 rfl rfl (l:=(.int .u64 x)::uu7) rfl ?_
 intro cf cs K hK
 refine Z10 ?_;refine jah rfl zq zK (fun H' hH=>f191_c m H' _ hx) ?_
 rintro v ⟨k,rfl,hk0,hk1⟩;refine Z4 ?_;refine jab (h) rfl Tryz.func151 rfl jaa ?_;refine Zs ?_
 exact ⟨rfl,_,rfl,hk0,hk1⟩
end
section
def PdqC {B:Array Obj} (m:Md Tryz.prog B) (N:Nat):Prop:= ∀(h:Hp) (bk n c:Nat) (xs:List Int) (junk:List Value) (lim:Int),xs.length=n→n≤N→0≤lim→lim≤1000→
 FnC m 150 #[.slice (some ⟨bk,0,none⟩) n c,.int .i64 0,.int .i64 (n:Int),.int .i64 lim] (h++[jbc bk xs junk]) fun v h'=>v= .tuple [].toArray∧ ∃ys,h'=h++[jbc bk ys junk]∧Sw 0 n xs ys∧SortR ys 0 n
def jcL (xs:List Int):Nat→List Int
 |0=>[]
 |t+1=>jcL xs t++if t=0∨xs.getD t 0≠xs.getD (t-1) 0 then [xs.getD t 0] else []
theorem jhk (xs:List Int): ∀t,t≤xs.length→(∀i,0<i→i<t→xs.getD i 0≠xs.getD (i-1) 0)→jcL xs t=xs.take t
 |0,_,_=>rfl
 |t+1,h,hd=>by
  rw [jcL,jhk xs t zO (fun i h1 h2=>hd i h1 zO),take_snoc' xs t zO,if_pos];by_cases e:t=0
  ·exact .inl e
  ·exact .inr (hd t zO zO)
theorem jjH {v:Int} (h:k<ys.length):(ys.set k v).take (k+1)=ys.take k++[v]:=take_set h
theorem jl7 {c:Nat} (hl:ys.length=n) (hj:n+junk.length=c):OwnS 3 1 (.slice (some ⟨bk,0,none⟩) n c) n (jav ys) [jbc bk ys junk]:=
 .blk (by simp [hl]) (by simp [hl];omega) zO
theorem own_cut {c:Nat} (hl:ys.length=n) (hj:n+junk.length=c) (hk:k≤n):OwnS 3 1 (.slice (some ⟨bk,0,none⟩) k c) k (jav (ys.take k)) [jbc bk ys junk]:=by
 have:=(jl7 (bk:=bk) hl hj).pre (m:=k) hk
 rwa [Ge,←jh2] at this
theorem f100_c (m:Md Tryz.prog B) (h:Hp) {c:Nat} (hl:xs.length=n) (hj:n+junk.length=c) (hn:n≤100000):FnC m 100 #[.slice (some ⟨bk,0,none⟩) n c] (h++[jbc bk xs junk]) fun v h'=> ∃nw,h'=h++nw∧ ∃k,k=(jcL xs n).length∧OwnS 3 1 v k (jav (jcL xs n)) nw:=by
 refine jad Tryz.func100 rfl rfl (l:=(.slice (some ⟨bk,0,none⟩) n c)::uu60) rfl ?_
 intro cf cs K hK
 refine Z9 ?_
 refine jal rfl zq (fun hc=>?_) (fun hc=>?_)
 ·refine Z8 ?_;refine jab (h++[jbc bk xs junk]) rfl Tryz.func100 rfl jaa ?_;refine Zs ?_
  have hall:jcL xs n=xs:=by rw [jhk xs n zO (fun i h1 h2=>by omega),gf zO]
  exact ⟨_,rfl,n,by rw [hall,hl],by rw [hall];exact jl7 hl hj⟩
 ·refine Z9 ?_
  refine jag (fun nn l h'=> ∃(k:Nat),nn=n-k∧(1≤k)∧(k≤n)∧(∀i,0<i→i<k→xs.getD i 0≠xs.getD (i-1) 0)∧(∃U:Nat→Value,l=((.slice (some ⟨bk,0,none⟩) n c)::(U 1)::(U 2)::(.int .i64 (k:Int))::vw57 U 4 []))∧h++[jbc bk xs junk]=h') _ ⟨1,rfl,by omega,by omega,fun i h1 h2=>by omega,exU rfl,rfl⟩ ?_;rintro nn l h' ⟨k,rfl,hk1,hk2,hd,⟨U,rfl⟩,rfl⟩ hnext1;have hu:=jhk xs k zO hd
  refine Z6 ?_
  refine jal rfl zq (fun hc=>?_) (fun hc=>?_)
  ·refine Z6 ?_;refine D62 ?_;refine D126 ?_;refine Z3 ?_;refine D0 ?_;refine jaR rfl zq (jaz k rfl zO) ?_;refine jaR rfl zq (jaz (k-1) zO zO) ?_
   refine jaC rfl zq (fun hc=>?_) (fun hc=>?_)
   ·refine Z6 ?_;refine jg4 (a:=k) rfl zq rfl zO ?_
    rw [jrb zO];refine Z5 ?_
    have hu1:jcL xs (k+1)=xs.take k:=by rw [jcL,if_neg (by rintro (e|e)<;>omega),gb,hu]
    refine Z3 ?_
    refine jag (fun nn l h'=> ∃(j e:Nat) (ys:List Int),nn=n-j∧(1≤j)∧(k+j≤n)∧(e=(jcL xs (k+j)).length)∧(e<k+j)∧(k≤e)∧(ys.length=n)∧(ys.take e=jcL xs (k+j))∧(∀i,k+j≤i+1→ys.getD i 0=xs.getD i 0)∧(∃U:Nat→Value,l=((.slice (some ⟨bk,0,none⟩) n c)::(U 1)::(U 2)::(.int .i64 (e:Int))::(.slice (some ⟨bk,k,none⟩) (n-k) (c-k))::(.int .i64 (j:Int))::vw55 U 6 []))∧h++[jbc bk ys junk]=h') _ ⟨1,k,xs,rfl,by omega,by omega,by rw [hu1,GN];omega,by omega,by omega,hl,by rw [hu1],fun i hi=>rfl,exU rfl,rfl⟩ ?_;rintro nn l h' ⟨j,e,ys,rfl,hj1,hj2,he,hek,hke,hyl,hyt,hys,⟨U,rfl⟩,rfl⟩ hnext2;refine Z6 ?_
    refine jal rfl zq (fun hc=>?_) (fun hc=>?_)
    ·refine Z6 ?_;refine D62 ?_
     have hy1:=hys (k+j) zO
     have hy2:=hys (k+(j-1)) zO
     refine D126 ?_;refine Z3 ?_;refine D0 ?_;refine jaR rfl zq (jl5 j rfl zO) ?_;refine jaR rfl zq (jl5 (j-1) zO zO) ?_
     rw [hy1,hy2];refine ja5 rfl zq (fun hc=>?_) (fun hc=>?_)
     ·have hU:jcL xs (k+(j+1))=jcL xs (k+j)++[xs.getD (k+j) 0]:=by
       rw [show k+(j+1)=(k+j)+1 by omega,jcL,if_pos (.inr (by rw [show k+j-1=k+(j-1) by omega];exact hc))]
      refine Z8 ?_;refine D0 ?_;refine jaR rfl zq (jl5 j rfl zO) ?_
      rw [hy1];refine D0 ?_
      haveI hs1:=setSeg_ints (xs:=ys) (junk:=junk) (v:=xs.getD (k+j) 0) (i:=(e:Int)) (k:=e) rfl zO
      refine D9 ?_;refine Z12 ?_
      exact m.weak jaa (hnext2 _ _ _ zO ⟨j+1,e+1,ys.set e (xs.getD (k+j) 0),rfl,by omega,by omega,by rw [hU,gJ,←he];rfl,by omega,by omega,by simp [hyl],by rw [jjH zO,hyt,hU],fun i hi=>by rw [jj9 zO,if_neg zO];exact hys i zO,exU rfl,rfl⟩)
     ·have hU:jcL xs (k+(j+1))=jcL xs (k+j):=by
       rw [show k+(j+1)=(k+j)+1 by omega,jcL,if_neg (fun y=>y.elim (fun x=>by omega) (fun x=>x (by rw [show k+j-1=k+(j-1) by omega];exact hc))),gb]
      refine Z9 ?_
      exact m.weak jaa (hnext2 _ _ _ zO ⟨j+1,e,ys,rfl,by omega,by omega,by rw [hU,←he],by omega,by omega,hyl,by rw [hU,hyt],fun i hi=>hys i zO,exU rfl,rfl⟩)
    ·refine Z5 ?_
     obtain rfl:n=k+j:=by omega
     refine Z2 ?_;refine jg4 (a:=e) rfl zq rfl zO ?_;refine k_clear rfl zq hyl zO zO ?_;refine Z5 ?_;refine jnp (b:=e) rfl zq (.inr ⟨_,_,rfl⟩) rfl zO ?_;refine Z3 ?_;refine jab (h++[jbc bk (ys.take e++List.replicate (k+j-e) 0) junk]) rfl Tryz.func100 rfl jaa ?_;refine Zs ?_
     refine ⟨_,rfl,e,he,?_⟩
     have:=own_cut (bk:=bk) (n:=k+j) (c:=c) (k:=e) (ys:=ys.take e++List.replicate (k+j-e) 0) (junk:=junk) zN hj zO
     rw [VG zN,List.take_take,Nat.min_self,hyt] at this
     rw [hyt];exact this
   ·refine Z9 ?_
    exact m.weak jaa (hnext1 _ _ _ zO ⟨k+1,rfl,by omega,by omega,fun i h1 h2=>by
     rcases GX i k with h3|h3
     ·exact hd i h1 h3
     ·obtain rfl:i=k:=by omega
      assumption,exU rfl,rfl⟩)
  ·refine Z9 ?_;refine jab (h++[jbc bk xs junk]) rfl Tryz.func100 rfl jaa ?_;refine Zs ?_
   obtain rfl:k=n:=by omega
   have hall:jcL xs k=xs:=by rw [hu,gf zO]
   exact ⟨_,rfl,k,by rw [hall,hl],by rw [hall];exact jl7 hl hj⟩
theorem f99_c (m:Md Tryz.prog B) (h:Hp) {N:Nat} (hP:PdqC m N) (hN:N≤60000) {c:Nat} (hl:xs.length=n) (hn:n≤N):FnC m 99 #[.slice (some ⟨bk,0,none⟩) n c] (h++[jbc bk xs junk]) fun v h'=>v= .tuple [].toArray∧ ∃ys,h'=h++[jbc bk ys junk]∧Sw 0 n xs ys∧SortR ys 0 n:=by
 refine jad Tryz.func99 rfl rfl (l:=(.slice (some ⟨bk,0,none⟩) n c)::uu10) rfl ?_
 intro cf cs K hK
 refine Z10 ?_;refine jco rfl zq zK (n':=(n:Int)) zL ?_;refine jah rfl zq zK (fun H' hH=>f151_c m H' _ zO) ?_
 rintro v ⟨lim,rfl,hk0,hk1⟩;refine Zs ?_;refine jbj rfl zq zK (hP h bk n c xs junk lim hl hn hk0 hk1) ?_
 rintro v h' ⟨rfl,ys,rfl,hsw,hso⟩;refine Z2 ?_;refine jcu rfl ?_;refine jab (h++[jbc bk ys junk]) rfl Tryz.func99 rfl jaa ?_;refine Zs ?_
 exact ⟨rfl,ys,rfl,hsw,hso⟩
section
variable {m:Md P B} {S h h' H:Hp} {kd:Kd}
end
def jrf:List Int→List Int→Int
 |[],[]=>0
 |[],_::_=> -1
 |_::_,[]=>1
 |a::r,b::s=>if a<b then-1 else if b<a then 1 else jrf r s
theorem jfV (xs:List Int) (k:Nat) (h:k<xs.length):xs.drop k=xs.getD k 0::xs.drop (k+1):=by
 rw [VV h,gB,gC h];rfl
theorem jre (h1:k<xs.length) (h2:k<ys.length):jrf (xs.drop k) (ys.drop k)=if xs.getD k 0<ys.getD k 0 then-1 else if ys.getD k 0<xs.getD k 0 then 1 else jrf (xs.drop (k+1)) (ys.drop (k+1)):=by
 rw [jfV xs k h1,jfV ys k h2];rfl
theorem sgn_ne {a b z:Int} (h:(if a<b then (-1:Int) else if b<a then 1 else 0)≠0):(if a<b then (-1:Int) else if b<a then 1 else 0)=if a<b then-1 else if b<a then 1 else z:=by
 split
 ·rfl
 ·rename_i h1
  rw [if_neg h1] at h
  split
  ·rfl
  ·rename_i h2
   rw [if_neg h2] at h
   exact absurd rfl h
theorem sgn_eq {a b z:Int} (h:(if a<b then (-1:Int) else if b<a then 1 else 0)=0):(if a<b then (-1:Int) else if b<a then 1 else z)=z:=by
 split
 ·rename_i h1
  rw [if_pos h1] at h
  cases h
 ·rename_i h1
  rw [if_neg h1] at h
  split
  ·rename_i h2
   rw [if_pos h2] at h
   cases h
  ·rfl
theorem jkh (h1:k≤xs.length) (h2:k≤ys.length) (h:xs.length=k∨ys.length=k):jrf (xs.drop k) (ys.drop k)=if k<xs.length then 1 else if k<ys.length then-1 else 0:=by
 by_cases e:k<xs.length
 ·rw [if_pos e,jfV xs k e,(gR zO:ys.drop k=[])];rfl
 ·rw [if_neg e,(gR zO:xs.drop k=[])];by_cases e2:k<ys.length
  ·rw [if_pos e2,jfV ys k e2];rfl
  ·rw [if_neg e2,(gR zO:ys.drop k=[])];rfl
theorem f227_c (m:Md Tryz.prog B) (h:Hp) (x y:Int):FnC m 227 #[.int .i64 x,.int .i64 y] h fun v h'=>h'=h∧v= .int .i64 (if x<y then-1 else if y<x then 1 else 0):=by
 refine jad Tryz.func227 rfl rfl (l:=(.int .i64 x)::(.int .i64 y)::uu18) rfl ?_
 intro cf cs K hK
 refine Z7 ?_;refine D98 ?_
 rintro v rfl;refine Z6 ?_;refine D98 ?_
 rintro v rfl;refine Z22 ?_
 refine jal rfl zq (fun hc=>?_) (fun hc=>?_)
 ·refine Z7 ?_;refine jab (h) rfl Tryz.func227 rfl jaa ?_;refine Zs ?_
  exact E2
 ·refine Z8 ?_
  refine jaD rfl zq (fun hc=>?_) (fun hc=>?_);refine Z2 ?_
  rotate_left
  refine Z3 ?_
  all_goals
   refine Z5 ?_;refine jab (h) rfl Tryz.func227 rfl jaa ?_;refine Zs ?_
   exact E2
theorem f210_c (m:Md Tryz.prog B) (h:Hp) {c:Nat} (rd:RdS B h 1 (.slice p n c) n (jav xs)) (hn:n≤1000000) {n2 c2:Nat} (rd2:RdS B h 1 (.slice p2 n2 c2) n2 (jav ys)):FnC m 210 #[.slice p n c,.slice p2 n2 c2] h fun v h'=>h'=h∧v= .int .i64 (jrf xs ys):=by
 have hl:=rd.ilen
 have hl2:=rd2.ilen
 refine jad Tryz.func210 rfl rfl (l:=(.slice p n c)::(.slice p2 n2 c2)::uu34) rfl ?_
 intro cf cs K hK
 refine Z12 ?_
 refine jag (fun nn l h'=> ∃(k:Nat),nn=n-k∧(k≤n)∧(k≤n2)∧(jrf xs ys=jrf (xs.drop k) (ys.drop k))∧(∃U:Nat→Value,l=((.slice p n c)::(.slice p2 n2 c2)::vw7 U 2 ((.slice p n c)::(.int .i64 (n:Int))::(.int .i64 (k:Int))::vw24 U 12 [])))∧h=h') _ ⟨0,rfl,by omega,by omega,rfl,exU rfl,rfl⟩ ?_;rintro nn l h' ⟨k,rfl,hk,hk2,he,⟨U,rfl⟩,rfl⟩ hnext;refine Z2 ?_
 refine jal rfl zq (fun hc=>?_) (fun hc=>?_)
 ·refine Z9 ?_
  obtain ⟨rd_b,rd_o,rfl⟩:=rd.ptr zO
  refine D0 ?_;refine D114 ?_;refine Z9 ?_
  refine jbB rfl zq (fun hc=>?_) (fun hc=>?_)
  ·refine Z7 ?_;refine D120 ?_;refine Zs ?_
   exact ⟨rfl,by rw [he,jkh zO zO zO,if_pos zO]⟩
  ·refine Z7 ?_
   obtain ⟨rd2_b,rd2_o,rfl⟩:=rd2.ptr zO
   refine D0 ?_;refine jaR rfl zq (rd2.iat k zO zO) ?_;refine Z6 ?_;refine jah (Post:=fun v=>v=_) rfl zq zK (fun H' hH=>f227_c m H' _ _) ?_
   rintro v rfl;refine Z5 ?_
   have hcd:=jre (xs:=xs) (ys:=ys) (k:=k) zO zO
   refine Zs ?_
   refine ja5 rfl zq (fun hc=>?_) (fun hc=>?_)
   ·refine Z8 ?_;refine D120 ?_;refine Zs ?_
    exact ⟨rfl,by rw [he,hcd];exact congrArg _ (sgn_ne hc)⟩
   ·have hcz:=hc
    refine Z8 ?_
    exact m.weak jaa (hnext _ _ _ zO ⟨k+1,rfl,by omega,by omega,by rw [he,hcd,sgn_eq hcz],exU rfl,rfl⟩)
 ·refine Z11 ?_
  refine jal rfl zq (fun hc=>?_) (fun hc=>?_)
  ·refine Z7 ?_;refine D120 ?_;refine Zs ?_
   exact ⟨rfl,by rw [he,jkh zO zO zO,if_neg zO,if_pos zO]⟩
  ·refine Z8 ?_;refine D120 ?_;refine Zs ?_
   exact ⟨rfl,by rw [he,jkh zO zO zO,if_neg zO,if_neg zO]⟩
def bitN (mm k:Nat):Nat:=(mm/2^k)%2
def jbA (mm k:Nat):List Int:=(jdL k).filter fun i=>decide (bitN mm i.toNat=1)
def w1 (o:Option Nat) (n:Nat):Nat:=match o with|none=>0|some s=>if s=2*n then 2 else 1
section
variable {m:Md P B} {S h h' H:Hp} {kd:Kd}
theorem jmf {x y:Operand} {z w:Int} (a k:Nat) (ho:ops[i]?=some ⟨d,.binOp .quo t x y u,ty,pos,af,g⟩) (hw:Wt ops l g) [KHeap kd S h H] [ex:OpV l x (.int .i64 z)] [ey:OpV l y (.int .i64 w)] (hz:z=a) (hk:w=k) (h0:0<k) (ha:a≤10000000) [PutV l d (.int .i64 ((a/k:Nat):Int)) l'] (q:RegK m S ops r l' h C):RegK m S ops ((i,kd)::r) l h C:=
 RegK.rd (v:= .int .i64 ((a/k:Nat):Int)) ho hw (jaP ex.eq ey.eq zS (by
  subst hz
  subst hk
  have:(k:Int)≠0:=by omega
  have hle:=Vz a k
  have h64:jeB ((a/k:Nat):Int):=by generalize a/k=q at hle⊢;unfold jeB;omega
  simp only [binOp,Op.intDiv,if_neg this,←Int.ofNat_tdiv,jds h64]
  rfl)) q
end
theorem f216_c (m:Md Tryz.prog B) (h:Hp) {c:Nat} (hl:xs.length=n) (hn:n≤100000) (lo hi f:Nat) (hlo:lo≤100000) (hb:f+hi≤n) (hh:HeapF xs f (lo+1) hi):FnC m 216 #[.slice (some ⟨bk,0,none⟩) n c,.int .i64 (lo:Int),.int .i64 (hi:Int),.int .i64 (f:Int)] (h++[jbc bk xs junk]) fun v h'=>v= .tuple [].toArray∧ ∃ys,h'=h++[jbc bk ys junk]∧Sw (f+lo) (f+hi) xs ys∧HeapF ys f lo hi:=by
 refine jad Tryz.func216 rfl rfl (l:=(.slice (some ⟨bk,0,none⟩) n c)::(.int .i64 (lo:Int))::(.int .i64 (hi:Int))::(.int .i64 (f:Int))::uu72) rfl ?_
 intro cf cs K hK
 refine Z6 ?_
 refine jag (fun nn l h'=> ∃(root:Nat) (ys:List Int),nn=100000+hi-root∧(lo≤root)∧(root≤100000)∧(Sw (f+lo) (f+hi) xs ys)∧(HeapR ys f lo hi root)∧(∃U:Nat→Value,l=((.slice (some ⟨bk,0,none⟩) n c)::(.int .i64 (lo:Int))::(.int .i64 (hi:Int))::(.int .i64 (f:Int))::vw4 U 4 ((.int .i64 (root:Int))::vw67 U 9 [])))∧h++[jbc bk ys junk]=h') _ ⟨lo,xs,rfl,by omega,by omega,.refl _,HeapR.start hh,exU rfl,rfl⟩ ?_;rintro nn l h' ⟨root,ys,rfl,hr1,hr2,hsw,hre,⟨U,rfl⟩,rfl⟩ hnext;have hyl:=hsw.length
 refine Z4 ?_;refine D24 ?_;refine Z8 ?_
 refine jbB rfl zq (fun hc=>?_) (fun hc=>?_)
 ·refine Z3 ?_;refine jcu rfl ?_;refine D116 ?_;refine Zs ?_
  first
   |exact E5
   |exact E6
 ·refine Z5 ?_;refine jao [Zp 0,Zp 1,Zp 2,Zp 3,Zp 4,Zp 5,Zp 6,Zp 7,Zp 8,Zp 9,Zp 11,Zp 12,Zp 13,Zp 14,Zp 15,Zp 16,Zr 10,Zr 17,Zk 18,Zp 19] zK zK (gE _) ?_;refine Z3 ?_
  refine jal rfl zq (fun hc=>?_) (fun hc=>?_)
  ·refine Z4 ?_;refine joz rfl rfl (by unfold jeB;omega) ?_;refine D8 ?_;refine Z3 ?_;refine joz rfl rfl (by unfold jeB;omega) ?_;refine joz rfl rfl (by unfold jeB;omega) ?_;refine D8 ?_;refine jaR rfl rfl (jaz (f+(2*root+1)) zO zO) ?_;refine jaR rfl rfl (jaz (f+(2*root+2)) zO zO) ?_;refine D15 ?_
   rintro v (⟨hc,rfl⟩|⟨hc,rfl⟩);refine Z7 ?_
   obtain ⟨ch,hce,hch,hmax⟩: ∃ch:Nat,2*(root:Int)+1+1=(ch:Int)∧(ch=2*root+1∨ch=2*root+2)∧ ∀c,(c=2*root+1∨c=2*root+2)→c<hi→ys.getD (f+c) 0≤ys.getD (f+ch) 0:=⟨2*root+2,by omega,.inr rfl,fun c h1 h2=>by
    rcases h1 with h1|h1<;>rw [h1]<;>omega⟩
   rw [hce];refine Z2 ?_
   rotate_left
   refine Zs ?_
   obtain ⟨ch,hce,hch,hmax⟩: ∃ch:Nat,2*(root:Int)+1=(ch:Int)∧(ch=2*root+1∨ch=2*root+2)∧ ∀c,(c=2*root+1∨c=2*root+2)→c<hi→ys.getD (f+c) 0≤ys.getD (f+ch) 0:=⟨2*root+1,by omega,.inl rfl,fun c h1 h2=>by
    rcases h1 with h1|h1<;>rw [h1]<;>omega⟩
   rw [hce];refine Z4 ?_
   all_goals
    refine Z2 ?_;refine D42 ?_;refine Z4 ?_;refine D0 ?_;refine Z4 ?_;refine D0 ?_;refine D106 ?_;refine D107 ?_;refine D43 ?_
    rintro v (⟨hc,rfl⟩|⟨hc,rfl⟩)
    ·refine Z6 ?_;refine D22 ?_;refine Z12 ?_;refine D0 ?_;refine Z4 ?_;refine D0 ?_;refine D107 ?_;refine D106 ?_;refine D0 ?_
     haveI hs1:=setSeg_ints (xs:=ys) (junk:=junk) (v:=ys.getD (f+ch) 0) (i:=(f:Int)+(root:Int)) (k:=f+root) zO zO
     refine jlO ?_
     haveI hs2:=setSeg_ints (xs:=ys.set (f+root) (ys.getD (f+ch) 0)) (junk:=junk) (v:=ys.getD (f+root) 0) (i:=(f:Int)+(ch:Int)) (k:=f+ch) zO zN
     refine D9 ?_
     rw [jbp];refine Z6 ?_
     exact E7
    ·refine Z5 ?_;refine D116 ?_;refine Zs ?_
     first
      |exact E5
      |exact E6
  ·obtain ⟨ch,hce,hch,hmax⟩: ∃ch:Nat,2*(root:Int)+1=(ch:Int)∧(ch=2*root+1∨ch=2*root+2)∧ ∀c,(c=2*root+1∨c=2*root+2)→c<hi→ys.getD (f+c) 0≤ys.getD (f+ch) 0:=⟨2*root+1,by omega,.inl rfl,fun c h1 h2=>by
    rw [show c=2*root+1 by omega];omega⟩
   rw [hce];refine Z21 ?_;refine D42 ?_;refine Z4 ?_;refine D0 ?_;refine Z4 ?_;refine D0 ?_;refine D106 ?_;refine D107 ?_;refine D43 ?_
   rintro v (⟨hc,rfl⟩|⟨hc,rfl⟩)
   ·refine Z6 ?_;refine D22 ?_;refine Z12 ?_;refine D0 ?_;refine Z4 ?_;refine D0 ?_;refine D107 ?_;refine D106 ?_;refine D0 ?_
    haveI hs1:=setSeg_ints (xs:=ys) (junk:=junk) (v:=ys.getD (f+ch) 0) (i:=(f:Int)+(root:Int)) (k:=f+root) zO zO
    refine jlO ?_
    haveI hs2:=setSeg_ints (xs:=ys.set (f+root) (ys.getD (f+ch) 0)) (junk:=junk) (v:=ys.getD (f+root) 0) (i:=(f:Int)+(ch:Int)) (k:=f+ch) zO zN
    refine D9 ?_
    rw [jbp];refine Z6 ?_
    exact E7
   ·refine Z5 ?_;refine D116 ?_;refine Zs ?_
    first
     |exact E5
     |exact E6
theorem f182_c (m:Md Tryz.prog B) (h:Hp) {c:Nat} (hl:xs.length=n) (hn:n≤100000) (a b:Nat) (hab:a<b) (hb:b≤n):FnC m 182 #[.slice (some ⟨bk,0,none⟩) n c,.int .i64 (a:Int),.int .i64 (b:Int)] (h++[jbc bk xs junk]) fun v h'=>v= .tuple [].toArray∧ ∃ys,h'=h++[jbc bk ys junk]∧Sw a b xs ys∧SortR ys a b:=by
 refine jad Tryz.func182 rfl rfl (l:=(.slice (some ⟨bk,0,none⟩) n c)::(.int .i64 (a:Int))::(.int .i64 (b:Int))::uu53) rfl ?_
 intro cf cs K hK
 refine Z14 ?_
 obtain ⟨w,hwe⟩: ∃w:Nat,(b:Int)-(a:Int)=(w:Int):=⟨b-a,by omega⟩
 have hwn:w=b-a:=by omega
 rw [hwe];refine Z7 ?_;refine jmf (w-1) 2 rfl zq zO rfl zO zO ?_;refine Z3 ?_
 refine jag (fun nn l h'=> ∃(j:Nat) (z:Int) (ys:List Int),nn=j+1∧(z=(j:Int)-1)∧(j≤100000)∧(Sw a b xs ys)∧(HeapF ys a j w)∧(∃U:Nat→Value,l=((.slice (some ⟨bk,0,none⟩) n c)::(.int .i64 (a:Int))::(.int .i64 (b:Int))::(U 3)::(U 4)::(U 5)::(.int .i64 (a:Int))::(.int .i64 0)::(.int .i64 (w:Int))::(.int .i64 z)::vw46 U 10 []))∧h++[jbc bk ys junk]=h') _ ⟨(w-1)/2+1,_,xs,rfl,by omega,by omega,.refl _,HeapF.empty zO,exU rfl,rfl⟩ ?_;rintro nn l h' ⟨j,z,ys,rfl,hz,hj,hsw,hhf,⟨U,rfl⟩,rfl⟩ hnext1;have hyl:=hsw.length
 refine Z4 ?_
 refine jbB rfl zq (fun hc=>?_) (fun hc=>?_)
 ·refine Z5 ?_
  obtain ⟨i,rfl⟩: ∃i:Nat,z=(i:Int):=⟨z.toNat,by omega⟩
  obtain rfl:j=i+1:=by omega
  refine Z5 ?_;refine jbj rfl zq zK (f216_c m h zO hn i w a zO zO hhf) ?_
  rintro v h' ⟨rfl,zs,rfl,hzw,hzf⟩;refine Z8 ?_
  exact m.weak jaa (hnext1 _ _ _ zO ⟨i,_,zs,rfl,by omega,by omega,hsw.trans (hzw.mono zO zO),hzf,exU rfl,rfl⟩)
 ·refine Z5 ?_
  obtain rfl:j=0:=by omega
  refine Z5 ?_
  refine jag (fun nn l h'=> ∃(j:Nat) (z:Int) (us:List Int),nn=j+1∧(z=(j:Int)-1)∧(j≤w)∧(Sw a b xs us)∧(Pop us a b j)∧(∃U:Nat→Value,l=((.slice (some ⟨bk,0,none⟩) n c)::(.int .i64 (a:Int))::(.int .i64 (b:Int))::(U 3)::(U 4)::(U 5)::(.int .i64 (a:Int))::(.int .i64 0)::(U 8)::(U 9)::(.int .i64 z)::vw45 U 11 []))∧h++[jbc bk us junk]=h') _ ⟨w,_,ys,rfl,by omega,by omega,hsw,by rw [hwn];exact Pop.start (hwn▸hhf) zO,exU rfl,rfl⟩ ?_;rintro nn l h' ⟨j,z,us,rfl,hz2,hj2,hsw2,hpop,⟨U,rfl⟩,rfl⟩ hnext2;have hul:=hsw2.length
  refine Z4 ?_
  refine jbB rfl zq (fun hc=>?_) (fun hc=>?_)
  ·refine Z6 ?_
   obtain ⟨i,rfl⟩: ∃i:Nat,z=(i:Int):=⟨z.toNat,by omega⟩
   obtain rfl:j=i+1:=by omega
   refine D32 ?_;refine Z10 ?_;refine jnX ?_;refine jaR rfl zq (jaz (a+i) zO zO) ?_;refine D73 ?_;refine D0 ?_
   haveI hs1:=setSeg_ints (xs:=us) (junk:=junk) (v:=us.getD (a+i) 0) (i:=(a:Int)) (k:=a) zO zO
   refine jlO ?_
   haveI hs2:=setSeg_ints (xs:=us.set (a) (us.getD (a+i) 0)) (junk:=junk) (v:=us.getD (a) 0) (i:=(a:Int)+(i:Int)) (k:=a+i) zO zN
   refine D9 ?_
   rw [jbp];refine Z6 ?_;refine jbj rfl zq zK (f216_c m h (by rw [jcE];omega) hn 0 i a zO zO (hpop.1.cut zO)) ?_
   rintro v h' ⟨rfl,zs,rfl,hzw,hzf⟩;refine Z8 ?_
   exact m.weak jaa (hnext2 _ _ _ zO ⟨i,_,zs,rfl,by omega,by omega,(Sw.step a (a+i) ⟨by omega,by omega⟩ ⟨by omega,by omega⟩ hsw2).trans (hzw.mono zO zO),hpop.step zO zO hzw hzf,exU rfl,rfl⟩)
  ·refine Z3 ?_;refine jcu rfl ?_;refine jab (h++[jbc bk us junk]) rfl Tryz.func182 rfl jaa ?_;refine Zs ?_
   obtain rfl:j=0:=by omega
   exact ⟨rfl,us,rfl,hsw2,hpop.2.1⟩
theorem f185_c (m:Md Tryz.prog B) (h:Hp) {c:Nat} (hl:xs.length=n) (hn:n≤100000) (a b:Nat) (hab:a<b) (hb:b≤n):FnC m 185 #[.slice (some ⟨bk,0,none⟩) n c,.int .i64 (a:Int),.int .i64 (b:Int)] (h++[jbc bk xs junk]) fun v h'=>v= .tuple [].toArray∧ ∃ys,h'=h++[jbc bk ys junk]∧Sw a b xs ys:=by
 refine jad Tryz.func185 rfl rfl (l:=(.slice (some ⟨bk,0,none⟩) n c)::(.int .i64 (a:Int))::(.int .i64 (b:Int))::uu29) rfl ?_
 intro cf cs K hK
 refine Z12 ?_
 refine jag (fun nn l h'=> ∃(i j:Nat) (z:Int) (ys:List Int),nn=j+1∧(z=(j:Int)-1)∧(a≤i)∧(j≤b)∧(Sw a b xs ys)∧(∃U:Nat→Value,l=((.slice (some ⟨bk,0,none⟩) n c)::(.int .i64 (a:Int))::(.int .i64 (b:Int))::(U 3)::(U 4)::(U 5)::(.int .i64 (i:Int))::(.int .i64 z)::vw24 U 8 []))∧h++[jbc bk ys junk]=h') _ ⟨a,b,_,xs,rfl,by omega,by omega,by omega,.refl _,exU rfl,rfl⟩ ?_;rintro nn l h' ⟨i,j,z,ys,rfl,hz,hi1,hj1,hsw,⟨U,rfl⟩,rfl⟩ hnext;have hyl:=hsw.length
 refine Z5 ?_
 refine jal rfl zq (fun hc=>?_) (fun hc=>?_)
 ·refine Z5 ?_
  obtain ⟨k,rfl⟩: ∃k:Nat,z=(k:Int):=⟨z.toNat,by omega⟩
  refine D1 ?_;refine Z6 ?_;refine jnX ?_;refine jaR rfl zq (jaz (k) zO zO) ?_;refine jaR rfl zq (jaz (i) zO zO) ?_;refine D0 ?_
  haveI hs1:=setSeg_ints (xs:=ys) (junk:=junk) (v:=ys.getD (k) 0) (i:=(i:Int)) (k:=i) zO zO
  refine jlO ?_
  haveI hs2:=setSeg_ints (xs:=ys.set (i) (ys.getD (k) 0)) (junk:=junk) (v:=ys.getD (i) 0) (i:=(k:Int)) (k:=k) zO zN
  refine D9 ?_
  rw [jbp];refine Z13 ?_
  exact m.weak jaa (hnext _ _ _ zO ⟨i+1,j-1,_,jbb ys i k,rfl,by omega,by omega,by omega,.step i k ⟨by omega,by omega⟩ ⟨by omega,by omega⟩ hsw,exU rfl,rfl⟩)
 ·refine Z3 ?_;refine jcu rfl ?_;refine jab (h++[jbc bk ys junk]) rfl Tryz.func185 rfl jaa ?_;refine Zs ?_
  exact ⟨rfl,ys,rfl,hsw⟩
theorem jcl {m:Md P B} (C0:List Value→Hp→Prop) {b:Frame} {ds:List Deferred} {k:List Item} {cs:List Frame} {id:Nat} (r:List (Nat×Kd)) (hm:(P.follows .mixedOrders||!Region.departs ops)=true)
  (hok:(ordOk ops r&&jfB P ops r)=true) (hS:S.Sublist h) (t:RegK m S ops r l h C0) (n: ∀l' h',C0 l' h'→m.R K (Gr b l' ds k cs) h'):m.R K (Gr b l ds (.code (.region id ops true)::k) cs) h:=
 jao r hm hok hS (RegK.mono (fun l' h' x=>n l' h' x) t)
theorem SortR.snoc {ys:List Int} {a i:Nat} (h:SortR ys a i) (ha:a<i) (hl:ys.getD (i-1) 0≤ys.getD i 0):SortR ys a (i+1):=fun p q h1 h2 h3=>by
 by_cases e:q=i
 ·subst e
  by_cases e2:p=q-1
  ·subst e2
   exact hl
  ·have:=h p (q-1) h1 zO zO;omega
 ·exact h p q h1 h2 zO
theorem sw_getD {pv:Nat} (h1:a<xs.length) (h2:pv<xs.length):(jbb xs a pv).getD a 0=xs.getD pv 0:=by
 rw [ja6 h1 h2];by_cases e:a=pv
 ·rw [if_pos e,e]
 ·rw [if_neg e,if_pos rfl]
theorem f189_c (m:Md Tryz.prog B) (h:Hp) {c:Nat} (hl:xs.length=n) (hn:n≤100000) (a b pv:Nat) (ha:a≤pv) (hp:pv<b) (hb:b≤n):FnC m 189 #[.slice (some ⟨bk,0,none⟩) n c,.int .i64 (a:Int),.int .i64 (b:Int),.int .i64 (pv:Int)] (h++[jbc bk xs junk]) fun v h'=> ∃(q:Nat) (t:Bool) (ys:List Int),v= .tuple [.int .i64 (q:Int),.bool t].toArray∧h'=h++[jbc bk ys junk]∧Sw a b xs ys∧a≤q∧q<b∧Cut ys a b q:=by
 refine jad Tryz.func189 rfl rfl (l:=(.slice (some ⟨bk,0,none⟩) n c)::(.int .i64 (a:Int))::(.int .i64 (b:Int))::(.int .i64 (pv:Int))::uu164) rfl ?_
 intro cf cs K hK
 refine Z6 ?_;refine D1 ?_;refine Z6 ?_;refine jnX ?_;refine jaR rfl zq (jaz (pv) zO zO) ?_;refine D73 ?_;refine D0 ?_
 haveI hs1:=setSeg_ints (xs:=xs) (junk:=junk) (v:=xs.getD (pv) 0) (i:=(a:Int)) (k:=a) zO zO
 refine jlO ?_
 haveI hs2:=setSeg_ints (xs:=xs.set (a) (xs.getD (pv) 0)) (junk:=junk) (v:=xs.getD (a) 0) (i:=(pv:Int)) (k:=pv) zO zN
 refine D9 ?_
 rw [jbp];refine Z2 ?_
 have hsw0:Sw a b xs (jbb xs a pv):=Sw.one a pv ⟨by omega,by omega⟩ ⟨by omega,by omega⟩
 have hyl:=hsw0.length
 generalize jbb xs a pv=y0 at hsw0 hyl⊢
 refine Z10 ?_
 refine jag (fun nn l h'=> ∃(i:Nat) (z:Int),nn=b-i∧(z=(b:Int)-1)∧(a<i)∧(i≤b)∧(∀k,a<k→k<i→y0.getD k 0<y0.getD a 0)∧(∃U:Nat→Value,l=((.slice (some ⟨bk,0,none⟩) n c)::(.int .i64 (a:Int))::(.int .i64 (b:Int))::(.int .i64 (pv:Int))::vw6 U 4 ((.int .i64 (i:Int))::(.int .i64 z)::jo4 U 12 [])))∧h++[jbc bk y0 junk]=h') _ ⟨a+1,(b:Int)-1,rfl,by omega,by omega,by omega,fun k h1 h2=>by omega,exU rfl,rfl⟩ ?_;rintro nn l h' ⟨i,z,rfl,hz,hi1,hi2,hp1,⟨U,rfl⟩,rfl⟩ hnext1;refine Z2 ?_
 refine jcl (fun l' h'=> ∃t:Bool,(∃U:Nat→Value,l'=((.slice (some ⟨bk,0,none⟩) n c)::(.int .i64 (a:Int))::(.int .i64 (b:Int))::(.int .i64 (pv:Int))::vw6 U 4 ((.int .i64 (i:Int))::(.int .i64 z)::vw31 U 12 ((.bool t)::jlS U 44 []))))∧h'=h++[jbc bk y0 junk]∧(t=true↔i<b∧y0.getD i 0<y0.getD a 0)) [Zp 0,Zp 1,Zp 2,Zp 3,Zp 4,Zp 5,Zp 6,Zp 8,Zp 9,Zp 10,Zr 7,Zr 11,Zk 12,Zp 13] zK zK (gE _) ?_ ?_
 ·refine Z2 ?_
  refine jbL rfl zq (fun hc=>?_) (fun hc=>?_)
  ·refine Z3 ?_;refine D8 ?_;refine Z2 ?_;refine D8 ?_;refine jaR rfl rfl (jaz (i) zO zO) ?_;refine D71 ?_;refine D15 ?_
   rintro v (⟨hc,rfl⟩|⟨hc,rfl⟩);all_goals
    refine Z3 ?_
    exact E8
  ·refine Z12 ?_
   exact E8
 ·rintro l' h' ⟨t,⟨U,rfl⟩,rfl,ht⟩;cases t
  ·have hcf: ¬(i<b∧y0.getD i 0<y0.getD a 0):=fun e=>absurd (ht.2 e) zA
   refine Z4 ?_
   have hs1:=hcf
   refine jag (fun nn l h'=> ∃(j:Nat) (z:Int),nn=j+1∧(z=(j:Int)-1)∧(i≤j)∧(j≤b)∧(∀k,j≤k→k<b→y0.getD a 0≤y0.getD k 0)∧(∃U:Nat→Value,l=((.slice (some ⟨bk,0,none⟩) n c)::(.int .i64 (a:Int))::(.int .i64 (b:Int))::(.int .i64 (pv:Int))::vw6 U 4 ((.int .i64 (i:Int))::(.int .i64 z)::jo4 U 12 [])))∧h++[jbc bk y0 junk]=h') _ ⟨b,z,rfl,by omega,by omega,by omega,fun k h1 h2=>by omega,exU rfl,rfl⟩ ?_;rintro nn l h' ⟨j,z,rfl,hz2,hj1,hj2,hp2,⟨U,rfl⟩,rfl⟩ hnext2;refine Z2 ?_
   refine jcl (fun l' h'=> ∃t:Bool,(∃U:Nat→Value,l'=((.slice (some ⟨bk,0,none⟩) n c)::(.int .i64 (a:Int))::(.int .i64 (b:Int))::(.int .i64 (pv:Int))::vw6 U 4 ((.int .i64 (i:Int))::(.int .i64 z)::vw48 U 12 ((.bool t)::vw107 U 61 []))))∧h'=h++[jbc bk y0 junk]∧(t=true↔i<j∧ ¬y0.getD (j-1) 0<y0.getD a 0)) [Zp 0,Zp 1,Zp 2,Zp 3,Zp 4,Zp 5,Zp 6,Zp 8,Zp 9,Zp 10,Zr 7,Zr 11,Zk 12,Zp 13,Zp 14] zK zK (gE _) ?_ ?_
   ·refine Z2 ?_
    refine jbL rfl zq (fun hc=>?_) (fun hc=>?_)
    ·refine Z3 ?_;refine D8 ?_;refine Z2 ?_;refine D8 ?_;refine jaR rfl rfl (jaz (j-1) zO zO) ?_;refine D71 ?_;refine D15 ?_
     rintro v (⟨hc,rfl⟩|⟨hc,rfl⟩);refine Z2 ?_
     rotate_left
     refine D127 ?_
     all_goals
      refine Z2 ?_
      exact E8
    ·refine Z13 ?_
     exact E8
   ·rintro l' h' ⟨t,⟨U,rfl⟩,rfl,ht⟩;cases t
    ·have hcf: ¬(i<j∧ ¬y0.getD (j-1) 0<y0.getD a 0):=fun e=>absurd (ht.2 e) zA
     refine Z4 ?_
     have hs2:=hcf
     have hpt:Part y0 a b i (j-1):=⟨hp1,fun k h1 h2=>hp2 k zO h2⟩
     refine Z3 ?_
     refine jaD rfl zq (fun hc=>?_) (fun hc=>?_)
     ·refine Z3 ?_;refine D1 ?_;refine Z6 ?_;refine jnX ?_;refine D73 ?_;refine D89 ?_;refine D0 ?_
      haveI hs1:=setSeg_ints (xs:=y0) (junk:=junk) (v:=y0.getD (a) 0) (i:=z) (k:=j-1) zO zO
      refine jlO ?_
      haveI hs2:=setSeg_ints (xs:=y0.set (j-1) (y0.getD (a) 0)) (junk:=junk) (v:=y0.getD (j-1) 0) (i:=(a:Int)) (k:=a) zO zN
      refine D9 ?_
      rw [jbp];refine Z8 ?_;refine jab (h++[jbc bk (jbb y0 (j-1) a) junk]) rfl Tryz.func189 rfl jaa ?_;refine Zs ?_
      exact ⟨j-1,true,_,by rw [hz2,show (j:Int)-1=((j-1:Nat):Int) by omega],rfl,.step (j-1) a ⟨by omega,by omega⟩ ⟨by omega,by omega⟩ hsw0,by omega,by omega,hpt.cut zO zO zO zO⟩
     ·refine Z4 ?_
      have hne:i≠j-1:=fun e=>by rw [e] at hs1;omega
      refine D1 ?_;refine Z6 ?_;refine jnX ?_;refine D89 ?_;refine jaR rfl zq (jaz (i) zO zO) ?_;refine D0 ?_
      haveI hs1:=setSeg_ints (xs:=y0) (junk:=junk) (v:=y0.getD (j-1) 0) (i:=(i:Int)) (k:=i) zO zO
      refine jlO ?_
      haveI hs2:=setSeg_ints (xs:=y0.set (i) (y0.getD (j-1) 0)) (junk:=junk) (v:=y0.getD (i) 0) (i:=z) (k:=j-1) zO zN
      refine D9 ?_
      rw [jbp];refine Z15 ?_
      refine jag (fun nn l h'=> ∃(i3 j3:Nat) (z3:Int) (ys:List Int),nn=j3-i3∧(z3=(j3:Int)-1)∧(a<i3)∧(i3≤j3)∧(j3≤b)∧(Sw a b xs ys)∧(Part ys a b i3 (j3-1))∧(∃U:Nat→Value,l=((.slice (some ⟨bk,0,none⟩) n c)::(.int .i64 (a:Int))::(.int .i64 (b:Int))::(.int .i64 (pv:Int))::vw6 U 4 ((.int .i64 (i3:Int))::(.int .i64 z3)::jo4 U 12 [])))∧h++[jbc bk ys junk]=h') _ ⟨i+1,j-1,z-1,jbb y0 i (j-1),rfl,by omega,by omega,by omega,by omega,.step i (j-1) ⟨by omega,by omega⟩ ⟨by omega,by omega⟩ hsw0,hpt.swap zO zO zO zO zO zO,exU rfl,rfl⟩ ?_;rintro nn l h' ⟨i3,j3,z3,ys,rfl,hz3,hi3,hij3,hjb3,hsw3,hpt3,⟨U,rfl⟩,rfl⟩ hnext3;have hyl3:=hsw3.length
      refine Z3 ?_
      refine jag (fun nn l h'=> ∃(i4:Nat),nn=j3-i4∧(i3≤i4)∧(i4≤j3)∧(∀k,a<k→k<i4→ys.getD k 0<ys.getD a 0)∧(∃U:Nat→Value,l=((.slice (some ⟨bk,0,none⟩) n c)::(.int .i64 (a:Int))::(.int .i64 (b:Int))::(.int .i64 (pv:Int))::vw6 U 4 ((.int .i64 (i4:Int))::(.int .i64 z3)::jo4 U 12 [])))∧h++[jbc bk ys junk]=h') _ ⟨i3,rfl,by omega,by omega,hpt3.1,exU rfl,rfl⟩ ?_;rintro nn l h' ⟨i4,rfl,hi4,hij4,hp4,⟨U,rfl⟩,rfl⟩ hnext4;refine Z2 ?_
      refine jcl (fun l' h'=> ∃t:Bool,(∃U:Nat→Value,l'=((.slice (some ⟨bk,0,none⟩) n c)::(.int .i64 (a:Int))::(.int .i64 (b:Int))::(.int .i64 (pv:Int))::vw6 U 4 ((.int .i64 (i4:Int))::(.int .i64 z3)::vw100 U 12 ((.bool t)::vw55 U 113 []))))∧h'=h++[jbc bk ys junk]∧(t=true↔i4<j3∧ys.getD i4 0<ys.getD a 0)) [Zp 0,Zp 1,Zp 2,Zp 3,Zp 4,Zp 5,Zp 6,Zp 8,Zp 9,Zp 10,Zr 7,Zr 11,Zk 12,Zp 13] zK zK (gE _) ?_ ?_
      ·refine Z2 ?_
       refine jbL rfl zq (fun hc=>?_) (fun hc=>?_)
       ·refine Z3 ?_;refine D8 ?_;refine Z2 ?_;refine D8 ?_;refine jaR rfl rfl (jaz (i4) zO zO) ?_;refine D71 ?_;refine D15 ?_
        rintro v (⟨hc,rfl⟩|⟨hc,rfl⟩);all_goals
         refine Z3 ?_
         exact E8
       ·refine Z12 ?_
        exact E8
      ·rintro l' h' ⟨t,⟨U,rfl⟩,rfl,ht⟩;cases t
       ·have hcf: ¬(i4<j3∧ys.getD i4 0<ys.getD a 0):=fun e=>absurd (ht.2 e) zA
        refine Z4 ?_
        have hs4:=hcf
        refine jag (fun nn l h'=> ∃(j5:Nat) (z5:Int),nn=j5+1∧(z5=(j5:Int)-1)∧(i4≤j5)∧(j5≤j3)∧(∀k,j5≤k→k<b→ys.getD a 0≤ys.getD k 0)∧(∃U:Nat→Value,l=((.slice (some ⟨bk,0,none⟩) n c)::(.int .i64 (a:Int))::(.int .i64 (b:Int))::(.int .i64 (pv:Int))::vw6 U 4 ((.int .i64 (i4:Int))::(.int .i64 z5)::jo4 U 12 [])))∧h++[jbc bk ys junk]=h') _ ⟨j3,z3,rfl,by omega,by omega,by omega,fun k h1 h2=>hpt3.2 k zO h2,exU rfl,rfl⟩ ?_;rintro nn l h' ⟨j5,z5,rfl,hz5,hj5,hjj5,hp5,⟨U,rfl⟩,rfl⟩ hnext5;refine Z2 ?_
        refine jcl (fun l' h'=> ∃t:Bool,(∃U:Nat→Value,l'=((.slice (some ⟨bk,0,none⟩) n c)::(.int .i64 (a:Int))::(.int .i64 (b:Int))::(.int .i64 (pv:Int))::vw6 U 4 ((.int .i64 (i4:Int))::(.int .i64 z5)::vw117 U 12 ((.bool t)::vw38 U 130 []))))∧h'=h++[jbc bk ys junk]∧(t=true↔i4<j5∧ ¬ys.getD (j5-1) 0<ys.getD a 0)) [Zp 0,Zp 1,Zp 2,Zp 3,Zp 4,Zp 5,Zp 6,Zp 8,Zp 9,Zp 10,Zr 7,Zr 11,Zk 12,Zp 13,Zp 14] zK zK (gE _) ?_ ?_
        ·refine Z2 ?_
         refine jbL rfl zq (fun hc=>?_) (fun hc=>?_)
         ·refine Z3 ?_;refine D8 ?_;refine Z2 ?_;refine D8 ?_;refine jaR rfl rfl (jaz (j5-1) zO zO) ?_;refine D71 ?_;refine D15 ?_
          rintro v (⟨hc,rfl⟩|⟨hc,rfl⟩);refine Z2 ?_
          rotate_left
          refine D127 ?_
          all_goals
           refine Z2 ?_
           exact E8
         ·refine Z13 ?_
          exact E8
        ·rintro l' h' ⟨t,⟨U,rfl⟩,rfl,ht⟩;cases t
         ·have hcf: ¬(i4<j5∧ ¬ys.getD (j5-1) 0<ys.getD a 0):=fun e=>absurd (ht.2 e) zA
          refine Z4 ?_
          have hs5:=hcf
          have hpt5:Part ys a b i4 (j5-1):=⟨hp4,fun k h1 h2=>hp5 k zO h2⟩
          refine Z3 ?_
          refine jaD rfl zq (fun hc=>?_) (fun hc=>?_)
          ·refine Z4 ?_;refine D1 ?_;refine Z6 ?_;refine jnX ?_;refine D73 ?_;refine jaR rfl zq (jaz (j5-1) zO zO) ?_;refine D0 ?_
           haveI hs1:=setSeg_ints (xs:=ys) (junk:=junk) (v:=ys.getD (a) 0) (i:=z5) (k:=j5-1) zO zO
           refine jlO ?_
           haveI hs2:=setSeg_ints (xs:=ys.set (j5-1) (ys.getD (a) 0)) (junk:=junk) (v:=ys.getD (j5-1) 0) (i:=(a:Int)) (k:=a) zO zN
           refine D9 ?_
           rw [jbp];refine Z8 ?_;refine jab (h++[jbc bk (jbb ys (j5-1) a) junk]) rfl Tryz.func189 rfl jaa ?_;refine Zs ?_
           exact ⟨j5-1,false,_,by rw [hz5,show (j5:Int)-1=((j5-1:Nat):Int) by omega],rfl,.step (j5-1) a ⟨by omega,by omega⟩ ⟨by omega,by omega⟩ hsw3,by omega,by omega,hpt5.cut zO zO zO zO⟩
          ·refine Z4 ?_
           have hne5:i4≠j5-1:=fun e=>by rw [e] at hs4;omega
           refine D1 ?_;refine Z6 ?_;refine jnX ?_;refine jaR rfl zq (jaz (j5-1) zO zO) ?_;refine jaR rfl zq (jaz (i4) zO zO) ?_;refine D0 ?_
           haveI hs1:=setSeg_ints (xs:=ys) (junk:=junk) (v:=ys.getD (j5-1) 0) (i:=(i4:Int)) (k:=i4) zO zO
           refine jlO ?_
           haveI hs2:=setSeg_ints (xs:=ys.set (i4) (ys.getD (j5-1) 0)) (junk:=junk) (v:=ys.getD (i4) 0) (i:=z5) (k:=j5-1) zO zN
           refine D9 ?_
           rw [jbp];refine Z13 ?_
           exact m.weak jaa (hnext3 _ _ _ zO ⟨i4+1,j5-1,z5-1,jbb ys i4 (j5-1),rfl,by omega,by omega,by omega,by omega,.step i4 (j5-1) ⟨by omega,by omega⟩ ⟨by omega,by omega⟩ hsw3,hpt5.swap zO zO zO zO zO zO,exU rfl,rfl⟩)
         ·have hct:=ht.1 rfl
          refine Z9 ?_
          exact m.weak jaa (hnext5 _ _ _ zO ⟨j5-1,z5-1,rfl,by omega,by omega,by omega,fun k h1 h2=>by
           by_cases e:k=j5-1
           ·subst e
            omega
           ·exact hp5 k zO h2,exU rfl,rfl⟩)
       ·have hct:=ht.1 rfl
        refine Z9 ?_
        exact m.weak jaa (hnext4 _ _ _ zO ⟨i4+1,rfl,by omega,by omega,fun k h1 h2=>by
         by_cases e:k=i4
         ·subst e
          exact hct.2
         ·exact hp4 k h1 zO,exU rfl,rfl⟩)
    ·have hct:=ht.1 rfl
     refine Z9 ?_
     exact m.weak jaa (hnext2 _ _ _ zO ⟨j-1,z-1,rfl,by omega,by omega,by omega,fun k h1 h2=>by
      by_cases e:k=j-1
      ·subst e
       omega
      ·exact hp2 k zO h2,exU rfl,rfl⟩)
  ·have hct:=ht.1 rfl
   refine Z9 ?_
   exact m.weak jaa (hnext1 _ _ _ zO ⟨i+1,z,rfl,by omega,by omega,by omega,fun k h1 h2=>by
    by_cases e:k=i
    ·subst e
     exact hct.2
    ·exact hp1 k h1 zO,exU rfl,rfl⟩)
theorem f188_c (m:Md Tryz.prog B) (h:Hp) {c:Nat} (hl:xs.length=n) (hn:n≤100000) (a b pv:Nat) (ha:a≤pv) (hp:pv<b) (hb:b≤n) (hmin: ∀k,a≤k→k<b→xs.getD pv 0≤xs.getD k 0):FnC m 188 #[.slice (some ⟨bk,0,none⟩) n c,.int .i64 (a:Int),.int .i64 (b:Int),.int .i64 (pv:Int)] (h++[jbc bk xs junk]) fun v h'=> ∃(q:Nat) (ys:List Int),v= .int .i64 (q:Int)∧h'=h++[jbc bk ys junk]∧Sw a b xs ys∧a<q∧q≤b∧SortR ys a q∧ ∀p k,a≤p→p<q→q≤k→k<b→ys.getD p 0≤ys.getD k 0:=by
 refine jad Tryz.func188 rfl rfl (l:=(.slice (some ⟨bk,0,none⟩) n c)::(.int .i64 (a:Int))::(.int .i64 (b:Int))::(.int .i64 (pv:Int))::uu80) rfl ?_
 intro cf cs K hK
 refine Z5 ?_;refine D1 ?_;refine Z6 ?_;refine jnX ?_;refine jaR rfl zq (jaz (pv) zO zO) ?_;refine D73 ?_;refine D0 ?_
 haveI hs1:=setSeg_ints (xs:=xs) (junk:=junk) (v:=xs.getD (pv) 0) (i:=(a:Int)) (k:=a) zO zO
 refine jlO ?_
 haveI hs2:=setSeg_ints (xs:=xs.set (a) (xs.getD (pv) 0)) (junk:=junk) (v:=xs.getD (a) 0) (i:=(pv:Int)) (k:=pv) zO zN
 refine D9 ?_
 rw [jbp];refine Z2 ?_
 have hsw0:Sw a b xs (jbb xs a pv):=Sw.one a pv ⟨by omega,by omega⟩ ⟨by omega,by omega⟩
 have hyl:=hsw0.length
 have hpa:=sw_getD (xs:=xs) (a:=a) (pv:=pv) zO zO
 generalize jbb xs a pv=y0 at hsw0 hyl hpa⊢
 refine Z10 ?_
 refine jag (fun nn l h'=> ∃(i3 j3:Nat) (z3:Int) (ys:List Int),nn=j3-i3∧(z3=(j3:Int)-1)∧(a<i3)∧(i3≤j3)∧(j3≤b)∧(Sw a b xs ys)∧(Pare ys a b i3 (j3-1))∧(ys.getD a 0=xs.getD pv 0)∧(∃U:Nat→Value,l=((.slice (some ⟨bk,0,none⟩) n c)::(.int .i64 (a:Int))::(.int .i64 (b:Int))::(.int .i64 (pv:Int))::vw5 U 4 ((.int .i64 (i3:Int))::(.int .i64 z3)::vw73 U 11 [])))∧h++[jbc bk ys junk]=h') _ ⟨a+1,b,(b:Int)-1,y0,rfl,by omega,by omega,by omega,by omega,hsw0,Pare.start _ a b,hpa,exU rfl,rfl⟩ ?_;rintro nn l h' ⟨i3,j3,z3,ys,rfl,hz3,hi3,hij3,hjb3,hsw3,hpt3,hpa3,⟨U,rfl⟩,rfl⟩ hnext3;have hyl3:=hsw3.length
 refine Z3 ?_
 refine jag (fun nn l h'=> ∃(i4:Nat),nn=j3-i4∧(i3≤i4)∧(i4≤j3)∧(∀k,a≤k→k<i4→ys.getD k 0≤ys.getD a 0)∧(∃U:Nat→Value,l=((.slice (some ⟨bk,0,none⟩) n c)::(.int .i64 (a:Int))::(.int .i64 (b:Int))::(.int .i64 (pv:Int))::vw5 U 4 ((.int .i64 (i4:Int))::(.int .i64 z3)::vw73 U 11 [])))∧h++[jbc bk ys junk]=h') _ ⟨i3,rfl,by omega,by omega,hpt3.1,exU rfl,rfl⟩ ?_;rintro nn l h' ⟨i4,rfl,hi4,hij4,hp4,⟨U,rfl⟩,rfl⟩ hnext4;refine Z2 ?_
 refine jcl (fun l' h'=> ∃t:Bool,(∃U:Nat→Value,l'=((.slice (some ⟨bk,0,none⟩) n c)::(.int .i64 (a:Int))::(.int .i64 (b:Int))::(.int .i64 (pv:Int))::vw5 U 4 ((.int .i64 (i4:Int))::(.int .i64 z3)::vw32 U 11 ((.bool t)::vw40 U 44 []))))∧h'=h++[jbc bk ys junk]∧(t=true↔i4<j3∧ ¬ys.getD a 0<ys.getD i4 0)) [Zp 0,Zp 1,Zp 2,Zp 3,Zp 4,Zp 5,Zp 6,Zp 8,Zp 9,Zp 10,Zr 7,Zr 11,Zk 12,Zp 13,Zp 14] zK zK (gE _) ?_ ?_
 ·refine Z2 ?_
  refine jbL rfl zq (fun hc=>?_) (fun hc=>?_)
  ·refine Z3 ?_;refine D8 ?_;refine Z2 ?_;refine D8 ?_;refine D71 ?_;refine jaR rfl rfl (jaz (i4) zO zO) ?_;refine D15 ?_
   rintro v (⟨hc,rfl⟩|⟨hc,rfl⟩);refine Z2 ?_
   rotate_left
   refine D127 ?_
   all_goals
    refine Z2 ?_
    exact E8
  ·refine Z13 ?_
   exact E8
 ·rintro l' h' ⟨t,⟨U,rfl⟩,rfl,ht⟩;cases t
  ·have hcf: ¬(i4<j3∧ ¬ys.getD a 0<ys.getD i4 0):=fun e=>absurd (ht.2 e) zA
   refine Z4 ?_
   have hs4:=hcf
   refine jag (fun nn l h'=> ∃(j5:Nat) (z5:Int),nn=j5+1∧(z5=(j5:Int)-1)∧(i4≤j5)∧(j5≤j3)∧(∀k,j5≤k→k<b→ys.getD a 0<ys.getD k 0)∧(∃U:Nat→Value,l=((.slice (some ⟨bk,0,none⟩) n c)::(.int .i64 (a:Int))::(.int .i64 (b:Int))::(.int .i64 (pv:Int))::vw5 U 4 ((.int .i64 (i4:Int))::(.int .i64 z5)::vw73 U 11 [])))∧h++[jbc bk ys junk]=h') _ ⟨j3,z3,rfl,by omega,by omega,by omega,fun k h1 h2=>hpt3.2 k zO h2,exU rfl,rfl⟩ ?_;rintro nn l h' ⟨j5,z5,rfl,hz5,hj5,hjj5,hp5,⟨U,rfl⟩,rfl⟩ hnext5;refine Z2 ?_
   refine jcl (fun l' h'=> ∃t:Bool,(∃U:Nat→Value,l'=((.slice (some ⟨bk,0,none⟩) n c)::(.int .i64 (a:Int))::(.int .i64 (b:Int))::(.int .i64 (pv:Int))::vw5 U 4 ((.int .i64 (i4:Int))::(.int .i64 z5)::vw48 U 11 ((.bool t)::vw24 U 60 []))))∧h'=h++[jbc bk ys junk]∧(t=true↔i4<j5∧ys.getD a 0<ys.getD (j5-1) 0)) [Zp 0,Zp 1,Zp 2,Zp 3,Zp 4,Zp 5,Zp 6,Zp 8,Zp 9,Zp 10,Zr 7,Zr 11,Zk 12,Zp 13] zK zK (gE _) ?_ ?_
   ·refine Z2 ?_
    refine jbL rfl zq (fun hc=>?_) (fun hc=>?_)
    ·refine Z3 ?_;refine D8 ?_;refine Z2 ?_;refine D8 ?_;refine D71 ?_;refine jaR rfl rfl (jaz (j5-1) zO zO) ?_;refine D15 ?_
     rintro v (⟨hc,rfl⟩|⟨hc,rfl⟩);all_goals
      refine Z3 ?_
      exact E8
    ·refine Z12 ?_
     exact E8
   ·rintro l' h' ⟨t,⟨U,rfl⟩,rfl,ht⟩;cases t
    ·have hcf: ¬(i4<j5∧ys.getD a 0<ys.getD (j5-1) 0):=fun e=>absurd (ht.2 e) zA
     refine Z4 ?_
     have hs5:=hcf
     have hpt5:Pare ys a b i4 (j5-1):=⟨hp4,fun k h1 h2=>hp5 k zO h2⟩
     refine Z3 ?_
     refine jaD rfl zq (fun hc=>?_) (fun hc=>?_)
     ·refine Z9 ?_;refine jab (h++[jbc bk ys junk]) rfl Tryz.func188 rfl jaa ?_;refine Zs ?_
      have hall:=hsw3.all (p:=fun v=>xs.getD pv 0≤v) zO hmin
      have hij5:i4=j5:=by omega
      exact ⟨i4,ys,rfl,rfl,hsw3,by omega,by omega,fun p q h1 h2 h3=>by have:=hp4 p h1 zO;have:=hall q zO zO;omega,fun p k h1 h2 h3 h4=>by have:=hp4 p h1 h2;have:=hp5 k zO h4;omega⟩
     ·refine Z4 ?_
      have hne5:i4≠j5-1:=fun e=>by rw [e] at hs4;omega
      refine D1 ?_;refine Z6 ?_;refine jnX ?_;refine jaR rfl zq (jaz (j5-1) zO zO) ?_;refine jaR rfl zq (jaz (i4) zO zO) ?_;refine D0 ?_
      haveI hs1:=setSeg_ints (xs:=ys) (junk:=junk) (v:=ys.getD (j5-1) 0) (i:=(i4:Int)) (k:=i4) zO zO
      refine jlO ?_
      haveI hs2:=setSeg_ints (xs:=ys.set (i4) (ys.getD (j5-1) 0)) (junk:=junk) (v:=ys.getD (i4) 0) (i:=z5) (k:=j5-1) zO zN
      refine D9 ?_
      rw [jbp];refine Z13 ?_
      exact m.weak jaa (hnext3 _ _ _ zO ⟨i4+1,j5-1,z5-1,jbb ys i4 (j5-1),rfl,by omega,by omega,by omega,by omega,.step i4 (j5-1) ⟨by omega,by omega⟩ ⟨by omega,by omega⟩ hsw3,hpt5.swap zO zO zO zO zO zO,by rw [ja6 zO zO,if_neg zO,if_neg zO];exact hpa3,exU rfl,rfl⟩)
    ·have hct:=ht.1 rfl
     refine Z9 ?_
     exact m.weak jaa (hnext5 _ _ _ zO ⟨j5-1,z5-1,rfl,by omega,by omega,by omega,fun k h1 h2=>by
      by_cases e:k=j5-1
      ·subst e
       omega
      ·exact hp5 k zO h2,exU rfl,rfl⟩)
  ·have hct:=ht.1 rfl
   refine Z9 ?_
   exact m.weak jaa (hnext4 _ _ _ zO ⟨i4+1,rfl,by omega,by omega,fun k h1 h2=>by
    by_cases e:k=i4
    ·subst e
     omega
    ·exact hp4 k h1 zO,exU rfl,rfl⟩)
end
end Go.Proofs
