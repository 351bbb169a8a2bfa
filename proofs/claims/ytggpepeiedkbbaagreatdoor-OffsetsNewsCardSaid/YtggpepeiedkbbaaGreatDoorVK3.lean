/- A part of the proof of a law. Condition of each theorem: as its statement says. -/
import Derived.Test.YtggpepeiedkbbaaGreatDoorVK2
import Derived.Conc.AtomicLaws2
import Derived.Conc.ClockLaws
import Derived.Conc.MarkLaws
import Derived.Conc.DeferLaws
import Derived.Conc.SmallLaws
import Derived.Laws.LoneSync
set_option linter.all false
variable {l l' vs l1 ys l'' junk:List Go.Value} {ds:List Go.Deferred} {k kk k' k2 ik kj:Go.IntKind} {cs:List Go.Frame} {ops:Array Go.Oper} {i off j n o q ft bb t2 src dst dd ns can must:Nat} {rest:List Nat} {d:Option Go.Tmp} {ty t u e t':Go.TypeId} {pos:String} {af:Array Go.Edge} {args:List Go.Operand} {ats ps:Array Go.TypeId} {f f0:Go.FuncId} {B:Array Go.Obj} {X h S h' H F h1 h2:Go.Lo.Hp} {b:Go.Frame} {c' first:Array Go.Value} {s:List UInt8} {y:Go.Operand} {z a n' la lc ma mc:Int} {todo:List Go.Item} {p:Option Int} {Q:Go.Value→Go.Lo.Hp→Prop} {r:List (Nat×Go.Lo.Kd)} {C:List Go.Value→Go.Lo.Hp→Prop} {kd:Go.Lo.Kd}
set_option maxRecDepth 100000
set_option synthInstance.maxHeartbeats 1000000
namespace Go.Lo
open Go.Conc
structure Ext (P:Program) (f:FuncId) (e:Array Value→Sem Value):Prop where
  eq: ∃fn,P.funcs[f]?=some fn∧(fn.name== "runtime.NumGoroutine")=false∧fn.body.isNone=true∧Extern.findNext fn=none∧Extern.find fn=some e
section
variable {P:Program} {k:List Item} {g:Option (Nat×Bool)} {v:Value} {e:Array Value→Sem Value} {main:Bool} {w w':World}
theorem jk8 [ea:ArgsV l args vs]:args.toArray.map (Act.eval ⟨l.toArray,ds⟩)=vs.toArray:=by
  rw [Gv,←ea.eq];congr 1
  apply GP
  intro x _
  cases x<;>simp [Act.eval,ev,gk,gC]
theorem act_put:(Act.put ⟨l.toArray,ds⟩ d v)=⟨(put l d v).toArray,ds⟩:=by
  cases d<;>simp [Act.put,put]
theorem jek (E:Ext P f e) (ho:ops[i]?=some ⟨d,.call ⟨.value (.func f),args.toArray,ats⟩,ty,pos,af,g⟩) (hw:Wt ops l g) [ea:ArgsV l args vs] [p:PutV l d v l'] {evs:List Event}
    (hrun:(e vs.toArray).run P w= .ok v w') (hev:(e vs.toArray).events P w #[⟨.mark (.extern f),false,true⟩]= #[⟨.mark (.extern f),false,true⟩]++evs.toArray) (hs: ∀x∈evs,x.sync=true∧ ∀g,x.loc≠ .mark (.extern g)):
    stepG P main (Gr (bF f0) l ds (.inRegion ops (i::rest)::k) cs) w= .go (Gr (bF f0) l' ds (.inRegion ops rest::k) cs) w' evs.toArray:=by
  obtain ⟨fn,h1,h2,h3,h4,h5⟩:=E.eq
  have:=stepG_entry (P:=P) (main:=main) (b:=bF f0) (a:=⟨l.toArray,ds⟩) (kk:=k) (cs:=cs) (w:=w) (rest:=rest) ho (Wt.wanted (o:=⟨d,.call ⟨.value (.func f),args.toArray,ats⟩,ty,pos,af,g⟩) hw) (by simp [bF]) rfl h1 h2 h3 h4 h5 (v:=v) (w':=w') (evs:=evs.toArray)
    (by rw [jk8];exact hrun) (by rw [jk8];exact hev) (fun x hx=>hs x (by simpa using hx))
  rw [act_put,p.eq] at this
  exact this
theorem jmP (E:Ext P f e) (ho:ops[i]?=some ⟨d,.call ⟨.value (.func f),args.toArray,ats⟩,ty,pos,af,g⟩) (hw:Wt ops l g) [ea:ArgsV l args vs] (hrun:(e vs.toArray).run P w= .halt .blocked w'):
    stepG P main (Gr (bF f0) l ds (.inRegion ops (i::rest)::k) cs) w= .go {Gr (bF f0) l ds (.inRegion ops (i::rest)::k) cs with status:= .blocked} w' #[]:=by
  obtain ⟨fn,h1,h2,h3,h4,h5⟩:=E.eq
  exact stepG_entry_blocked (P:=P) (main:=main) (b:=bF f0) (a:=⟨l.toArray,ds⟩) (kk:=k) (cs:=cs) (w:=w) (rest:=rest) ho (Wt.wanted (o:=⟨d,.call ⟨.value (.func f),args.toArray,ats⟩,ty,pos,af,g⟩) hw) rfl h1 h2 h3 h4 h5 (by rw [jk8];exact hrun)
theorem jle (E:Ext P f e) (ho:ops[i]?=some ⟨d,.call ⟨.value (.func f),args.toArray,ats⟩,ty,pos,af,g⟩):mayWake P (Gr (bF f0) l ds (.inRegion ops (i::rest)::k) cs)=true:=by
  obtain ⟨fn,h1,h2,h3,h4,h5⟩:=E.eq
  have hb:fn.body=none:=by simpa using h3
  simp [mayWake,Gr,Fr,G,Goroutine.frame,ho,Frame.eval,bF,h1,hb]
theorem i_ext {m:Im P} (E:Ext P f e) (ho:ops[i]?=some ⟨d,.call ⟨.value (.func f),args.toArray,ats⟩,ty,pos,af,g⟩) (hw:Wt ops l g) [ea:ArgsV l args vs] [p:PutV l d v l'] (he:e vs.toArray=Pure.pure v)
    (n:m.R (Gr (bF f0) l' ds (.inRegion ops rest::k) cs)):m.R (Gr (bF f0) l ds (.inRegion ops (i::rest)::k) cs):=
  m.idle rfl (fun w=>jek (evs:=[]) E ho hw (by rw [he];rfl) (by rw [he];rfl) zS) n
theorem jgg (m:Mark) (asv:Array Value):((fun _:Array Value=>(do mark m;Pure.pure Extern.Race.none_:Sem Value)) asv).run P w= .ok (.tuple #[]) w:=by simp [Extern.Race.none_]
theorem jgC (m:Mark) (asv:Array Value) (es:Array Event):((fun _:Array Value=>(do mark m;Pure.pure Extern.Race.none_:Sem Value)) asv).events P w es=es++[(⟨.mark m,false,true⟩:Event)].toArray:=by simp
theorem jfn (mk:Addr→Mark) (a:Addr):(Extern.Race.marked mk [.pointer (some a)].toArray).run P w= .ok (.tuple #[]) w:=by simp [Extern.Race.marked,Extern.Race.at_,Extern.Race.none_]
theorem jfs (mk:Addr→Mark) (a:Addr) (es:Array Event):(Extern.Race.marked mk [.pointer (some a)].toArray).events P w es=es++[(⟨.mark (mk a),false,true⟩:Event)].toArray:=by simp [Extern.Race.marked,Extern.Race.at_]
end
section
variable {w:World} {X s1 s2:Hp} {b off:Nat} {c:Array Value} {v:Value}
theorem jnQ (s:Sat B (X++(s1++⟨true,b,.cells c t (0,0)⟩::s2)) w) (hv:c[off]?=some v):w.cell? ⟨b,off,none⟩=some v∧w.frozen? ⟨b,off,none⟩=false:=by
  have hb:=(s.mem ⟨true,b,.cells c t (0,0)⟩ zS).2
  exact ⟨by simp [World.cell?,hb,hv],by simp [World.frozen?,hb]⟩
theorem seff_set (s:Sat B (X++(s1++⟨true,b,.cells c t (0,0)⟩::s2)) w) (hr: ∀x∈s1++s2,x.rw=true) (hc:c.setIfInBounds off v=c'):
    SEff B (s1++⟨true,b,.cells c t (0,0)⟩::s2) (s1++⟨true,b,.cells c' t (0,0)⟩::s2) w (w.setCell ⟨b,off,none⟩ v):=by
  have hb:=(s.mem ⟨true,b,.cells c t (0,0)⟩ zS).2
  rw [jgQ hb,hc];refine ⟨fun Y sy=>?_,by simp,.refl _,rfl,rfl,gM _,fun x hx=>?_,by simp,fun x hx=>?_⟩
  · rw [←gI] at sy⊢
    exact sy.turn
  · have:b≠x:=hx ⟨true,b,.cells c t (0,0)⟩ zS
    show (w.heap.setIfInBounds b _)[x]?=_
    rw [GD this]
  · rcases gQ.1 hx with hx|hx
    · exact hr x (GT _ hx)
    · rcases gU.1 hx with rfl|hx
      · rfl
      · exact hr x (GH _ hx)
end
theorem jki {S:Type} {F:Nat→Option S} {s:S} (h:F i=some s):ja8 F i (some s)=F:=by
  funext j
  by_cases e:j=i
  · subst e;rw [updS_same,h]
  · rw [jap _ _ e]
structure Sy (P:Program) (B:Array Obj) (Q:ProS) where
  i:Nat
  main:Bool
  R:Nat→Q.S→Goroutine→Hp→Prop
  out:Nat→Goroutine→Prop
  idle: ∀{d:Nat} {s:Q.S} {g g':Goroutine} {h:Hp},g.status= .running→(∀w,stepG P main g w= .go g' w #[])→R d s g' h→R d s g h
  weak: ∀{d:Nat} {s:Q.S} {g:Goroutine} {h h':Hp},Weak B h h'→R d s g h'→R d s g h
  syn: ∀{d:Nat} {s:Q.S} {g:Goroutine} {h:Hp},g.status= .running→g.offers=none→
    (∀Shp Pool F w,Q.Inv Shp Pool F→F i=some s→Sat B (h++Pool++Shp) w→SOut P B Q i d s h Shp Pool F g w (fun d' o g' h'=>match o with|some s'=>R d' s' g' h'|none=>out d' g') (stepG P main g w))→R d s g h
def Im.quit (P:Program) (d:Nat):Im P:=⟨false,fun g=> ∃k,QuitsD P k d g,fun hs e ⟨k,q⟩=>⟨k+1,.ctl hs e q⟩⟩
section
variable {P:Program} {s:SS}
variable {k:List Item} {g:Option (Nat×Bool)} {x y z:Operand}
def evR (a:Addr):List Event:=[⟨.cell a,false,true⟩]
def jrL (a:Addr):List Event:=[⟨.cell a,false,true⟩,⟨.cell a,true,true⟩]
def evW (a:Addr):List Event:=[⟨.cell a,true,true⟩]
def evS (a:Addr):List Event:=[⟨.mark .disable,false,true⟩,⟨.cell a,false,true⟩,⟨.cell a,true,true⟩,⟨.mark .enable,false,true⟩]
section
variable {a:Addr}
theorem jlo: ∀x∈evR a,x.sync=true∧ ∀g,x.loc≠ .mark (.extern g):=by simp [evR]
theorem sync_W: ∀x∈evW a,x.sync=true∧ ∀g,x.loc≠ .mark (.extern g):=by simp [evW]
theorem jko: ∀x∈jrL a,x.sync=true∧ ∀g,x.loc≠ .mark (.extern g):=by simp [jrL]
theorem sync_S: ∀x∈evS a,x.sync=true∧ ∀g,x.loc≠ .mark (.extern g):=by simp [evS]
end
theorem app2 (es:Array Event) (x y:Event):(es.push x).push y=es++ #[x,y]:=vE zS
theorem app4 (es:Array Event) (x y z u:Event):(((es.push x).push y).push z).push u=es++ #[x,y,z,u]:=vE zS
section
variable {a:Addr} {w:World} {n n':Int} {es:Array Event}
theorem cas_hit (hc:w.cell? a=some (.int kk n)) (hz:w.frozen? a=false):(Extern.Atomic.casT (.int kk) [.pointer (some a),.int kk n,.int kk n'].toArray).run P w= .ok (.bool true) (w.setCell a (.int kk n'))∧
    (Extern.Atomic.casT (.int kk) [.pointer (some a),.int kk n,.int kk n'].toArray).events P w es=es++(jrL a).toArray:=by
  refine ⟨?_,?_⟩
  · exact run_cas_hit_entry hc hz
  · show (Extern.Atomic.casT (.int kk) #[.pointer (some a),.int kk n,.int kk n']).events P w es=_
    rw [casT_eq,events_cas_hit_entry hc hz];simp [jrL,app2]
theorem cas_miss {o:Int} (hc:w.cell? a=some (.int kk n)) (hz:w.frozen? a=false) (hne:n≠o):(Extern.Atomic.casT (.int kk) [.pointer (some a),.int kk o,.int kk n'].toArray).run P w= .ok (.bool false) w∧
    (Extern.Atomic.casT (.int kk) [.pointer (some a),.int kk o,.int kk n'].toArray).events P w es=es++(evR a).toArray:=by
  refine ⟨?_,?_⟩
  · exact run_cas_miss_entry hc hz hne
  · show (Extern.Atomic.casT (.int kk) #[.pointer (some a),.int kk o,.int kk n']).events P w es=_
    rw [casT_eq,events_cas_miss_entry hc hz hne];simp [evR]
theorem jnw {q:Int} (hc:w.cell? a=some (.int kk n)) (hz:w.frozen? a=false) (hq:kk.wrap (n+n')=q):(Extern.Atomic.update (Op.intArith .add) kk true [.pointer (some a),.int kk n'].toArray).run P w= .ok (.int kk q) (w.setCell a (.int kk q))∧
    (Extern.Atomic.update (Op.intArith .add) kk true [.pointer (some a),.int kk n'].toArray).events P w es=es++(jrL a).toArray:=by
  subst hq
  refine ⟨?_,?_⟩
  · exact run_add_entry hc hz
  · show (Extern.Atomic.update (Op.intArith .add) kk true #[.pointer (some a),.int kk n']).events P w es=_
    rw [events_add_entry hc hz];simp [jrL,app2]
theorem jhR (hc:w.cell? a=some (.int kk n)):(Extern.Atomic.loadT (.int kk) [.pointer (some a)].toArray).run P w= .ok (.int kk n) w∧(Extern.Atomic.loadT (.int kk) [.pointer (some a)].toArray).events P w es=es++(evR a).toArray:=by
  refine ⟨?_,?_⟩
  · change Sem.run P (do Extern.Atomic.read (.int kk) (←asAddr (.pointer (some a)))) w=_
    simp [Extern.Atomic.read,asAddr,hc]
  · change Sem.events P (do Extern.Atomic.read (.int kk) (←asAddr (.pointer (some a)))) w _=_
    simp [Extern.Atomic.read,asAddr,hc,events_load,evR]
theorem jp5 {u:Value} (hc:w.cell? a=some u) (hz:w.frozen? a=false):(Extern.Atomic.storeT [.pointer (some a),.int kk n].toArray).run P w= .ok (.tuple #[]) (w.setCell a (.int kk n))∧(Extern.Atomic.storeT [.pointer (some a),.int kk n].toArray).events P w es=es++(evW a).toArray:=by
  refine ⟨?_,?_⟩
  · change Sem.run P (do
      store (←asAddr (.pointer (some a))) (.int kk n) .atomic
      pure Extern.Atomic.none_) w=_
    simp [asAddr,hc,hz,run_store P w a (.int kk n) .atomic rfl,Result.andThen,Extern.Atomic.none_]
  · change Sem.events P (do
      store (←asAddr (.pointer (some a))) (.int kk n) .atomic
      pure Extern.Atomic.none_) w _=_
    simp [asAddr,hc,hz,events_store P w _ a (.int kk n) .atomic rfl,evW]
theorem sem_take (hc:w.cell? a=some (.int .u32 n)) (hz:w.frozen? a=false) (hn:n≠0):(Extern.Sync.semacquire (.pointer (some a)::vs).toArray).run P w= .ok (.tuple #[]) (w.setCell a (.int .u32 (n-1)))∧
    (Extern.Sync.semacquire (.pointer (some a)::vs).toArray).events P w es=es++(evS a).toArray:=by
  refine ⟨?_,?_⟩
  · simp [Extern.Sync.semacquire,Extern.Sync.count,hc,hn,hz,Extern.Sync.none_,run_store P w a (.int .u32 (n-1)) .atomic rfl,Result.andThen]
  · simp [Extern.Sync.semacquire,Extern.Sync.count,hc,hn,hz,evS,events_load,events_store P w _ a (.int .u32 (n-1)) .atomic rfl,run_store P w a (.int .u32 (n-1)) .atomic rfl,Result.evThen,app4]
theorem sem_wait (hc:w.cell? a=some (.int .u32 0)):(Extern.Sync.semacquire (.pointer (some a)::vs).toArray).run P w= .halt .blocked w:=by
  simp [Extern.Sync.semacquire,Extern.Sync.count,hc]
theorem sem_give {q:Int} (hc:w.cell? a=some (.int .u32 n)) (hz:w.frozen? a=false) (hq:IntKind.u32.wrap (n+1)=q):(Extern.Sync.semrelease (.pointer (some a)::vs).toArray).run P w= .ok (.tuple #[]) (w.setCell a (.int .u32 q))∧
    (Extern.Sync.semrelease (.pointer (some a)::vs).toArray).events P w es=es++(evS a).toArray:=by
  subst hq
  refine ⟨?_,?_⟩
  · simp [Extern.Sync.semrelease,Extern.Sync.count,hc,hz,Extern.Sync.none_,Op.intArith,run_store P w a (.int .u32 (IntKind.u32.wrap (n+1))) .atomic rfl,Result.andThen]
  · simp [Extern.Sync.semrelease,Extern.Sync.count,hc,hz,evS,Op.intArith,events_load,events_store P w _ a (.int .u32 (IntKind.u32.wrap (n+1))) .atomic rfl,run_store P w a (.int .u32 (IntKind.u32.wrap (n+1))) .atomic rfl,Result.evThen,app4]
end
section
variable {w:World} {x x':Wd} {sm sm' v v' wt wt' ws ws':Nat}
end
end
section
variable {P:Program} {m:Im P} {k:List Item}
variable {g:Option (Nat×Bool)}
theorem jnj (ho:ops[i]?=some ⟨d,.defer ⟨.value (.func f),args.toArray,ats⟩,ty,pos,af,g⟩) (hw:Wt ops l g) (hr:b.roundOf=none) (hk:b.kind≠ .early) [ea:ArgsV l args vs] [p:PutV l d undef l']
    (n:m.R (Gr b l' (dcall f vs.toArray::ds) (.inRegion ops rest::k) cs)):m.R (Gr b l ds (.inRegion ops (i::rest)::k) cs):=by
  refine m.idle rfl (fun w=>?_) n
  have he:=Fr.eval b l ds (.inRegion ops (i::rest)::k)
  simp only [Fr] at he
  have e:Array.map (ev l) args.toArray=vs.toArray:=by rw [Gv,ea.eq]
  have hw':=Wt.wanted (o:=⟨d,.defer ⟨.value (.func f),args.toArray,ats⟩,ty,pos,af,g⟩) hw
  have hfin:=Fr.finish b l (dcall f vs.toArray::ds) ops i rest k undef ho
  rw [p.eq] at hfin
  have h1:stepG P m.main (Gr b l ds (.inRegion ops (i::rest)::k) cs) w=stepG.apply P true (Fr b l ds (.inRegion ops (i::rest)::k)) cs none (execOp (ev l) ⟨d,.defer ⟨.value (.func f),args.toArray,ats⟩,ty,pos,af,g⟩) w:=by
    simp [Gr,G,stepG,stepG.exec,stepG.oper,Frame.oper?,Fr,ho,hw',hr,he]
    rw [←he,hr]
  have hm:execOp (ev l) ⟨d,.defer ⟨.value (.func f),args.toArray,ats⟩,ty,pos,af,g⟩=Pure.pure (.defer (dcall f vs.toArray)):=by
    simp [execOp,resolve,Deferred.ofValue,ev,dcall,ea.eq]
  have hk':(b.kind==CallKind.early)=false:=by simpa using hk
  rw [h1,hm];unfold Gr
  rw [←hfin];simp [stepG.apply,G,Fr,hk',GStep.after,jd4]
def bD (f:FuncId):Frame:={bF f with kind:= .deferred}
theorem i_unwind {fn:Func} {body:Code} {args:List Value} (hf:P.funcs[f]?=some fn) (hname:(fn.name== "runtime.NumGoroutine")=false) (hb:fn.body=some body) (hn:fn.ntmps=n) (hl:args++List.replicate (n-args.length) undef=l1)
    (t:m.R (Gr (bD f) l1 [] [.code body] ((jff b l ds todo cs).frame::cs))):m.R (jff b l (dcall f args.toArray::ds) todo cs):=by
  refine m.idle rfl (fun w=>?_) t
  have h1: ¬fn.name= "runtime.NumGoroutine" :=by simpa using hname
  have e:Frame.enter P f args.toArray .deferred=Fr (bD f) l1 [] [.code body]:=by
    subst hl
    simp [Frame.enter,hf,hb,hn,Fr,bD,bF]
  unfold Gr
  rw [←e];simp [jff,Fr,G,stepG,unwind,callDeferred,dcall,invoke,callFunc,hf,h1,hb,GStep.after,jd4]
theorem i_leaveD {c:Frame} {fn:Func} (hk:b.kind= .deferred) (hf:P.funcs[b.fn]?=some fn) (hr:fn.results= #[]) (hc:c.mode= .returning) (n:m.R (G c cs)):m.R (jff b l [] todo (c::cs)):=by
  refine m.idle rfl (fun w=>?_) n
  have h1:=results_none hr l.toArray P w
  have h2:(results fn l.toArray).events P w #[]= #[]:=by simp [results,hr]
  simp [jff,Fr,G,stepG,unwind,doReturn,hf,h1,h2,hk,hc,GStep.after,seen]
theorem jge {s:TypeId} {f:Nat} [t:FieldT P s f off ft]:Still P (Instr.fieldAt s (.pointer (some ⟨bb,o,none⟩)) f) (.pointer (some ⟨bb,o+off,none⟩)):=by
  have:=t.eq
  unfold jot at this
  split at this
  · rename_i fs e
    split at this
    · rename_i x ex
      simp only [gL,beq_iff_eq] at this
      obtain ⟨⟨h1,h2⟩,h3⟩:=this
      subst h1;subst h2
      unfold Instr.fieldAt
      refine Still.bind (jak e) ?_
      simp only [ex]
      refine Still.bind (a:=⟨bb,o,none⟩) (Still.pure _) ?_
      refine Still.bind (a:=⟨bb,o+x.offset,none⟩) ?_ (Still.pure _)
      unfold fieldPlace
      split at h3
      · rename_i ti eti
        refine Still.bind (a:=ti.size) (Still.bind (jb8 eti) (Still.pure _)) ?_
        rw [if_neg (by simpa using h3),Addr.add_none];exact Still.pure _
      · cases h3
    · cases this
  · cases this
theorem i_fa0 {s:TypeId} {f:Nat} {x:Operand} (ho:ops[i]?=some ⟨d,.fieldAddr s x f,ty,pos,af,g⟩) (hw:Wt ops l g) [e:OpV l x (.pointer (some ⟨bb,0,none⟩))] [FieldT P s f off ft] [PutV l d (.pointer (some ⟨bb,off,none⟩)) l'] (n:m.R (Gr b l' ds (.inRegion ops rest::k) cs)):
    m.R (Gr b l ds (.inRegion ops (i::rest)::k) cs):=
  i_op (v:= .pointer (some ⟨bb,off,none⟩)) ho hw zS (by
    simp only [execOp,e.eq]
    have:=jge (P:=P) (s:=s) (f:=f) (bb:=bb) (o:=0)
    rw [GG] at this
    exact Still.value this) n
theorem i_fa {s:TypeId} {f:Nat} {x:Operand} (ho:ops[i]?=some ⟨d,.fieldAddr s x f,ty,pos,af,g⟩) (hw:Wt ops l g) [e:OpV l x (.pointer (some ⟨bb,o,none⟩))] [FieldT P s f off ft] [PutV l d (.pointer (some ⟨bb,o+off,none⟩)) l'] (n:m.R (Gr b l' ds (.inRegion ops rest::k) cs)):
    m.R (Gr b l ds (.inRegion ops (i::rest)::k) cs):=
  i_op (v:= .pointer (some ⟨bb,o+off,none⟩)) ho hw zS (by simp only [execOp,e.eq];exact Still.value jge) n
theorem je6 {s:TypeId} {x:Operand} {n:Int} (ho:ops[i]?=some ⟨d,.convert s t x,ty,pos,af,g⟩) (hw:Wt ops l g) [ex:OpV l x (.int kk n)] (hs:(P.underlying s).isSome=true) [it:IntT P t k'] (hn:k'.wrap n=n') [PutV l d (.int k' n') l'] (q:m.R (Gr b l' ds (.inRegion ops rest::k) cs)):
    m.R (Gr b l ds (.inRegion ops (i::rest)::k) cs):=
  i_op (v:= .int k' n') ho hw zS (by
    obtain ⟨u,hu⟩:=Vl.1 hs
    have:=it.eq
    unfold intB at this
    simp only [execOp,ex.eq]
    refine Still.value ?_
    unfold convert
    refine Still.bind (jak hu) ?_
    split at this
    · rename_i k2 e
      have:k2=k':=by simpa using this
      subst this
      refine Still.bind (jak e) ?_
      rw [←hn];cases u<;>exact Still.pure _
    · cases this) q
theorem jg7 {x:Operand} {op:BinOp} {p q:Int} {v:Value} (ho:ops[i]?=some ⟨d,.binOp op t x y u,ty,pos,af,g⟩) (hw:Wt ops l g) [ex:OpV l x (.int kk p)] [ey:OpV l y (.int k2 q)] (hs:op= .shl∨op= .shr) (hv:Op.shift op kk p k2 q=Sem.pure v) [PutV l d v l']
    (n:m.R (Gr b l' ds (.inRegion ops rest::k) cs)):m.R (Gr b l ds (.inRegion ops (i::rest)::k) cs):=
  i_op (v:=v) ho hw zS (by
    simp only [execOp,ex.eq,ey.eq]
    refine Still.value (Still.bind (a:=()) ?_ ?_)
    · rcases hs with rfl|rfl<;>exact Still.pure ()
    · have e:binOp op t (.int kk p) (.int k2 q)=Op.shift op kk p k2 q:=by rcases hs with rfl|rfl<;>rfl
      rw [e,hv];exact Still.pure _) n
theorem i_pickT {c x:Operand} {v:Value} (ho:ops[i]?=some ⟨d,.pick c x y,ty,pos,af,g⟩) (hw:Wt ops l g) [ec:OpV l c (.bool true)] [ex:OpV l x v] [PutV l d v l'] (n:m.R (Gr b l' ds (.inRegion ops rest::k) cs)):m.R (Gr b l ds (.inRegion ops (i::rest)::k) cs):=
  i_op (v:=v) ho hw zS (by simp only [execOp,ec.eq,ex.eq];exact Still.bind (a:=true) (Still.pure _) (Still.pure _)) n
theorem i_pickF {c x:Operand} {v:Value} (ho:ops[i]?=some ⟨d,.pick c x y,ty,pos,af,g⟩) (hw:Wt ops l g) [ec:OpV l c (.bool false)] [ey:OpV l y v] [PutV l d v l'] (n:m.R (Gr b l' ds (.inRegion ops rest::k) cs)):m.R (Gr b l ds (.inRegion ops (i::rest)::k) cs):=
  i_op (v:=v) ho hw zS (by simp only [execOp,ec.eq,ey.eq];exact Still.bind (a:=false) (Still.pure _) (Still.pure _)) n
end
section
variable {P:Program} {m:Im P} {k:List Item}
end
section
variable {P:Program} {m:Im P} {k:List Item}
variable {g:Option (Nat×Bool)}
theorem i_cal (ho:ops[i]?=some ⟨d,.call ⟨.value (.func f),args.toArray,ats⟩,ty,pos,af,g⟩) (hw:Wt ops l g) [ea:ArgsV l args vs] (hf:jcd P f=true)
    (n:m.R (G (Frame.enter P f vs.toArray .normal) (Fr b l ds (.inRegion ops (i::rest)::k)::cs))):m.R (Gr b l ds (.inRegion ops (i::rest)::k) cs):=
  i_call (ex:=(⟨rfl⟩:OpV l (.func f) (.func (.func f) #[] #[]))) ho hw hf (by simpa using n)
theorem jg8 {op:Op} {v:Value} (ho:ops[i]?=some ⟨d,op,ty,pos,af,g⟩) [p:PutV l d v l'] (n:m.R (Gr b l' ds (.inRegion ops rest::k) cs)):m.R (G ((Fr b l ds (.inRegion ops (i::rest)::k)).finish v) cs):=by
  rw [fin_at (o:=⟨d,op,ty,pos,af,g⟩) (l':=l') ho];exact n
end
section
variable {P:Program} {Q:ProS} {k:List Item} {s:Q.S}
end
section
variable {P:Program} {Q:ProS} {k:List Item} {s:Q.S}
end
section
variable {P:Program} {s:SS}
variable {k:List Item} {g:Option (Nat×Bool)}
end
section
variable {P:Program} {Q:ProS} {k:List Item} {s:Q.S}
end
def bAnd (k:IntKind) (x y:Int):Int:=k.wrap (BitVec.ofInt k.bits x&&&BitVec.ofInt k.bits y).toNat
def bOr (k:IntKind) (x y:Int):Int:=k.wrap (BitVec.ofInt k.bits x|||BitVec.ofInt k.bits y).toNat
def bClr (k:IntKind) (x y:Int):Int:=k.wrap (BitVec.ofInt k.bits x&&& ~~~BitVec.ofInt k.bits y).toNat
theorem jfE {x y:Int} (h:bAnd k x y=z):binOp .and t (.int k x) (.int k y)=Sem.pure (.int k z):=by
  subst h;simp [binOp,Op.intBits,bAnd];rfl
theorem op_or {x y:Int} (h:bOr k x y=z):binOp .or t (.int k x) (.int k y)=Sem.pure (.int k z):=by
  subst h;simp [binOp,Op.intBits,bOr];rfl
theorem op_clr {x y:Int} (h:bClr k x y=z):binOp .andNot t (.int k x) (.int k y)=Sem.pure (.int k z):=by
  subst h;simp [binOp,Op.intBits,bClr];rfl
theorem op_add {x y:Int} (h:k.wrap (x+y)=z):binOp .add t (.int k x) (.int k y)=Sem.pure (.int k z):=by
  subst h;simp [binOp,Op.intArith];rfl
theorem op_sub {x y:Int} (h:k.wrap (x-y)=z):binOp .sub t (.int k x) (.int k y)=Sem.pure (.int k z):=by
  subst h;simp [binOp,Op.intArith];rfl
theorem jho {x y:Int} {c:Bool} (h:decide (x=y)=c):binOp .eql t (.int k x) (.int k y)=Sem.pure (.bool c):=by
  subst h;simp [binOp,Op.intCmp];rfl
theorem jqN {x y:Int} {c:Bool} (h:decide (x≠y)=c):binOp .neq t (.int k x) (.int k y)=Sem.pure (.bool c):=by
  subst h;simp [binOp,Op.intCmp];rfl
theorem jn8 {x y:Int} {c:Bool} (h:decide (x<y)=c):binOp .lss t (.int k x) (.int k y)=Sem.pure (.bool c):=by
  subst h;simp [binOp,Op.intCmp];rfl
theorem jlX {x y:Int} {c:Bool} (h:decide (x>y)=c):binOp .gtr t (.int k x) (.int k y)=Sem.pure (.bool c):=by
  subst h;simp [binOp,Op.intCmp];rfl
theorem jn7 {x y:Int} (hy:0≤y) (h:x.fdiv (2^(min y.toNat k.bits))=z):Op.shift .shr k x k2 y=Sem.pure (.int k z):=by
  subst h;unfold Op.shift;rw [if_neg zO];rfl
theorem op_shl {x y:Int} (hy:0≤y) (h:k.wrap (x*2^(min y.toNat k.bits))=z):Op.shift .shl k x k2 y=Sem.pure (.int k z):=by
  subst h;unfold Op.shift;rw [if_neg zO];rfl
def wgN (v wt:Nat):Int:=((v*4294967296+wt:Nat):Int)
def chkG (v wt:Nat):Bool:=
  bAnd .u64 (wgN v wt) 2147483648==0&&(wgN v wt).fdiv (2^32)==v&&IntKind.i32.wrap v==v&&bAnd .u64 (wgN v wt) 2147483647==wt&&IntKind.u32.wrap wt==wt&&IntKind.u64.wrap (wgN v wt+4294967296)==wgN (v+1) wt&&
  (v==0||IntKind.u64.wrap (wgN v wt+18446744069414584320)==wgN (v-1) wt)&&IntKind.u64.wrap (wgN v wt+1)==wgN v (wt+1)
structure WgB (v wt:Nat):Prop where
  flag:bAnd .u64 (wgN v wt) 2147483648=0
  hi:(wgN v wt).fdiv (2^32)=v
  hi32:IntKind.i32.wrap v=v
  lo:bAnd .u64 (wgN v wt) 2147483647=wt
  lo32:IntKind.u32.wrap wt=wt
  inc:IntKind.u64.wrap (wgN v wt+4294967296)=wgN (v+1) wt
  dec:v≠0→IntKind.u64.wrap (wgN v wt+18446744069414584320)=wgN (v-1) wt
  wait:IntKind.u64.wrap (wgN v wt+1)=wgN v (wt+1)
section
variable {P:Program}
theorem jjg {m:Md P B} {S:Hp} {ops:Array Oper} (hn: ∀(x:Nat) (o:Oper),ops[x]?=some o→ ∀c:Call,o.op≠ .defer c) {b:Frame} {ds:List Deferred} {k:List Item} {cs:List Frame} {K:Goroutine→Hp→Prop} (s:List Nat): ∀(r:List (Nat×Kd)) (l:List Value) (h:Hp),(∀x∈r,x.2= .free)→
    RegK m S ops r l h (fun l' h'=>m.R K (Gr b l' ds (.inRegion ops s::k) cs) h')→m.R K (Gr b l ds (.inRegion ops (r.map (·.1)++s)::k) cs) h
  |[],l,h,_,t=>t
  |(i,kd)::r,l,h,hr,⟨o,ho,t⟩=>by
    have hk:kd= .free:=hr _ gl
    subst hk
    refine jiy ho (hn _ _ ho) (fun e=>by rcases e with e|e<;>cases e) (jdn (fun l' h' t' _=>jjg hn s r l' h' (fun x hx=>hr x (gO _ hx)) t') t)
theorem jfj {o:Oper} {k:List Item} (ho:ops[i]?=some o) (hw:Region.wanted o (yielded ops l.toArray)=true)
    (hd: ∀c,o.op≠ .defer c) (main:Bool) (w:World):stepG P main (Gr b l ds (.inRegion ops (i::rest)::k) cs) w=stepG.apply P true (Fr b l ds (.inRegion ops (i::rest)::k)) cs none (execOp (ev l) o) w:=by
  have he:=Fr.eval b l ds (.inRegion ops (i::rest)::k)
  simp only [Fr] at he
  cases hr:b.roundOf with
  |none=>
    rw [hr] at he
    simp [Gr,G,stepG,stepG.exec,stepG.oper,Frame.oper?,Fr,ho,hw,hr,he]
  |some x=>
    rw [hr] at he
    simp [Gr,G,stepG,stepG.exec,stepG.oper,Frame.oper?,Fr,ho,hw,hr]
    split
    · rename_i c _ hop
      exact absurd hop (hd c)
    · rw [he]
def Mute (P:Program) {α:Type} (s:Sem α) (a:α):Prop:= ∀w,s.run P w= .ok a w∧s.events P w #[]= #[]
theorem Mute.pure {α:Type} (a:α):Mute P (Pure.pure a:Sem α) a:=fun w=>⟨rfl,by simp⟩
theorem joT {o:Oper} {k:List Item} (ho:ops[i]?=some o) (hw:Region.wanted o (yielded ops l.toArray)=true)
    (hd: ∀c,o.op≠ .defer c) {cases:Array CommCase} {bl:Bool} {shape:CommShape} (hx:Mute P (execOp (ev l) o) (.comm cases bl shape)) (main:Bool) (w:World):
    stepG P main (Gr b l ds (.inRegion ops (i::rest)::k) cs) w= .comm (Gr b l ds (.inRegion ops (i::rest)::k) cs) cases bl shape w #[]:=by
  rw [jfj ho hw hd];obtain ⟨e2,e3⟩:=hx w
  simp [stepG.apply,e2,e3,GStep.after,Gr,G,seen]
theorem jim {o:Oper} {k:List Item} (ho:ops[i]?=some o) (v:Value):
    Conc.served (Gr b l ds (.inRegion ops (i::rest)::k) cs) v=Gr b (put l o.dst v) ds (.inRegion ops rest::k) cs:=by
  have:=Fr.finish b l ds ops i rest k v ho
  unfold Gr G Conc.served
  simp only
  rw [this]
section
variable {s s':Nat} {i r:Nat} {k:List Item} {c x:Operand} {v:Value} {hr hp:Hp}
end
def kidF (P:Program):Frame:={(default:Frame) with fn:=P.funcs.size,defers:=[],mode:= .panicking [goexitEntry]}
def kid0 (P:Program) (d:Deferred):Goroutine:={frame:={(default:Frame) with fn:=P.funcs.size,defers:=[d],mode:= .panicking [goexitEntry]},callers:=[],status:= .running,dying:=none}
theorem jmQ {k:List Item} {x:Operand} {cap:Array Value}
    (ho:ops[i]?=some ⟨d,.go ⟨.value x,#[],ats⟩,ty,pos,af,none⟩) [ex:OpV l x (.func (.func f) first cap)] (w:World):
    stepG P true (Gr b l ds (.inRegion ops (i::rest)::k) cs) w= .spawn (Gr b (put l d undef) ds (.inRegion ops rest::k) cs) (kid0 P {target:= .fn (.func f) cap,args:=first++ #[]}) w #[]:=by
  rw [jfj ho rfl (fun c=>by simp)];have hm:execOp (ev l) ⟨d,.go ⟨.value x,#[],ats⟩,ty,pos,af,none⟩=(do pure (.spawn (←Deferred.ofValue (.func (.func f) first cap) #[])):Sem Next):=by
    simp [execOp,resolve,ex.eq]
  have hfin:=Fr.finish b l ds ops i rest k undef ho
  rw [hm];simp only [Deferred.ofValue,pure_bind]
  unfold Gr
  rw [←hfin];simp [stepG.apply,GStep.after,seen,kid0,G,Fr]
end
theorem jhi {P:Program} {k:List Item} {x:Operand} {cap:Array Value}
    (ho:ops[i]?=some ⟨none,.go ⟨.value x,#[],ats⟩,ty,pos,af,none⟩) [ex:OpV l x (.func (.func f) first cap)] (w:World):
    stepG P true (Gr b l ds (.inRegion ops (i::rest)::k) cs) w= .spawn (Gr b l ds (.inRegion ops rest::k) cs) (kid0 P {target:= .fn (.func f) cap,args:=first++ #[]}) w #[]:=jmQ ho w
section
variable {P:Program} {m:Md P B} {k:List Item} {K:Goroutine→Hp→Prop}
def nodef (ops:Array Oper):Bool:=ops.all fun o=>match o.op with| .defer _=>false|_=>true
theorem jjU (h:nodef ops=true): ∀(x:Nat) (o:Oper),ops[x]?=some o→ ∀c:Call,o.op≠ .defer c:=fun x o ho c e=>by
  unfold nodef at h
  rw [Gl] at h
  have:=h o (vx ho)
  rw [e] at this
  cases this
theorem jio {id:Nat} (r:List (Nat×Kd)) (s:List Nat) (hn:(nodef ops&&r.all fun x=>x.2== .free)=true) (hr:r.map (·.1)++s=List.range ops.size)
    (t:RegK m [] ops r l h fun l' h'=>m.R K (Gr b l' ds (.inRegion ops s::k) cs) h'):m.R K (Gr b l ds (.code (.region id ops false)::k) cs) h:=by
  simp only [gL,gZ,beq_iff_eq] at hn
  exact jeV (hr▸jjg (jjU hn.1) s r l h hn.2 t)
theorem jlI (r:List (Nat×Kd)) (hn:(nodef ops&&r.all fun x=>x.2== .free)=true) {q:List Nat} (hr:r.map (·.1)=q)
    (t:RegK m [] ops r l h fun l' h'=>m.R K (Gr b l' ds k cs) h'):m.R K (Gr b l ds (.inRegion ops q::k) cs) h:=by
  simp only [gL,gZ,beq_iff_eq] at hn
  have:=jjg (m:=m) (b:=b) (ds:=ds) (k:=k) (cs:=cs) (K:=K) (jjU hn.1) [] r l h hn.2 (RegK.mono (fun l' h' x=>jbB x) t)
  rw [ge,hr] at this
  exact this
end
def ro (h:Hp):Hp:=h.map fun c=>{c with rw:=false}
theorem jiq {c:Chunk} (hc:c∈ro h):c.rw=false∧ ∃d∈h,d.b=c.b∧d.o=c.o:=by
  obtain ⟨d,hd,rfl⟩:=gR.1 hc
  exact ⟨rfl,d,hd,rfl,rfl⟩
theorem jpQ (h X:Hp):Weak B (h++X) (ro h++X):=by
  refine ⟨fun w s=>⟨s.base,fun c hc=>?_,?_⟩,fun c hc=>?_⟩
  · rcases gQ.1 hc with hc|hc
    · obtain ⟨_,d,hd,e1,e2⟩:=jiq hc
      have:=s.mem d (GT _ hd)
      rw [e1,e2] at this;exact this
    · exact s.mem c (GH _ hc)
  · have hp:=gy.1 s.apart
    refine gy.2 ⟨?_,hp.2.1,fun c hc d hd hr=>?_⟩
    · unfold ro
      rw [Gi];exact hp.1.imp fun _ x=>by simp at x
    · obtain ⟨h1,c',hc',e1,_⟩:=jiq hc
      rw [←e1];exact hp.2.2 c' hc' d hd (.inr (hr.resolve_left (by rw [h1];simp)))
  · rcases gQ.1 hc with hc|hc
    · obtain ⟨h1,d,hd,e1,_⟩:=jiq hc
      exact ⟨d,GT _ hd,e1,fun x=>by rw [h1] at x;cases x⟩
    · exact ⟨c,GH _ hc,rfl,id⟩
theorem Rd.ro {a:Addr} {v:Value} (r:Rd B h a v):Rd B (Lo.ro h) a v:=by
  obtain ⟨s,r|⟨x,hx,c,t,f,e,e',hv⟩⟩:=r
  · exact ⟨s,.inl r⟩
  · exact ⟨s,.inr ⟨{x with rw:=false},gR.2 ⟨x,hx,rfl⟩,c,t,f,e,e',hv⟩⟩
theorem RdS.ro {k:Nat} {v:Value} (r:RdS B h k v n ys):RdS B (Lo.ro h) k v n ys:=by
  obtain ⟨p,c,e,hl,r|⟨b,o,e',rd⟩⟩:=r
  · exact ⟨p,c,e,hl,.inl r⟩
  · exact ⟨p,c,e,hl,.inr ⟨b,o,e',fun j hj=>(rd j hj).ro⟩⟩
section
variable {P:Program} {m:Md P B} {g:Option (Nat×Bool)}
def chanB (P:Program) (t:TypeId):Bool:=match P.underlying t with|some (.chan _ e)=>(P.info? e).isSome|_=>false
theorem k_mkchan {x:Operand} (hk:kd= .free∨(kd= .keep∧S.Sublist h)) (ho:ops[i]?=some ⟨d,.makeChan t x,ty,pos,af,g⟩) (hw:Wt ops l g) (hcb:chanB P t=true) [ex:OpV l x (.int .i64 0)]
    (n: ∀q,RegK m S ops r (put l d (.chan (some q))) (h++[⟨true,q,.chan 0 #[] false 0 0 false⟩]) C):RegK m S ops ((i,kd)::r) l h C:=by
  obtain ⟨dir,e,inf,ht,hi⟩: ∃dir e inf,P.underlying t=some (.chan dir e)∧P.info? e=some inf:=by
    unfold chanB at hcb
    split at hcb
    · rename_i dir e he
      obtain ⟨inf,hi⟩:=Vl.1 hcb
      exact ⟨dir,e,inf,he,hi⟩
    · cases hcb
  refine RegK.ke (hk.symm.imp (·.1) id) ho hw ?_
  simp only [execOp,ex.eq]
  refine Tri.bind ?_
  unfold Instr.makeChan
  refine Tri.bind (Tri.pure (a:=(0:Int)) ?_)
  refine Tri.bind ((jak ht).reads.tri ?_)
  dsimp only
  refine Tri.bind (Reads.tri (a:=inf) (Reads.bind Reads.program' (by simp only [hi];exact Reads.pure _)) ?_)
  rw [if_neg (by simp [IntKind.max,IntKind.bits,IntKind.signed])];exact Tri.bind (jkj fun q _ _=>Tri.pure (Tri.pure ⟨hk.imp (fun e=>e) fun x=>x.2.trans (gG _ _),n q⟩))
theorem Mute.bind {α β:Type} {s:Sem α} {f:α→Sem β} {a:α} {b:β} (h1:Mute P s a) (h2:Mute P (f a) b):Mute P (s>>=f) b:=fun w=>by
  obtain ⟨r,e⟩:=h1 w
  obtain ⟨r',e'⟩:=h2 w
  refine ⟨by rw [Sem.run_bind,r];exact r',?_⟩
  rw [Sem.events_bind,r];simp only [Result.evThen_ok,e]
  exact e'
theorem Mute.program:Mute P Go.program P:=fun w=>⟨by simp [Go.program,Sem.run],by simp⟩
theorem Mute.zero {v:Value} [z:ZeroT P t v]:Mute P (zeroValue t) v:=by
  have:=z.eq
  cases e:P.info? t with
  |none=>rw [e] at this;cases this
  |some i=>
    rw [e] at this
    simp only [VV] at this
    unfold zeroValue typeInfo
    refine Mute.bind (a:=i) (Mute.bind Mute.program ?_) ?_
    · simp only [e];exact Mute.pure _
    · simp only [this];exact Mute.pure _
end
end Go.Lo
namespace Go.Lo
open Go.Conc (G)
section
variable {P:Program} {m:Md P B} {g:Option (Nat×Bool)}
theorem k_shl {x:Operand} {b:Int} (v:Int) (ho:ops[i]?=some ⟨d,.binOp .shl t x y u,ty,pos,af,g⟩) (hw:Wt ops l g) [KHeap kd S h H] [ex:OpV l x (.int k a)] [ey:OpV l y (.int k' b)] (h0:0≤b) (hv:k.wrap (a*2^(min b.toNat k.bits))=v) [PutV l d (.int k v) l'] (q:RegK m S ops r l' h C):RegK m S ops ((i,kd)::r) l h C:=
  RegK.rd (v:= .int k v) ho hw (by
    simp only [execOp,ex.eq,ey.eq]
    refine Reads.value (Reads.bind (a:=()) (Reads.pure _) ?_)
    show Reads P B (Op.shift .shl k a k' b) H _
    unfold Op.shift
    rw [if_neg zO,←hv];exact Reads.pure _) q
theorem ap_last {hc:Hp} {o:Obj} {w:World} (s:Sat B (F++[⟨true,q,o⟩]) w) (hF: ∀c∈F,c.rw=false) (hd: ∀d∈hc,d.rw=true→d.b=q):ApH F hc:=fun c hc' d hd' hr=>by
  have h1:=hF c hc'
  have h2:d.rw=true:=hr.resolve_left (by rw [h1];simp)
  rw [hd d hd' h2];exact (gy.1 s.apart).2.2 c hc' _ (gw.2 rfl) (.inr rfl)
end
theorem jas {t k:Nat} {v:Value} {cs:List Value} {new:Hp} (o:OwnS t k v n cs new): ∃p c,v= .slice p n c∧n≤c∧RdS B new k (.slice p n c) n cs:=by
  obtain ⟨p,c,rfl,_⟩:=o.len
  exact ⟨p,c,rfl,o.cap,o.rd (gE _)⟩
section
variable {P:Program}
theorem jqx (dd:Nat) (hb:P.underlying t=some .bool) (a c:Bool):Reads P B (Op.equalIn (dd+1) t (.bool a) (.bool c)) h (a==c):=by
  unfold Op.equalIn
  refine Reads.bind (jak hb).reads ?_
  exact Reads.pure _
end
section
variable {P:Program}
end
end Go.Lo
namespace Go.Proofs
open Go.Lo
open Go.Conc (G)
section
variable {P:Program} {m:Md P B} {g:Option (Nat×Bool)}
theorem jeI {x:Operand} {b:Int} (ho:ops[i]?=some ⟨d,.binOp .eql t x y u,ty,pos,af,g⟩) (hw:Wt ops l g) [kh:KHeap kd S h H] [ex:OpV l x (.int k a)] [ey:OpV l y (.int k b)] (e:a=b) [pt:PutV l d (.bool true) l'] (q:RegK m S ops r l' h C):RegK m S ops ((i,kd)::r) l h C:=by
  have pq:=pt;rw [←decide_eq_true e] at pq;exact k_eql (l':=l') ho hw q
theorem jmb {x:Operand} {b:Int} (ho:ops[i]?=some ⟨d,.binOp .eql t x y u,ty,pos,af,g⟩) (hw:Wt ops l g) [kh:KHeap kd S h H] [ex:OpV l x (.int k a)] [ey:OpV l y (.int k b)] (e:a≠b) [pt:PutV l d (.bool false) l'] (q:RegK m S ops r l' h C):RegK m S ops ((i,kd)::r) l h C:=by
  have pq:=pt;rw [←decide_eq_false e] at pq;exact k_eql (l':=l') ho hw q
theorem jeH {x:Operand} {b:Int} (ho:ops[i]?=some ⟨d,.binOp .neq t x y u,ty,pos,af,g⟩) (hw:Wt ops l g) [kh:KHeap kd S h H] [ex:OpV l x (.int k a)] [ey:OpV l y (.int k b)] (e:a=b) [pt:PutV l d (.bool false) l'] (q:RegK m S ops r l' h C):RegK m S ops ((i,kd)::r) l h C:=by
  have pq:=pt;rw [←decide_eq_false (fun h:a≠b=>h e)] at pq;exact k_neq (l':=l') ho hw q
theorem k_gtrF {x:Operand} {b:Int} (ho:ops[i]?=some ⟨d,.binOp .gtr t x y u,ty,pos,af,g⟩) (hw:Wt ops l g) [kh:KHeap kd S h H] [ex:OpV l x (.int k a)] [ey:OpV l y (.int k b)] (e: ¬b<a) [pt:PutV l d (.bool false) l'] (q:RegK m S ops r l' h C):RegK m S ops ((i,kd)::r) l h C:=by
  have pq:=pt;rw [←decide_eq_false e] at pq;exact k_gtr (l':=l') ho hw q
theorem jrc {x:Operand} {b:Int} (ho:ops[i]?=some ⟨d,.binOp .lss t x y u,ty,pos,af,g⟩) (hw:Wt ops l g) [kh:KHeap kd S h H] [ex:OpV l x (.int k a)] [ey:OpV l y (.int k b)] (e: ¬a<b) [pt:PutV l d (.bool false) l'] (q:RegK m S ops r l' h C):RegK m S ops ((i,kd)::r) l h C:=by
  have pq:=pt;rw [←decide_eq_false e] at pq;exact k_lss (l':=l') ho hw q
theorem k_leqT {x:Operand} {b:Int} (ho:ops[i]?=some ⟨d,.binOp .leq t x y u,ty,pos,af,g⟩) (hw:Wt ops l g) [kh:KHeap kd S h H] [ex:OpV l x (.int k a)] [ey:OpV l y (.int k b)] (e:a≤b) [pt:PutV l d (.bool true) l'] (q:RegK m S ops r l' h C):RegK m S ops ((i,kd)::r) l h C:=by
  have pq:=pt;rw [←decide_eq_true e] at pq;exact k_leq (l':=l') ho hw q
theorem k_gtrT {x:Operand} {b:Int} (ho:ops[i]?=some ⟨d,.binOp .gtr t x y u,ty,pos,af,g⟩) (hw:Wt ops l g) [kh:KHeap kd S h H] [ex:OpV l x (.int k a)] [ey:OpV l y (.int k b)] (e:b<a) [pt:PutV l d (.bool true) l'] (q:RegK m S ops r l' h C):RegK m S ops ((i,kd)::r) l h C:=by
  have pq:=pt;rw [←decide_eq_true e] at pq;exact k_gtr (l':=l') ho hw q
theorem jl8 {x:Operand} {b:Int} (ho:ops[i]?=some ⟨d,.binOp .lss t x y u,ty,pos,af,g⟩) (hw:Wt ops l g) [kh:KHeap kd S h H] [ex:OpV l x (.int k a)] [ey:OpV l y (.int k b)] (e:a<b) [pt:PutV l d (.bool true) l'] (q:RegK m S ops r l' h C):RegK m S ops ((i,kd)::r) l h C:=by
  have pq:=pt;rw [←decide_eq_true e] at pq;exact k_lss (l':=l') ho hw q
theorem k_geqF {x:Operand} {b:Int} (ho:ops[i]?=some ⟨d,.binOp .geq t x y u,ty,pos,af,g⟩) (hw:Wt ops l g) [kh:KHeap kd S h H] [ex:OpV l x (.int k a)] [ey:OpV l y (.int k b)] (e: ¬b≤a) [pt:PutV l d (.bool false) l'] (q:RegK m S ops r l' h C):RegK m S ops ((i,kd)::r) l h C:=by
  have pq:=pt;rw [←decide_eq_false e] at pq;exact k_geq (l':=l') ho hw q
theorem jeo (hb:P.underlying t=some .bool) (a c:Bool):Reads P B (Op.equal t (.bool a) (.bool c)) H (a==c):=by
  show Reads P B (Op.equalIn 10000 t (.bool a) (.bool c)) H (a==c)
  unfold Op.equalIn
  exact Reads.bind (jak hb).reads (Reads.pure _)
theorem k_eqBT {x:Operand} {a c:Bool} (ho:ops[i]?=some ⟨d,.binOp .eql t x y u,ty,pos,af,g⟩) (hw:Wt ops l g) (hb:P.underlying t=some .bool) [KHeap kd S h H] [ex:OpV l x (.bool a)] [ey:OpV l y (.bool c)] (e:a=c) [PutV l d (.bool true) l'] (q:RegK m S ops r l' h C):RegK m S ops ((i,kd)::r) l h C:=
  RegK.rd (v:= .bool true) ho hw (by
    subst e
    simp only [execOp,ex.eq,ey.eq]
    refine Reads.value (Reads.bind (a:=()) (Reads.pure _) ?_)
    show Reads P B (Op.equal t (.bool a) (.bool a)>>=fun b=>pure (Value.bool b)) H _
    have:=jeo (P:=P) (B:=B) (H:=H) hb a a
    rw [beq_self_eq_true] at this
    exact Reads.bind this (Reads.pure _)) q
theorem k_rem {x:Operand} {a b:Nat} (ho:ops[i]?=some ⟨d,.binOp .rem t x y u,ty,pos,af,g⟩) (hw:Wt ops l g) [KHeap kd S h H] [ex:OpV l x (.int .i64 (a:Int))] [ey:OpV l y (.int .i64 (b:Int))] (hb:0<b) [PutV l d (.int .i64 ((a%b:Nat):Int)) l'] (q:RegK m S ops r l' h C):RegK m S ops ((i,kd)::r) l h C:=
  RegK.rd (v:= .int .i64 ((a%b:Nat):Int)) ho hw (jbc ex.eq ey.eq zS (by
    have:(b:Int)≠0:=by omega
    simp only [binOp,Op.intDiv,if_neg this,Int.ofNat_tmod]
    rfl)) q
end
theorem isB_true {p:Prop} {v:Value} (h:IsB p v) (k:p):v= .bool true:=h.elim (fun x=>x.2) fun x=>absurd k x.1
end Go.Proofs
namespace Go.Lo
open Go.Conc
section
variable {P:Program} {m:Md P B} {g:Option (Nat×Bool)}
theorem k_bldA {t e k:Nat} {ps:List (Nat×Operand)} {parts:List (Nat×Value)} {zs cs:List Value} (ho:ops[i]?=some ⟨d,.build t ps.toArray,ty,pos,af,g⟩) (hw:Wt ops l g) [KHeap kd S h H] [a:PartsV l ps parts] [ArrayT P t n e k] [ZeroT P t (.agg zs.toArray)] [f:PartsL k 0 parts cs] (hl:zs.length=parts.length*k) [PutV l d (.agg cs.toArray) l']
    (q:RegK m S ops r l' h C):RegK m S ops ((i,kd)::r) l h C:=
  RegK.rd (v:= .agg cs.toArray) ho hw (by
    obtain ⟨hu,hs⟩:=jef (P:=P) (B:=B) (h:=H) (t:=t)
    simp only [execOp]
    have e:(Array.map (fun x:Nat×Operand=>(x.1,ev l x.2)) ps.toArray)=parts.toArray:=by rw [Gv,←a.eq]
    show Reads P B (Instr.build t (Array.map (fun x:Nat×Operand=>(x.1,ev l x.2)) ps.toArray)>>=fun v=>Pure.pure (Next.value v)) H _
    rw [e];refine Reads.value ?_
    unfold Instr.build
    refine Reads.bind (reads_zero (v:= .agg zs.toArray)) ?_
    refine Reads.bind (jak hu).reads ?_
    refine Reads.bind hs ?_
    have:=f.eq [] zs zS hl
    simp only [GJ] at this
    simp only [Value.cells,this]
    exact Reads.pure _) q
end
end Go.Lo
namespace Go.Lo
def mosts:List Int:=[9,11,7]
def jdE (n:Nat):List Int:=[((n/96:Nat):Int),((n/8%12:Nat):Int),((n%8:Nat):Int)]
def jan (s:Str):List Int:=(rdF mosts s [0,0,0] 0 0).1
def ja2 (s:Str):Bool:=(rdF mosts s [0,0,0] 0 0).2
def jfZ (p:List Int) (n:Nat):Bool:=(List.range 3).all fun i=>decide (p.getD i 0<0)||decide (p.getD i 0=(jdE n).getD i 0)
def jjV (p:List Int):List Int:=((List.range 960).filter (jfZ p)).map fun (n:Nat)=>(n:Int)
def jdN (s:Str):List Int:=if ja2 s then jjV (jan s) else []
def jdZ:Str:=[45]
def jaO (b:Tb) (bt:Bool):List Ln:=if bt then b.butts else b.waters
def jbg (b:Tb) (c:Ce):Ln:=(jaO b c.butt).getD c.line.toNat default
def jcn (b:Tb) (c:Ce):Bool:=decide (0≤c.line)&&decide (c.line<(jaO b c.butt).length)&&decide (0≤c.st)&&decide (c.st<b.sts.length)
def jbU (b:Tb) (c:Ce):Str:=(jbg b c).figs.getD c.st.toNat []
def rowT (b:Tb) (bt:Bool) (i:Nat):List Ce:=((List.range b.sts.length).map fun (j:Nat)=>(⟨bt,(i:Int),(j:Int)⟩:Ce)).filter fun c=>jcn b c&&decide (jbU b c≠jdZ)
def jaa (b:Tb):List Ce:=rowT b false 0++rowT b false 1++(rowT b true 0++rowT b true 1)
def jlL (la lc ma mc:Int):Bool:=decide (la=lc)||(decide (ma≤mc)==decide (la<lc))||decide (ma=mc)
def jjN (la lc ma mc:Int):Bool:=if mc<la then decide (ma≥lc) else decide (mc=la)||decide (ma≤lc)
def jaw (b:Tb) (a c:Ce) (ma mc:Int):Bool:=
  if a.st≠c.st then true
  else if a.butt=c.butt then jlL (jbg b a).lat (jbg b c).lat ma mc
  else if a.butt then jjN (jbg b c).lat (jbg b a).lat mc ma
  else jjN (jbg b a).lat (jbg b c).lat ma mc
def jd8 (b:Tb) (cs:List Ce) (wr:List Int) (ms:List Int) (v:Int):Bool:=
  (List.range ms.length).all fun i=>decide ((ms.length:Int)∈wr)||decide ((i:Int)∈wr)||jaw b (cs.getD i default) (cs.getD ms.length default) (ms.getD i 0) v
def jb5 (b:Tb) (cs:List Ce) (wr:List Int) (k:Nat):List Int:=if (k:Int)∈wr then [0] else jdN (jbU b (cs.getD k default))
def jdO (b:Tb) (cs:List Ce) (wr:List Int):Nat→List Int→List (List Int)
  |0,ms=>[ms]
  |k+1,ms=>((jb5 b cs wr ms.length).filter (jd8 b cs wr ms)).flatMap fun v=>jdO b cs wr k (ms++[v])
def jbL (b:Tb) (wr:List Int):List (List Int):=jdO b (jaa b) wr (jaa b).length []
end Go.Lo
namespace Go.Lo
open Go.Conc
section
variable {P:Program} {m:Md P B} {g:Option (Nat×Bool)}
theorem k_subW {x:Operand} {b:Int} (ho:ops[i]?=some ⟨d,.binOp .sub t x y u,ty,pos,af,g⟩) (hw:Wt ops l g) [KHeap kd S h H] [ex:OpV l x (.int k a)] [ey:OpV l y (.int k b)] (hr:k.wrap (a-b)=z) [PutV l d (.int k z) l']
    (n:RegK m S ops r l' h C):RegK m S ops ((i,kd)::r) l h C:=
  RegK.rd (v:= .int k z) ho hw (jbc ex.eq ey.eq zS (by simp [binOp,Op.intArith,hr];rfl)) n
theorem jon {v:List Int} {k:Nat} (hl:k<v.length):(jav v)[k]?=some (.int .i64 (v.getD k 0)):=by
  rw [gX,gD hl,gC,gD hl];rfl
theorem ints_set {v:List Int} {k:Nat} {x:Int}:(jav v).set k (.int .i64 x)=jav (v.set k x):=by
  exact (vf ..).symm
theorem jrd {b:Nat} {x:Operand} {v:List Int} {rw:Bool} {f:Nat×Nat} (ho:ops[i]?=some ⟨d,.load t x,ty,pos,af,g⟩) (hw:Wt ops l g) [KHeap kd S h H] [e:OpV l x (.pointer (some ⟨b,o,none⟩))] [Scal P t]
    [q:Has H b rw (.cells (jav v).toArray t' f)] (k:Nat) (hk:o=k) (hl:k<v.length) [PutV l d (.int .i64 (v.getD k 0)) l'] (n:RegK m S ops r l' h C):RegK m S ops ((i,kd)::r) l h C:=
  jaN (a:=⟨b,o,none⟩) ho hw (Rd.held q.mem (by rw [hk,gd];exact jon hl)) n
theorem jqj {cs:List Value} {k:Nat} {u:Value} (h:k<cs.length):cs.take k++[u]++cs.drop (k+1)=cs.set k u:=by
  rw [Gj,if_pos h];simp
theorem k_stI {b:Nat} {x:Operand} {v:List Int} {rw:Bool} (ho:ops[i]?=some ⟨none,.store t x y,ty,pos,af,g⟩) (hw:Wt ops l g) [KSub kd S h'] [ex:OpV l x (.pointer (some ⟨b,o,none⟩))] [ey:OpV l y (.int .i64 z)] [Scal P t]
    [q:Has h b rw (.cells (jav v).toArray t' (0,0))] (k:Nat) (hk:o=k) (hl:k<v.length) [p:Upd h b (.cells (jav (v.set k z)).toArray t' (0,0)) h'] (n:RegK m S ops r l h' C):RegK m S ops ((i,kd)::r) l h C:=by
  haveI:SetSeg (jav v) o [.int .i64 z] (jav (v.set k z)):=⟨by
    subst hk
    refine ⟨?_,by simp;omega⟩
    rw [←ints_set];exact (jqj (by simpa using hl)).symm⟩
  exact k_st1 ho hw n
theorem seg_all {cs:List Value} (h:cs.length=n):Seg cs 0 n cs:=⟨by subst h;simp⟩
theorem jdk {b k:Nat} {x:Operand} {v:List Int} {rw:Bool} {f:Nat×Nat} (ho:ops[i]?=some ⟨d,.load t x,ty,pos,af,g⟩) (hw:Wt ops l g) [KHeap kd S h H] [e:OpV l x (.pointer (some ⟨b,0,none⟩))] [AggT P t k]
    [q:Has H b rw (.cells (jav v).toArray t' f)] (hl:v.length=k) [PutV l d (.agg (jav v).toArray) l'] (n:RegK m S ops r l' h C):RegK m S ops ((i,kd)::r) l h C:=by
  haveI:Seg (jav v) 0 k (jav v):=seg_all (by simpa using hl)
  exact jhI ho hw n
theorem jeG {b k:Nat} {x:Operand} {cs:List Value} {w:List Int} {rw:Bool} (ho:ops[i]?=some ⟨none,.store t x y,ty,pos,af,g⟩) (hw:Wt ops l g) [KSub kd S h'] [ex:OpV l x (.pointer (some ⟨b,0,none⟩))] [ey:OpV l y (.agg (jav w).toArray)] [AggT P t k]
    [q:Has h b rw (.cells cs.toArray t' (0,0))] (hl:w.length=k) (hv:cs.length=w.length) [p:Upd h b (.cells (jav w).toArray t' (0,0)) h'] (n:RegK m S ops r l h' C):RegK m S ops ((i,kd)::r) l h C:=by
  haveI:SetSeg cs 0 (jav w) (jav w):=⟨by simp [hv,gP],by simp [hv]⟩
  exact jl5 ho hw (by simpa using hl) n
theorem k_snext2 {p:Nat} {x:Operand} {rw:Bool} {h':Nat→Hp} (ho:ops[i]?=some ⟨d,.next x true,ty,pos,af,g⟩) (hw:Wt ops l g) [ex:OpV l x (.pointer (some ⟨q,0,none⟩))] [hq:Has h q rw (sitO s p)] [u: ∀p,Upd h q (sitO s p) (h' p)]
    (done:s.length≤p→RegK m S ops r (put l d (.tuple [.bool false].toArray)) h C)
    (more: ∀(c:UInt8) (ru p':Nat),s[p]?=some c→(c.toNat<128∧ru=c.toNat∧p'=p+1)∨(128≤c.toNat∧128≤ru∧ru<4194304∧p<p')→RegK m S ops r (put l d (.tuple [.bool true,.int .i64 p,.int .i32 ru].toArray)) (h' p') C):
    RegK m S ops ((i,.free)::r) l h C:=
  k_snext ho hw done (fun c hc h1=>more c c.toNat (p+1) hc (.inl ⟨h1,rfl,rfl⟩)) fun c u w hc h1 h2 h3 h4=>more c u (p+w) hc (.inr ⟨h1,h2,h3,by omega⟩)
theorem jo4 (dd:Nat) [ArrayT P t 3 e 1] [Scal P e] (he:P.underlying e=some (.int .i64)) (a b c a' b' c':Int):Reads P B (Op.equalIn (dd+2) t (.agg [.int .i64 a,.int .i64 b,.int .i64 c].toArray) (.agg [.int .i64 a',.int .i64 b',.int .i64 c'].toArray)) h (a==a'&&(b==b'&&c==c')):=by
  obtain ⟨hu,hs⟩:=jef (P:=P) (B:=B) (h:=h) (t:=t)
  unfold Op.equalIn
  refine Reads.bind (jak hu).reads ?_
  dsimp only
  refine Reads.bind hs ?_
  rw [Std.Legacy.Range.forIn_eq_forIn_range'];simp only [Std.Legacy.Range.size]
  simp only [List.range',xO,xe,bind_assoc]
  refine Reads.bind (jaQ (v:= .int .i64 a) rfl) (Reads.bind (jaQ (v:= .int .i64 a') rfl) (Reads.bind (jdC dd he a a') ?_))
  cases h1:(a==a')
  · simp only [Gk,if_true,pure_bind,Vp];exact Reads.pure _
  · simp only [Gn,gz,if_false,pure_bind,vz,bind_assoc]
    refine Reads.bind (jaQ (v:= .int .i64 b) rfl) (Reads.bind (jaQ (v:= .int .i64 b') rfl) (Reads.bind (jdC dd he b b') ?_))
    cases h2:(b==b')
    · simp only [Gk,if_true,pure_bind,Vp];exact Reads.pure _
    · simp only [Gn,gz,if_false,pure_bind,vz,bind_assoc]
      refine Reads.bind (jaQ (v:= .int .i64 c) rfl) (Reads.bind (jaQ (v:= .int .i64 c') rfl) (Reads.bind (jdC dd he c c') ?_))
      cases h3:(c==c')
      · simp only [Gk,if_true,pure_bind];exact Reads.pure _
      · simp only [Gn,gz,if_false,pure_bind];exact Reads.pure _
theorem jjX {x:Operand} {ws:List Value} {e:Bool} (ho:ops[i]?=some ⟨d,.binOp .eql t x y u,ty,pos,af,g⟩) (hw:Wt ops l g) [KHeap kd S h H] [ex:OpV l x (.agg vs.toArray)] [ey:OpV l y (.agg ws.toArray)]
    (hg:P.eqGuardType P.depth t=false) (he:Reads P B (Op.equalIn 10000 t (.agg vs.toArray) (.agg ws.toArray)) H e) [PutV l d (.bool e) l'] (q:RegK m S ops r l' h C):RegK m S ops ((i,kd)::r) l h C:=
  RegK.rd (v:= .bool e) ho hw (by
    simp only [execOp,ex.eq,ey.eq]
    refine Reads.value (Reads.bind (a:=()) ?_ ?_)
    · unfold eqGuard
      refine Reads.bind Reads.program' (Reads.bind Reads.program' ?_)
      rw [if_pos (by simp [hg])];exact Reads.pure _
    · show Reads P B (Op.equal t (.agg vs.toArray) (.agg ws.toArray)>>=fun b=>pure (Value.bool b)) H _
      exact Reads.bind he (Reads.pure _)) q
theorem jnG {v:List Int} (h:v.length=3): ∃a b c,v=[a,b,c]:=by
  match v,h with
  |[a,b,c],_=>exact ⟨a,b,c,rfl⟩
theorem eqA3 [ArrayT P t 3 e 1] [Scal P e] (he:P.underlying e=some (.int .i64)) {v w:List Int} (hv:v.length=3) (hw:w.length=3):Reads P B (Op.equalIn 10000 t (.agg (jav v).toArray) (.agg (jav w).toArray)) H (decide (v=w)):=by
  obtain ⟨a,b,c,rfl⟩:=jnG hv
  obtain ⟨a',b',c',rfl⟩:=jnG hw
  have:=jo4 (P:=P) (B:=B) (h:=H) 9998 (t:=t) he a b c a' b' c'
  have e2:(a==a'&&(b==b'&&c==c'))=decide ([a,b,c]=[a',b',c']):=by
    rw [Vd];simp
  rw [e2] at this
  exact this
theorem k_eqlA3 {x:Operand} {v w:List Int} (ho:ops[i]?=some ⟨d,.binOp .eql t x y u,ty,pos,af,g⟩) (hw:Wt ops l g) [KHeap kd S h H] [ex:OpV l x (.agg (jav v).toArray)] [ey:OpV l y (.agg (jav w).toArray)] [ArrayT P t 3 e 1] [Scal P e]
    (hg:P.eqGuardType P.depth t=false) (he:P.underlying e=some (.int .i64)) (hv:v.length=3) (hv':w.length=3) [pt:PutV l d (.bool true) l'] [pf:PutV l d (.bool false) l''] (yes:v=w→RegK m S ops r l' h C) (no:v≠w→RegK m S ops r l'' h C):RegK m S ops ((i,kd)::r) l h C:=by
  have hr:=eqA3 (P:=P) (B:=B) (H:=H) (t:=t) he hv hv'
  by_cases e:v=w
  · rw [decide_eq_true e] at hr;exact jjX ho hw hg hr (yes e)
  · rw [decide_eq_false e] at hr;exact jjX ho hw hg hr (no e)
theorem k_neqA3 {x:Operand} {v w:List Int} (ho:ops[i]?=some ⟨d,.binOp .neq t x y u,ty,pos,af,g⟩) (hw:Wt ops l g) [KHeap kd S h H] [ex:OpV l x (.agg (jav v).toArray)] [ey:OpV l y (.agg (jav w).toArray)] [ArrayT P t 3 e 1] [Scal P e]
    (hg:P.eqGuardType P.depth t=false) (he:P.underlying e=some (.int .i64)) (hv:v.length=3) (hv':w.length=3) [pt:PutV l d (.bool true) l'] [pf:PutV l d (.bool false) l''] (yes:v≠w→RegK m S ops r l' h C) (no:v=w→RegK m S ops r l'' h C):RegK m S ops ((i,kd)::r) l h C:=by
  have hr:=eqA3 (P:=P) (B:=B) (H:=H) (t:=t) he hv hv'
  by_cases e:v=w
  · rw [decide_eq_true e] at hr
    haveI:PutV l d (.bool !true) l'':=pf
    exact jl7 ho hw hg hr (no e)
  · rw [decide_eq_false e] at hr
    haveI:PutV l d (.bool !false) l':=pt
    exact jl7 ho hw hg hr (yes e)
theorem jok {t e k:Nat} {cs:List Value} {j:Int} {x:Operand} (ho:ops[i]?=some ⟨d,.index t x y,ty,pos,af,g⟩) (hw:Wt ops l g) [KHeap kd S h H] [ex:OpV l x (.agg cs.toArray)] [ey:OpV l y (.int ik j)] [ArrayT P t n e k] [AggT P e k] (h0:0≤j) (h1:j<n) (hv:(cs.drop (j.toNat*k)).take k=vs) [PutV l d (.agg vs.toArray) l']
    (q:RegK m S ops r l' h C):RegK m S ops ((i,kd)::r) l h C:=
  RegK.rd (v:= .agg vs.toArray) ho hw (by
    obtain ⟨hu,hs⟩:=jef (P:=P) (B:=B) (h:=H) (t:=t)
    simp only [execOp,ex.eq,ey.eq]
    refine Reads.value ?_
    unfold Instr.index
    refine Reads.bind (a:=(ik,j)) (Reads.pure _) ?_
    refine Reads.bind (jak hu).reads ?_
    simp only [h0,h1,and_self,if_true]
    refine Reads.bind hs ?_
    have:=jmZ (P:=P) (B:=B) (h:=H) (e:=e) (n:=k) (cs:=cs.toArray) (o:=j.toNat*k)
    have e2:cs.toArray.extract (j.toNat*k) (j.toNat*k+k)=vs.toArray:=by
      rw [←hv];simp [List.extract_eq_take_drop]
    rw [e2] at this
    exact this) q
theorem jni {v:List Int} {k:Nat} (hl:k<v.length):(jav v).toArray[(k:Int).toNat*1]?=some (.int .i64 (v.getD k 0)):=by
  rw [gd,show (k:Int).toNat*1=k by omega];exact jon hl
end
section
variable {P:Program} {m:Md P B} {g:Option (Nat×Bool)}
theorem jnF {e:Array Value→Sem Value} (E:Ext P f e) {args:Array Value} {Q:Next→Hp→Prop} (t:Tri P B (e args) h fun v h'=>Q (.value v) h'):TriE P B (callFunc f args) h Q:=fun w sw=>by
  obtain ⟨fn,h1,h2,h3,h4,h5⟩:=E.eq
  obtain ⟨v,w',h',r,st,q⟩:=t w sw
  refine ⟨.value v,w',h',?_,?_,q⟩
  · rw [run_callFunc_extern h1 h2 h3 h4 h5,r];rfl
  · rw [events_callFunc_extern h1 h2 h3 h4 h5,Sem.events_acc];refine st.events fun x hx=>?_
    rw [Array.mem_filter] at hx
    obtain ⟨hx,hn⟩:=hx
    rcases vl.1 hx with hx|hx
    · simp only [List.push_toArray,GJ,Vy,gw] at hx
      rw [hx] at hn
      cases hn
    · exact hx
theorem k_extF {e:Array Value→Sem Value} (E:Ext P f e) (ho:ops[i]?=some ⟨d,.call ⟨.value (.func f),args.toArray,ats⟩,ty,pos,af,g⟩) (hw:Wt ops l g) [ea:ArgsV l args vs]
    (hk:kd= .free∨kd= .keep) (t:Tri P B (e vs.toArray) h fun v h'=>(kd= .free∨S.Sublist h')∧RegK m S ops r (put l d v) h' C):RegK m S ops ((i,kd)::r) l h C:=by
  refine ⟨_,ho,?_⟩
  unfold opK
  rw [if_pos (Wt.wanted (o:=⟨d,.call ⟨.value (.func f),args.toArray,ats⟩,ty,pos,af,g⟩) hw)];have ex:execOp (ev l) ⟨d,.call ⟨.value (.func f),args.toArray,ats⟩,ty,pos,af,g⟩=callFunc f vs.toArray:=by
    have e1:args.toArray.map (ev l)=vs.toArray:=by rw [Gv,ea.eq]
    have ef:ev l (.func f)= .func (.func f) #[] #[]:=rfl
    unfold execOp
    simp [resolve,Deferred.ofValue,invoke,ef,e1]
  rcases hk with rfl|rfl
  · show TriE P B (execOp (ev l) _) h _
    rw [ex];exact jnF E (t.mono fun v h' x=>x.2)
  · show TriE P B (execOp (ev l) _) h _
    rw [ex];exact jnF E (t.mono fun v h' x=>⟨x.1.resolve_left zA,x.2⟩)
theorem k_extP {e:Array Value→Sem Value} {v:Value} (E:Ext P f e) (ho:ops[i]?=some ⟨d,.call ⟨.value (.func f),args.toArray,ats⟩,ty,pos,af,g⟩) (hw:Wt ops l g) [ea:ArgsV l args vs]
    (hk:kd= .free∨(kd= .keep∧S.Sublist h)) (he:e vs.toArray=Pure.pure v) [p:PutV l d v l'] (n:RegK m S ops r l' h C):RegK m S ops ((i,kd)::r) l h C:=
  k_extF E ho hw (hk.imp id (·.1)) (by rw [he];exact Tri.pure ⟨hk.imp id (·.2),by rw [p.eq];exact n⟩)
end
section
variable {P:Program}
theorem joR {t:Nat} (e:(P.info? t).map (·.size)=some n):Still P (sizeOf t) n:=by
  obtain ⟨i,hi,rfl⟩:=VM.1 e
  exact Still.bind (jb8 hi) (Still.pure _)
theorem joS (h:P.underlying t=some (.pointer e)):Still P (elemOf t) e:=Still.bind (jak h) (Still.pure _)
theorem jr1: ∀u∈s.map jco,u.oneCell'=true:=by
  intro u hu
  obtain ⟨c,_,rfl⟩:=gR.1 hu
  rfl
theorem firstS {k:Nat}:Builtin.firstCells k s.length (.string ⟨s.toArray⟩)=Pure.pure (s.map jco).toArray:=by
  unfold Builtin.firstCells
  have e:(⟨s.toArray⟩:ByteArray).extract 0 s.length=⟨s.toArray⟩:=by
    rw [jmO];simp
  dsimp only
  rw [e];congr 1
  apply vE
  simp [jco]
theorem jmN {t e by' ty:Nat} {v:Value} {cs:List Value} {new:Hp} [SliceT P t e 1] (hu2:P.underlying t2=some .string) [ElemT P e 1 by'] (hw:Weak B h (F++new)) (o:OwnS e 1 v n cs new)
    (hb:2*(n+s.length)*by'≤2^48) (hmax:n+s.length≤2^62) (q: ∀v' new',OwnS e 1 v' (n+s.length) (cs++s.map jco) new'→Q v' (F++new')):Tri P B (Builtin.append_ #[t,t2] ty #[v,.string ⟨s.toArray⟩]) h Q:=by
  obtain ⟨hu,hs⟩:=jck (P:=P) (B:=B) (h:=h) (t:=t)
  obtain ⟨i,z,hi,hi1,hi2,hi3,hz⟩:=jms (P:=P) (e:=e)
  obtain ⟨ps,cap,rfl,hcl⟩:=o.len
  have hinfo:Reads P B (typeInfo e) h i:=(jb8 hi).reads
  have hyl:(s.map jco).length=s.length:=by simp
  generalize hys:s.map jco=ys at*
  have h1: ∀u∈ys,u.oneCell'=true:=by rw [←hys];exact jr1
  have hx:Builtin.firstCells 1 s.length (.string ⟨s.toArray⟩)=(Pure.pure ys.toArray:Sem (Array Value)):=by rw [firstS,hys]
  refine Tri.weakR (Q:=fun a h'=> ∃h'',Weak B h' h''∧Q a h'') ?_ (fun a h' x=>x)
  unfold Builtin.append_
  simp only [gd,vD,vQ]
  refine Tri.bind ((jak hu).reads.tri ?_)
  refine Tri.bind (hs.tri ?_)
  refine Tri.bind ((jak hu2).reads.tri ?_)
  refine Tri.bind (Tri.pure ?_)
  simp only [gz,if_false]
  refine Tri.bind (Tri.pure (a:=s.length) ?_)
  simp only [Gk,if_true,hx]
  split
  · rename_i hle
    refine Tri.bind (Tri.pure ?_)
    cases o with
    |nil=>
      have hm0:s.length=0:=by omega
      have:ys=[]:=GB.1 zO
      subst this
      rw [hm0];exact Tri.pure ⟨_,hw,by have:=q (.slice none 0 0) [] (by rw [hm0];exact .nil);simpa [hm0] using this⟩
    |blk hl hc hn=>
      rename_i b junk
      refine Tri.weak hw ?_
      refine Tri.bind ?_
      rw [Addr.add_none,GG];refine jeS (h1:=F) (h2:=[]) ys 0 _ zN h1 fun c' hc'=>Tri.pure ⟨_,Weak.refl _ _,?_⟩
      have e1:c'=(cs++ys++junk.drop ys.length).toArray:=by
        apply vE
        rw [hc'];simp only [VS,xV]
        rw [←hl,List.take_left,List.drop_append];simp
      rw [e1];exact q _ _ (.blk zN zN hle)
  · rename_i hgt
    refine Tri.bind (hinfo.tri ?_)
    have hM:IntKind.i64.max=9223372036854775807:=by decide
    rw [if_neg (by rintro ⟨h3,_⟩;rw [hM] at h3;omega)];refine Tri.bind (hinfo.tri ?_)
    have hnc:Builtin.nextslicecap (n+s.length) cap≤2*(n+s.length):=jqR zO
    rw [if_neg (by rw [hi2];have:=GW by' hnc;omega)];refine Tri.bind (jdu rfl fun t0=>?_)
    refine Tri.bind (hinfo.tri ?_)
    refine Tri.bind (reads_room.tri ?_)
    have hro:Reads P B (Builtin.firstCells 1 n (.slice ps n cap)) h cs.toArray:=Reads.weak hw (jfO (o.rd (gK F new)))
    refine Tri.bind (hro.tri ?_)
    refine Tri.bind (Tri.pure ?_)
    have hzv:Reads P B (zeroValue e) h z:=by
      refine Reads.bind (jb8 hi).reads ?_
      simp only [hi3]
      exact Reads.pure _
    refine Tri.bind (hzv.tri ?_)
    refine Tri.bind (jfJ fun b _=>Tri.pure ⟨F++[_],Weak.snoc (hw.trans (Weak.sub (gG F new))) _,?_⟩)
    have hcut:Question.cut (.appendCap (n+s.length) cap e) t0=n+s.length+t0%(2^63-(n+s.length)):=rfl
    generalize hN:Question.cut (.appendCap (n+s.length) cap e) t0=N at*
    have hlz:(Builtin.zeroCells z.cells (N-(n+s.length))).toList.length=(N-(n+s.length))*1:=by simp [Builtin.zeroCells,hz]
    have e1:cs.toArray++ys.toArray++Builtin.zeroCells z.cells (N-(n+s.length))=(cs++ys++(Builtin.zeroCells z.cells (N-(n+s.length))).toList).toArray:=by
      apply vE;simp
    rw [e1];refine q _ _ (.blk (by simp [hcl,hyl]) ?_ zO)
    rw [hlz];simp only [gH,hcl,hyl]
    omega
theorem ji0: ∀(n t:Nat) (acc:Array Value),(Extern.BytealgMakeNoZero.digits n t acc).size=acc.size+n
  |0,t,acc=>rfl
  |n+1,t,acc=>by
    unfold Extern.BytealgMakeNoZero.digits
    rw [ji0];simp;omega
theorem tri_mnz (ht:P.underlying t=some (.slice e)) (hn:n≤2^48) (q: ∀r N (junk:List Value),n≤N→junk.length=N→Q (.slice (some ⟨r,0,none⟩) n N) (h++[⟨true,r,.cells junk.toArray e (0,0)⟩])):
    Tri P B (Extern.BytealgMakeNoZero.makeNoZero ps #[t] #[.int .i64 (n:Int)]) h Q:=by
  have hdef:Extern.BytealgMakeNoZero.makeNoZero ps #[t] #[.int .i64 (n:Int)]=(do
      let .slice elem←underlying t|stuck "bytealg.MakeNoZero: slice type expected"
      if ((n:Int)<0||(n:Int)>2^48)=true then runtimePanic (.error "makeslice: len out of range")
      let cap←choose (.appendCap (n:Int).toNat 0 elem)
      askRoom cap
      let bytes←choose (.extern "internal/bytealg.MakeNoZero.bytes" 0)
      let a←newRow elem (Extern.BytealgMakeNoZero.digits cap bytes #[])
      pure (.slice (some a) (n:Int).toNat cap)):=rfl
  rw [hdef];refine Tri.bind ((jak ht).reads.tri ?_)
  dsimp only
  rw [if_neg (by simp only [GR,decide_eq_true_eq,not_or,Int.not_lt];omega)];refine Tri.bind (jdu rfl fun t0=>?_)
  refine Tri.bind (reads_room.tri ?_)
  refine Tri.bind (jdu rfl fun t1=>?_)
  refine Tri.bind (jfJ fun r _=>Tri.pure ?_)
  have hcut:Question.cut (.appendCap (n:Int).toNat 0 e) t0=n+t0%(2^63-n):=rfl
  have:=q r (Question.cut (.appendCap (n:Int).toNat 0 e) t0) (Extern.BytealgMakeNoZero.digits (Question.cut (.appendCap (n:Int).toNat 0 e) t0) (Question.cut (.extern "internal/bytealg.MakeNoZero.bytes" 0) t1) #[]).toList (by rw [hcut];omega) (by simp [ji0])
  simpa using this
theorem jrx {w:World} {b:Nat} {c:Array Value} (hb:w.heap[b]?=some (.cells c t (0,0))) (hn:n≠0):
    w.freeze ⟨b,0,none⟩ n={w with heap:=w.heap.setIfInBounds b (.cells c t (0,n))}:=by
  unfold World.freeze
  rw [if_neg hn];have hlt:=(gJ.1 hb).1
  congr 1
  apply Array.ext
  · simp
  · intro i h1 h2
    rw [xM,VU];split
    · rename_i e
      subst e
      have:w.heap[b]= .cells c t (0,0):=by rw [gS hlt] at hb;exact gF hb
      simp [this]
    · rfl
theorem joL {b:Nat} {c:Array Value} {Q:Unit→Hp→Prop} (hn:n≠0) (q:Q () (h1++⟨true,b,.cells c t (0,n)⟩::h2)):Tri P B (freeze ⟨b,0,none⟩ n) (h1++⟨true,b,.cells c t (0,0)⟩::h2) Q:=fun w sw=>by
  have hb:=(sw.mem ⟨true,b,.cells c t (0,0)⟩ zS).2
  refine ⟨(),w.freeze ⟨b,0,none⟩ n,_,by simp [freeze,Sem.run],?_,q⟩
  rw [jrx hb hn];exact Stp.turn sw (by rw [events_freeze];simp)
theorem jhn {b:Nat}: ∀(s:List UInt8) (o:Nat) (acc:List UInt8),(∀j,j<s.length→Rd B h ⟨b,o+j,none⟩ ((s.map jco).getD j undef))→Reads P B (loadBytes ⟨b,o,none⟩ ⟨acc.toArray⟩ s.length) h ⟨(acc++s).toArray⟩
  |[],o,acc,_=>by rw [ge];exact Reads.pure _
  |c::s,o,acc,hr=>by
    rw [gV,loadBytes];have h0:=hr 0 zS
    refine Reads.bind (a:=jco c) (Reads.load (by simpa using h0)) ?_
    simp only [jco]
    rw [Addr.add_none];have e:(⟨acc.toArray⟩:ByteArray).push ((c.toNat:Int).toNat.toUInt8)=⟨(acc++[c]).toArray⟩:=by
      apply ByteArray.ext;simp [ByteArray.push]
    rw [e];have:=jhn s (o+1) (acc++[c]) fun j hj=>by
      have:=hr (j+1) zN
      simpa [VJ,VE 1] using this
    simpa using this
theorem jen {b:Nat} {rw:Bool} {c:Array Value} {f:Nat×Nat} (q:(⟨rw,b,.cells c t f⟩:Chunk)∈h):Reads P B (shape b) h (some (t,c.size)):=fun w sw=>by
  have hb:=(sw.mem _ q).2
  simp only at hb
  have:w.shape? b=some (t,c.size):=by simp [World.shape?,hb]
  exact ⟨by simp [shape,Sem.run,this],by simp⟩
theorem row_self {t:Nat} {count:Nat} (hd: ∃k,P.depth=k+1) (hc:P.cellsOf t=1) (hn:n≤count):liesAt P P.depth t (count/P.cellsOf t) 0 t n=true:=by
  obtain ⟨k,hk⟩:=hd
  have hs:sameLayout P P.depth t t=true:=by rw [hk,sameLayout];simp
  have h2:rowAt P (sameLayout P P.depth · t) P.depth t (count/P.cellsOf t) 0 n=true:=by
    have:=congrArg (fun d=>rowAt P (sameLayout P P.depth · t) d t (count/P.cellsOf t) 0 n) hk
    rw [this,rowAt];simp [hc,hs,hn]
  have:=congrArg (fun d=>liesAt P d t (count/P.cellsOf t) 0 t n) hk
  rw [this,liesAt,h2];rfl
theorem tri_ustr {tp ty e:Nat} (he:Still P (elemOf tp) e) (hd: ∃k,P.depth=k+1) (hc:P.cellsOf e=1) (hn:s.length=n) (hp:n≠0) (hm:n<2^62)
    (k:Q (.string ⟨s.toArray⟩) (h1++⟨true,q,.cells (s.map jco++junk).toArray e (0,n)⟩::h2)):
    Tri P B (Builtin.unsafeString_ #[tp,ty] 0 #[.pointer (some ⟨q,0,none⟩),.int .i64 (n:Int)]) (h1++⟨true,q,.cells (s.map jco++junk).toArray e (0,0)⟩::h2) Q:=by
  unfold Builtin.unsafeString_
  dsimp only
  refine Tri.bind (Tri.pure (a:=(n:Int)) ?_)
  simp only [gd,vD]
  rw [if_neg zO,if_neg (by have hM:IntKind.i64.max=9223372036854775807:=zA;rw [hM];omega),if_neg zO];have hmem:(⟨true,q,.cells (s.map jco++junk).toArray e (0,0)⟩:Chunk)∈h1++⟨true,q,.cells (s.map jco++junk).toArray e (0,0)⟩::h2:=by simp
  refine Tri.bind (he.reads.tri ?_)
  have hv:Reads P B (variablesAt ⟨q,0,none⟩ e (n:Int).toNat) (h1++⟨true,q,.cells (s.map jco++junk).toArray e (0,0)⟩::h2) true:=by
    unfold variablesAt
    refine Reads.bind Reads.program' (Reads.bind (jen hmem) ?_)
    dsimp only
    rw [gm,row_self hd hc zN];exact Reads.pure _
  refine Tri.bind (hv.tri ?_)
  rw [if_pos rfl];have hl:Reads P B (loadBytes ⟨q,0,none⟩ .empty (n:Int).toNat) (h1++⟨true,q,.cells (s.map jco++junk).toArray e (0,0)⟩::h2) ⟨s.toArray⟩:=by
    rw [gm,←hn];have:=jhn (P:=P) (B:=B) (h:=h1++⟨true,q,.cells (s.map jco++junk).toArray e (0,0)⟩::h2) (b:=q) s 0 [] fun j hj=>by
      refine Rd.held hmem ?_
      rw [GG,gd,gb (by simpa using hj),gC,gD (by simpa using hj)];rfl
    have e0:ByteArray.empty=⟨#[]⟩:=rfl
    rw [e0];simpa using this
  refine Tri.bind (hl.tri ?_)
  rw [gm];exact Tri.bind (joL hp (Tri.pure k))
theorem jpq {w:World} {b:Nat} {c:Array Value} (hb:w.heap[b]?=some (.cells c t (0,0))):
    w.freeze ⟨b,n,none⟩ 1={w with heap:=w.heap.setIfInBounds b (.cells c t (n,n+1))}:=by
  unfold World.freeze
  rw [if_neg zA];have hlt:=(gJ.1 hb).1
  congr 1
  apply Array.ext
  · simp
  · intro i h1 h2
    rw [xM,VU];split
    · rename_i e
      subst e
      have:w.heap[b]= .cells c t (0,0):=by rw [gS hlt] at hb;exact gF hb
      simp [this]
    · rfl
theorem tri_mark {b:Nat} {c:Array Value} {Q:Unit→Hp→Prop} (q:Q () (h1++⟨true,b,.cells c t (c.size,c.size+1)⟩::h2)):Tri P B (markStringish ⟨b,0,none⟩) (h1++⟨true,b,.cells c t (0,0)⟩::h2) Q:=by
  have hm:(⟨true,b,.cells c t (0,0)⟩:Chunk)∈h1++⟨true,b,.cells c t (0,0)⟩::h2:=by simp
  unfold markStringish
  refine Tri.bind ((jen hm).tri ?_)
  intro w sw
  have hb:=(sw.mem _ hm).2
  refine ⟨(),w.freeze ⟨b,c.size,none⟩ 1,_,by simp [freeze,Sem.run],?_,q⟩
  rw [jpq hb];exact Stp.turn sw (by rw [events_freeze];simp)
theorem tri_s2b {src dst:TypeId} (hs:P.underlying src=some .string) (hd:P.underlying dst=some (.slice e)) (he:P.underlying e=some (.int .u8))
    (q: ∀r N (junk:List Value),s.length+junk.length=N→Q (.slice (some ⟨r,0,none⟩) s.length N) (h++[⟨true,r,.cells (s.map jco++junk).toArray e (N,N+1)⟩])):Tri P B (convert src dst (.string ⟨s.toArray⟩)) h Q:=by
  unfold convert
  refine Tri.bind ((jak hs).reads.tri (Tri.bind ((jak hd).reads.tri ?_)))
  dsimp only
  refine Tri.bind ((jak he).reads.tri ?_)
  dsimp only
  unfold Conv.stringToBytes
  refine Tri.bind (jdu rfl fun t0=>?_)
  generalize hN:Question.cut (.appendCap (⟨s.toArray⟩:ByteArray).size 0 e) t0=N
  have hcut:Question.cut (.appendCap (⟨s.toArray⟩:ByteArray).size 0 e) t0=(⟨s.toArray⟩:ByteArray).size+t0%(2^63-(⟨s.toArray⟩:ByteArray).size):=rfl
  have hsz:(⟨s.toArray⟩:ByteArray).size=s.length:=by simp [ByteArray.size]
  refine Tri.bind (jfJ fun r _=>Tri.bind ?_)
  have e1:(Array.map (fun b:UInt8=>Value.int .u8 (b.toNat:Int)) s.toArray++Array.replicate (N-s.length) (Value.int .u8 0))=(s.map jco++List.replicate (N-s.length) (Value.int .u8 0)).toArray:=by
    apply vE;simp [jco]
  rw [hsz];show Tri P B (markStringish ⟨r,0,none⟩) (h++[⟨true,r,.cells (Array.map (fun b:UInt8=>Value.int .u8 (b.toNat:Int)) s.toArray++Array.replicate (N-s.length) (Value.int .u8 0)) e (0,0)⟩]) _
  rw [e1];refine tri_mark (h1:=h) (h2:=[]) (Tri.pure ?_)
  have hl:(s.map jco++List.replicate (N-s.length) (Value.int .u8 0)).toArray.size=N:=by simp;omega
  rw [hl];exact q r N _ zN
theorem reads_to {t b:Nat} (hs:P.underlying src=some (.pointer t)) (hd:P.underlying dst=some .unsafePointer) (hsz:(P.info? t).map (fun i=>decide (i.size=0))=some false) {v:Value} (rd:Rd B h ⟨b,o,none⟩ v):
    Reads P B (convert src dst (.pointer (some ⟨b,o,none⟩))) h (.pointer (some ⟨b,o,none⟩)):=fun w sw=>by
  have hc:=rd.cell sw
  exact ⟨run_convert_to_unsafe hs hd hsz hc,by rw [events_convert_to_unsafe hs hd hsz hc];simp⟩
theorem jo1 {b:Nat} {rw:Bool} {c:Array Value} {f:Nat×Nat} (q:(⟨rw,b,.cells c t f⟩:Chunk)∈h):Reads P B (viewAt b) h none:=by
  unfold viewAt
  refine Reads.bind (jen q) ?_
  exact Reads.pure _
theorem jo2 {u b:Nat} {rw:Bool} {c:Array Value} {f:Nat×Nat} (hs:P.underlying src=some .unsafePointer) (hd:P.underlying dst=some (.pointer u)) (hsz: ∃k,Still P (sizeOf u) k∧k≠0) (q:(⟨rw,b,.cells c t f⟩:Chunk)∈h)
    (hv:liesAt P P.depth t (c.size/P.cellsOf t) 0 u 1=true):Reads P B (convert src dst (.pointer (some ⟨b,0,none⟩))) h (.pointer (some ⟨b,0,none⟩)):=by
  obtain ⟨k,hk,hk0⟩:=hsz
  unfold convert
  refine Reads.bind (jak hs).reads (Reads.bind (jak hd).reads ?_)
  dsimp only
  unfold Conv.unsafePointer
  refine Reads.bind (jak hs).reads (Reads.bind (jak hd).reads ?_)
  dsimp only
  refine Reads.bind (a:=(⟨b,0,none⟩:Addr)) ?_ ?_
  · unfold Conv.seenAt
    refine Reads.bind (jo1 q) ?_
    exact Reads.pure _
  refine Reads.bind hk.reads ?_
  have hv2:Reads P B (variablesAt ⟨b,0,none⟩ u 1) h true:=by
    unfold variablesAt
    refine Reads.bind Reads.program' (Reads.bind (jen q) ?_)
    dsimp only
    rw [hv];exact Reads.pure _
  refine Reads.bind hv2 ?_
  rw [if_pos zS];exact Reads.pure _
theorem jqy (ht:P.underlying t=some (.pointer e)) (p:Option Addr):Reads P B (Op.equalIn (dd+1) t (.pointer p) (.pointer none)) h p.isNone:=by
  unfold Op.equalIn
  refine Reads.bind (jak ht).reads ?_
  cases p with
  |none=>exact Reads.pure _
  |some a=>exact Reads.pure _
theorem jlN {k:TypeId} (ht:P.underlying t=some (.pointer e)) (hs:Still P (sizeOf e) k) (hk:k≠0) (a:Addr):Reads P B (Op.equalIn (dd+1) t (.pointer (some a)) (.pointer (some a))) h true:=by
  unfold Op.equalIn
  refine Reads.bind (jak ht).reads ?_
  dsimp only
  refine Reads.bind hs.reads ?_
  rw [if_pos hk];unfold sameAddr
  rw [if_pos zS];have:(a==a)=true:=by simp
  rw [this];exact Reads.pure _
end
section
variable {P:Program} {m:Md P B} {g:Option (Nat×Bool)}
theorem k_appS {t e by':Nat} {x:Operand} {v:Value} {a:ByteArray} {cs:List Value} {new:Hp} (ho:ops[i]?=some ⟨d,.call ⟨.builtin .append,[x,y].toArray,#[t,t2]⟩,ty,pos,af,g⟩) (hg:Wt ops l g) [ex:OpV l x v] [ey:OpV l y (.string a)] [sv:SV a s] [SliceT P t e 1] [ElemT P e 1 by'] (hu2:P.underlying t2=some .string)
    (o:OwnS e 1 v n cs new) (w:Weak B h (F++new)) (hk:kd= .free∨(kd= .keep∧S.Sublist F)) (hb:2*(n+s.length)*by'≤2^48) (hmax:n+s.length≤2^62)
    (c: ∀v' new',OwnS e 1 v' (n+s.length) (cs++s.map jco) new'→RegK m S ops r (put l d v') (F++new') C):RegK m S ops ((i,kd)::r) l h C:=by
  refine RegK.ke (hk.symm.imp (·.1) id) ho hg ?_
  rw [jbk (vs:=[v,.string a]) (by simp [ex.eq,ey.eq]),sv.eq];exact Tri.bind (jmN hu2 w o hb hmax fun v' new' o'=>Tri.pure ⟨hk.imp id fun x=>x.2.trans (gG _ _),c v' new' o'⟩)
theorem k_mnz {x:Operand} (E:Ext P f (Extern.BytealgMakeNoZero.makeNoZero ps #[t])) (ho:ops[i]?=some ⟨d,.call ⟨.value (.func f),[x].toArray,ats⟩,ty,pos,af,g⟩) (hw:Wt ops l g) [ex:OpV l x (.int .i64 (n:Int))]
    (hk:kd= .free∨(kd= .keep∧S.Sublist h)) (ht:P.underlying t=some (.slice e)) (hn:n≤2^48) (c: ∀q N (junk:List Value),n≤N→junk.length=N→RegK m S ops r (put l d (.slice (some ⟨q,0,none⟩) n N)) (h++[⟨true,q,.cells junk.toArray e (0,0)⟩]) C):RegK m S ops ((i,kd)::r) l h C:=by
  haveI:ArgsV l [x] [.int .i64 (n:Int)]:=inferInstance
  exact k_extF E ho hw (hk.imp id (·.1)) (tri_mnz ht hn fun q N junk h1 h2=>⟨hk.imp id fun y=>y.2.trans (gG _ _),c q N junk h1 h2⟩)
theorem k_usd {t cc:Nat} {x:Operand} (ho:ops[i]?=some ⟨d,.call ⟨.builtin .unsafeSliceData,[x].toArray,#[t]⟩,ty,pos,af,g⟩) (hg:Wt ops l g) [KHeap kd S h H] [ex:OpV l x (.slice (some ⟨q,0,none⟩) n cc)] (hc:cc≠0) [PutV l d (.pointer (some ⟨q,0,none⟩)) l'] (c:RegK m S ops r l' h C):RegK m S ops ((i,kd)::r) l h C:=
  RegK.rd (v:= .pointer (some ⟨q,0,none⟩)) ho hg (by
    rw [jbk (vs:=[.slice (some ⟨q,0,none⟩) n cc]) (by simp [ex.eq])];refine Reads.value ?_
    unfold Builtin.unsafeSliceData_
    show Reads P B (if cc≠0 then pure (Value.pointer (some ⟨q,0,none⟩)) else _) H _
    rw [if_pos hc];exact Reads.pure _) c
theorem k_ustr {tp e:Nat} {x:Operand} (ho:ops[i]?=some ⟨d,.call ⟨.builtin .unsafeString,[x,y].toArray,#[tp,t2]⟩,ty,pos,af,g⟩) (hg:Wt ops l g) [ex:OpV l x (.pointer (some ⟨q,0,none⟩))] [ey:OpV l y (.int .i64 (n:Int))]
    (he:Still P (elemOf tp) e) (hd: ∃k,P.depth=k+1) (hc:P.cellsOf e=1) (hn:s.length=n) (hp:n≠0) (hm:n<2^62) (hk:kd= .free∨(kd= .keep∧S.Sublist (h1++⟨true,q,.cells (s.map jco++junk).toArray e (0,n)⟩::h2)))
    (c:RegK m S ops r (put l d (str s)) (h1++⟨true,q,.cells (s.map jco++junk).toArray e (0,n)⟩::h2) C):RegK m S ops ((i,kd)::r) l (h1++⟨true,q,.cells (s.map jco++junk).toArray e (0,0)⟩::h2) C:=by
  refine RegK.ke (hk.symm.imp (·.1) id) ho hg ?_
  rw [jbk (vs:=[.pointer (some ⟨q,0,none⟩),.int .i64 (n:Int)]) (by simp [ex.eq,ey.eq])];exact Tri.bind (tri_ustr he hd hc hn hp hm (Tri.pure ⟨hk.imp id (·.2),c⟩))
theorem k_to {t b:Nat} {x:Operand} {v:Value} (ho:ops[i]?=some ⟨d,.convert src dst x,ty,pos,af,g⟩) (hw:Wt ops l g) [KHeap kd S h H] [ex:OpV l x (.pointer (some ⟨b,o,none⟩))] (hs:P.underlying src=some (.pointer t)) (hd:P.underlying dst=some .unsafePointer) (hsz:(P.info? t).map (fun i=>decide (i.size=0))=some false) (rd:Rd B H ⟨b,o,none⟩ v)
    [PutV l d (.pointer (some ⟨b,o,none⟩)) l'] (c:RegK m S ops r l' h C):RegK m S ops ((i,kd)::r) l h C:=
  RegK.rd (v:= .pointer (some ⟨b,o,none⟩)) ho hw (by simp only [execOp,ex.eq];exact Reads.value (reads_to hs hd hsz rd)) c
theorem k_from {u b t:Nat} {x:Operand} {rw:Bool} {cs:Array Value} {f:Nat×Nat} (ho:ops[i]?=some ⟨d,.convert src dst x,ty,pos,af,g⟩) (hw:Wt ops l g) [KHeap kd S h H] [ex:OpV l x (.pointer (some ⟨b,0,none⟩))] (hs:P.underlying src=some .unsafePointer) (hd:P.underlying dst=some (.pointer u)) (hsz: ∃k,Still P (sizeOf u) k∧k≠0) [q:Has H b rw (.cells cs t f)]
    (hv:liesAt P P.depth t (cs.size/P.cellsOf t) 0 u 1=true) [PutV l d (.pointer (some ⟨b,0,none⟩)) l'] (c:RegK m S ops r l' h C):RegK m S ops ((i,kd)::r) l h C:=
  RegK.rd (v:= .pointer (some ⟨b,0,none⟩)) ho hw (by simp only [execOp,ex.eq];exact Reads.value (jo2 hs hd hsz q.mem hv)) c
theorem jom {x:Operand} {p:Option Addr} (ho:ops[i]?=some ⟨d,.binOp .eql t x (.const (.pointer none)) u,ty,pos,af,g⟩) (hw:Wt ops l g) [KHeap kd S h H] [ex:OpV l x (.pointer p)] (ht:P.underlying t=some (.pointer e)) [PutV l d (.bool p.isNone) l'] (c:RegK m S ops r l' h C):RegK m S ops ((i,kd)::r) l h C:=
  RegK.rd (v:= .bool p.isNone) ho hw (by
    have ey:ev l (.const (.pointer none))= .pointer none:=rfl
    simp only [execOp,ex.eq,ey]
    refine Reads.value (Reads.bind (a:=()) ?_ ?_)
    · exact Reads.pure _
    · show Reads P B (Op.equal t (.pointer p) (.pointer none)>>=fun b=>pure (Value.bool b)) H _
      exact Reads.bind (jqy (dd:=9999) ht p) (Reads.pure _)) c
theorem jre {x:Operand} (ho:ops[i]?=some ⟨d,.binOp .eql t x (.const (.pointer none)) u,ty,pos,af,g⟩) (hw:Wt ops l g) [KHeap kd S h H] [ex:OpV l x (.pointer none)] (ht:P.underlying t=some (.pointer e)) [p:PutV l d (.bool true) l'] (c:RegK m S ops r l' h C):RegK m S ops ((i,kd)::r) l h C:=
  haveI:PutV l d (.bool (Option.isNone (none:Option Addr))) l':=p
  jom ho hw ht c
theorem jrf {x:Operand} {a:Addr} (ho:ops[i]?=some ⟨d,.binOp .eql t x (.const (.pointer none)) u,ty,pos,af,g⟩) (hw:Wt ops l g) [KHeap kd S h H] [ex:OpV l x (.pointer (some a))] (ht:P.underlying t=some (.pointer e)) [p:PutV l d (.bool false) l'] (c:RegK m S ops r l' h C):RegK m S ops ((i,kd)::r) l h C:=
  haveI:PutV l d (.bool (Option.isNone (some a))) l':=p
  jom ho hw ht c
theorem k_cap {t e k c:Nat} {x:Operand} {p:Option Addr} (ho:ops[i]?=some ⟨d,.call ⟨.builtin .cap,[x].toArray,#[t]⟩,ty,pos,af,g⟩) (hw:Wt ops l g) [kh:KHeap kd S h H] [ex:OpV l x (.slice p n c)] [SliceT P t e k] [PutV l d (.int .i64 c) l']
    (q:RegK m S ops r l' h C):RegK m S ops ((i,kd)::r) l h C:=
  RegK.rd (v:= .int .i64 c) ho hw (by
    rw [jbk (vs:=[.slice p n c]) (by simp [ex.eq])];obtain ⟨hu,_⟩:=jck (P:=P) (B:=B) (h:=H) (t:=t)
    refine Reads.value ?_
    unfold Builtin.cap_
    simp only [gd,vD]
    exact Reads.bind (jak hu).reads (Reads.pure _)) q
theorem jg3 {x:Operand} {a b:ByteArray} {p q:List UInt8} (ho:ops[i]?=some ⟨d,.binOp .eql t x y u,ty,pos,af,g⟩) (hw:Wt ops l g) [KHeap kd S h H] [ex:OpV l x (.string a)] [ey:OpV l y (.string b)] [pa:SV a p] [pb:SV b q] (e:p=q) [pt:PutV l d (.bool true) l']
    (n:RegK m S ops r l' h C):RegK m S ops ((i,kd)::r) l h C:=
  haveI:PutV l d (.bool (decide (p=q))) l':=by rw [decide_eq_true e];exact pt
  k_seql ho hw n
theorem jg4 {x:Operand} {a b:ByteArray} {p q:List UInt8} (ho:ops[i]?=some ⟨d,.binOp .eql t x y u,ty,pos,af,g⟩) (hw:Wt ops l g) [KHeap kd S h H] [ex:OpV l x (.string a)] [ey:OpV l y (.string b)] [pa:SV a p] [pb:SV b q] (e:p≠q) [pt:PutV l d (.bool false) l']
    (n:RegK m S ops r l' h C):RegK m S ops ((i,kd)::r) l h C:=
  haveI:PutV l d (.bool (decide (p=q))) l':=by rw [decide_eq_false e];exact pt
  k_seql ho hw n
theorem jfY {x:Operand} {a b:ByteArray} {p q:List UInt8} (ho:ops[i]?=some ⟨d,.binOp .neq t x y u,ty,pos,af,g⟩) (hw:Wt ops l g) [KHeap kd S h H] [ex:OpV l x (.string a)] [ey:OpV l y (.string b)] [pa:SV a p] [pb:SV b q] (e:p≠q) [pt:PutV l d (.bool true) l']
    (n:RegK m S ops r l' h C):RegK m S ops ((i,kd)::r) l h C:=
  haveI:PutV l d (.bool (decide (p≠q))) l':=by rw [decide_eq_true e];exact pt
  k_sneq ho hw n
theorem jez {x:Operand} {a b:ByteArray} {p q:List UInt8} (ho:ops[i]?=some ⟨d,.binOp .neq t x y u,ty,pos,af,g⟩) (hw:Wt ops l g) [KHeap kd S h H] [ex:OpV l x (.string a)] [ey:OpV l y (.string b)] [pa:SV a p] [pb:SV b q] (e:p=q) [pt:PutV l d (.bool false) l']
    (n:RegK m S ops r l' h C):RegK m S ops ((i,kd)::r) l h C:=
  haveI:PutV l d (.bool (decide (p≠q))) l':=by rw [decide_eq_false (fun h=>h e)];exact pt
  k_sneq ho hw n
theorem rd_at {b:Nat} {rw:Bool} {cs:List Value} {f:Nat×Nat} {v:Value} [q:Has h b rw (.cells cs.toArray t f)] [a:At cs o v]:Rd B h ⟨b,o,none⟩ v:=Rd.held q.mem (by simpa using a.eq)
theorem weakEq (e:h=h'):Weak B h h':=e▸Weak.refl B h
theorem jq9 {k:TypeId} {x:Operand} {a:Addr} (ho:ops[i]?=some ⟨d,.binOp .neq t x y u,ty,pos,af,g⟩) (hw:Wt ops l g) [KHeap kd S h H] [ex:OpV l x (.pointer (some a))] [ey:OpV l y (.pointer (some a))] (ht:P.underlying t=some (.pointer e)) (hs:Still P (sizeOf e) k) (hk:k≠0) [PutV l d (.bool false) l'] (c:RegK m S ops r l' h C):RegK m S ops ((i,kd)::r) l h C:=
  RegK.rd (v:= .bool false) ho hw (by
    simp only [execOp,ex.eq,ey.eq]
    refine Reads.value (Reads.bind (a:=()) ?_ ?_)
    · exact Reads.pure _
    · show Reads P B (Op.equal t (.pointer (some a)) (.pointer (some a))>>=fun b=>pure (Value.bool !b)) H _
      exact Reads.bind (jlN (dd:=9999) ht hs hk a) (Reads.pure _)) c
theorem k_s2b {src dst:TypeId} {x:Operand} {a:ByteArray} (ho:ops[i]?=some ⟨d,.convert src dst x,ty,pos,af,g⟩) (hg:Wt ops l g) [ex:OpV l x (.string a)] [sv:SV a s] (hs:P.underlying src=some .string) (hd:P.underlying dst=some (.slice e)) (he:P.underlying e=some (.int .u8)) (hk:kd= .free∨(kd= .keep∧S.Sublist h))
    (c: ∀q N (junk:List Value),s.length+junk.length=N→RegK m S ops r (put l d (.slice (some ⟨q,0,none⟩) s.length N)) (h++[⟨true,q,.cells (s.map jco++junk).toArray e (N,N+1)⟩]) C):RegK m S ops ((i,kd)::r) l h C:=by
  refine RegK.ke (hk.symm.imp (·.1) id) ho hg ?_
  simp only [execOp,ex.eq,sv.eq]
  exact Tri.bind (tri_s2b hs hd he fun q N junk hj=>Tri.pure ⟨hk.imp id fun y=>y.2.trans (gG _ _),c q N junk hj⟩)
theorem k_copy0 {t e cc:Nat} {x:Operand} {c2:Nat} (ho:ops[i]?=some ⟨d,.call ⟨.builtin .copy,[x,y].toArray,#[t,t2]⟩,ty,pos,af,g⟩) (hg:Wt ops l g) [KHeap kd S h H] [ex:OpV l x (.slice (some ⟨q,0,none⟩) 0 cc)] [ey:OpV l y (.slice none 0 c2)] [SliceT P t e 1] [PutV l d (.int .i64 0) l'] (c:RegK m S ops r l' h C):RegK m S ops ((i,kd)::r) l h C:=
  RegK.rd (v:= .int .i64 0) ho hg (by
    obtain ⟨hu,hs⟩:=jck (P:=P) (B:=B) (h:=H) (t:=t)
    rw [jbk (vs:=[.slice (some ⟨q,0,none⟩) 0 cc,.slice none 0 c2]) (by simp [ex.eq,ey.eq])];refine Reads.value ?_
    unfold Builtin.copy_
    simp only [gd,vD,vQ]
    refine Reads.bind (jak hu).reads ?_
    dsimp only
    refine Reads.bind (a:=0) (Reads.pure _) ?_
    refine Reads.bind hs ?_
    refine Reads.bind (a:= #[]) (Reads.pure _) ?_
    exact Reads.pure _) c
end
end Go.Lo
namespace Go.Lo
open Go.Conc (G)
theorem jbs: ∀(ss:List Str),jaC ss=ss.map str
  |[]=>rfl
  |s::r=>by rw [jaC,jbs r];rfl
theorem jjF (xs:List Str) (i:Nat) (h:i<xs.length):xs.take (i+1)=xs.take i++[xs.getD i []]:=jaV xs i h
section
theorem RdS.sat {c b:Nat} {ss:List Str} (rd:RdS B h 1 (.slice (some ⟨b,o,none⟩) n c) n (jaC ss)) [s:SubH h H] {j:Int} (i:Nat) (hj:j=i) (hi:i<n):Rd B H ⟨b,o+j.toNat*1,none⟩ (str (ss.getD i [])):=by
  have hl:=rd.elen zA
  have:=rd.vat (H:=H) i hj hi
  rw [jbs,gC,gX,gD zO] at this
  rw [gC,gD zO];exact this
end
def jnh (sep:Str):List Str→Str
  |[]=>[]
  |a::r=>a++r.flatMap fun x=>sep++x
def jjv (n:Nat):Str:=if n<10 then [UInt8.ofNat (48+n)] else [UInt8.ofNat (48+n/10),UInt8.ofNat (48+n%10)]
def jaD (x:Int):Str:=if x= -1 then [63] else jjv x.toNat
def jbM (v:List Int):Str:=jnh [45] (v.map jaD)
theorem jga (ls:List Nat) (k:Nat) (h:k<ls.length):(ls.take (k+1)).sum=(ls.take k).sum+ls.getD k 0:=by
  rw [Gh,gD h,Ve,gC,gD h];simp only [Gq,vH,List.sum_nil,VS,gu]
def RdLn (B:Array Obj) (h:Hp) (v:Value) (n:Nat) (lns:List Ln):Prop:=
  ∃lps:List Lp,lps.map (·.ln)=lns∧RdS B h 2 v n (jaC lps)∧ ∀x∈lps,x.ln.figs.length≤x.c∧(0<x.ln.figs.length→RdS B h 1 (.slice x.p x.ln.figs.length x.c) x.ln.figs.length (jaC x.ln.figs))
theorem RdLn.keeps {v:Value} {lns:List Ln} (r:RdLn B h v n lns) (s:h.Sublist H):RdLn B H v n lns:=by
  obtain ⟨lps,e,r1,r2⟩:=r
  exact ⟨lps,e,r1.keeps s,fun x hx=>⟨(r2 x hx).1,fun hp=>((r2 x hx).2 hp).keeps s⟩⟩
instance:Inhabited Lp:=⟨⟨default,none,0⟩⟩
theorem jaj {α:Type} [Inhabited α] {l:List α} (h:i<l.length):l.getD i default∈l:=by
  rw [gC,gD h];exact vF h
end Go.Lo
namespace Go.Lo
def ji6 (i:Nat) (c:UInt8):Prop:=(97≤c.toNat∧c.toNat≤122)∨(i≠0∧48≤c.toNat∧c.toNat≤57)
def jhq (s:Str):Prop:=(1≤s.length∧s.length≤10)∧ ∀i,i<s.length→ji6 i (s.getD i 0)
instance (i:Nat) (c:UInt8):Decidable (ji6 i c):=by unfold ji6;infer_instance
instance (s:Str):Decidable (jhq s):=by unfold jhq;infer_instance
def jdF (seen:List Str):List Str→Int
  |[]=>0
  |s::r=>if¬jhq s then 4 else if s∈seen then 5 else jdF (seen++[s]) r
theorem jdc {seen r:List Str} {s:Str} (h: ¬jhq s):jdF seen (s::r)=4:=by rw [jdF,if_pos h]
theorem jdb {seen r:List Str} {s:Str} (h:jhq s) (h2:s∈seen):jdF seen (s::r)=5:=by rw [jdF,if_neg (fun e=>e h),if_pos h2]
theorem joa {seen r:List Str} {s:Str} (h:jhq s) (h2: ¬s∈seen):jdF seen (s::r)=jdF (seen++[s]) r:=by rw [jdF,if_neg (fun e=>e h),if_neg h2]
def jeA (b:Tb):Int:=if¬(0≤b.wrong∧b.wrong≤2) then 1 else if¬(1≤b.sts.length∧b.sts.length≤3) then 2 else jdF [] b.sts
theorem jdf {b:Tb} (h: ¬(0≤b.wrong∧b.wrong≤2)):jeA b=1:=by rw [jeA,if_pos h]
theorem jde {b:Tb} (h:0≤b.wrong∧b.wrong≤2) (h2: ¬(1≤b.sts.length∧b.sts.length≤3)):jeA b=2:=by rw [jeA,if_neg (fun e=>e h),if_pos h2]
theorem jbj {b:Tb} (h:0≤b.wrong∧b.wrong≤2) (h2:1≤b.sts.length∧b.sts.length≤3):jeA b=jdF [] b.sts:=by rw [jeA,if_neg (fun e=>e h),if_neg (fun e=>e h2)]
def jbu (s:Str):Bool:=ja2 s||decide (s=jdZ)
def jm1 (ls:List Ln):Nat→Option Int
  |0=>none
  |i+1=>some (ls.getD i default).lat
def jhF (p:Option Int) (x:Int):Prop:= ∃y,p=some y∧x≤y
instance (p:Option Int) (x:Int):Decidable (jhF p x):=by
  unfold jhF
  cases p with
  |none=>exact isFalse (by rintro ⟨y,h,_⟩;cases h)
  |some z=>exact decidable_of_iff (x≤z) ⟨fun h=>⟨z,rfl,h⟩,fun ⟨y,h,k⟩=>by cases h;exact k⟩
def jce (ns:Nat) (prev:Option Int):List Ln→Int
  |[]=>0
  |l::r=>if¬(0≤l.lat∧l.lat≤959) then 1 else if jhF prev l.lat then 7 else if l.figs.length≠ns then 2 else if¬ ∀f∈l.figs,jbu f=true then 3 else jce ns (some l.lat) r
theorem jci {l:Ln} {r:List Ln} (h: ¬(0≤l.lat∧l.lat≤959)):jce ns p (l::r)=1:=by rw [jce,if_pos h]
theorem jcf {l:Ln} {r:List Ln} (h:0≤l.lat∧l.lat≤959) (h2:jhF p l.lat):jce ns p (l::r)=7:=by rw [jce,if_neg (fun e=>e h),if_pos h2]
theorem jch {l:Ln} {r:List Ln} (h:0≤l.lat∧l.lat≤959) (h2: ¬jhF p l.lat) (h3:l.figs.length≠ns):jce ns p (l::r)=2:=by rw [jce,if_neg (fun e=>e h),if_neg h2,if_pos h3]
theorem jcg {l:Ln} {r:List Ln} (h:0≤l.lat∧l.lat≤959) (h2: ¬jhF p l.lat) (h3:l.figs.length=ns) (h4: ¬ ∀f∈l.figs,jbu f=true):jce ns p (l::r)=3:=by rw [jce,if_neg (fun e=>e h),if_neg h2,if_neg (fun e=>e h3),if_pos h4]
theorem jhT {l:Ln} {r:List Ln} (h:0≤l.lat∧l.lat≤959) (h2: ¬jhF p l.lat) (h3:l.figs.length=ns) (h4: ∀f∈l.figs,jbu f=true):jce ns p (l::r)=jce ns (some l.lat) r:=by rw [jce,if_neg (fun e=>e h),if_neg h2,if_neg (fun e=>e h3),if_neg (fun e=>e h4)]
def jaF (ns:Nat) (ls:List Ln):Int:=if ls.length>2 then 2 else jce ns none ls
def jdM (s:Str):Nat:=(jan s).countP fun x=>decide (x= -1)
def jeU (l:Ln):Nat:=(l.figs.map jdM).sum
def jeN (ls:List Ln):Nat:=(ls.map jeU).sum
def ji7 (b:Tb):Int:=
  if jaF b.sts.length b.waters≠0 then jaF b.sts.length b.waters
  else if jaF b.sts.length b.butts≠0 then jaF b.sts.length b.butts
  else if jeN b.waters+jeN b.butts>2 then 2 else 0
def tbS (b:Tb):Int:=if jeA b≠0 then jeA b else ji7 b
structure TbSm (b:Tb):Prop where
  sts: ∀s∈b.sts,s.length≤100000
  wat: ∀l∈b.waters,l.figs.length≤1000∧ ∀f∈l.figs,f.length≤100000
  but: ∀l∈b.butts,l.figs.length≤1000∧ ∀f∈l.figs,f.length≤100000
theorem jk0 {α:Type} [Inhabited α] {l:List α} (h:i<l.length):l.drop i=l.getD i default::l.drop (i+1):=by
  rw [vN h,gC,gD h];rfl
end Go.Lo
namespace Go.Lo
open Go.Conc (G)
section
variable {P:Program} {m:Md P B} {g:Option (Nat×Bool)}
theorem k_asE {x:Operand} {v v':Value} (e:v=v') (ho:ops[i]?=some ⟨d,.assign x,ty,pos,af,g⟩) (hw:Wt ops l g) [KHeap kd S h H] [ex:OpV l x v] [PutV l d v' l'] (n:RegK m S ops r l' h C):RegK m S ops ((i,kd)::r) l h C:=by
  subst e
  exact k_as ho hw n
theorem k_ssfrom {t:Nat} {x:Operand} {a:ByteArray} {p:List UInt8} (ho:ops[i]?=some ⟨d,.slice t x (some y) none none,ty,pos,af,g⟩) (hw:Wt ops l g) [kh:KHeap kd S h H] [ex:OpV l x (.string a)] [ey:OpV l y (.int kj (j:Int))] [pa:SV a p] (hu:P.underlying t=some .string) (h1:j≤p.length) [PutV l d (str (p.drop j)) l']
    (q:RegK m S ops r l' h C):RegK m S ops ((i,kd)::r) l h C:=
  RegK.rd (v:=str (p.drop j)) ho hw (by
    simp only [execOp,ex.eq,ey.eq,Gc,vy]
    refine Reads.value ?_
    unfold Instr.sliceAt
    refine Reads.bind (jak hu).reads ?_
    show Reads P B (Instr.slice t (.string a) (some (.int kj j)) none none) H _
    unfold Instr.slice
    refine Reads.bind (jak hu).reads ?_
    rw [pa.eq];simp only [Option.isSome_none,gz,if_false]
    refine Reads.bind (a:=(j,p.length,p.length)) ?_ ?_
    · unfold Instr.sliceBounds
      refine Reads.bind (a:=p.length) (Reads.pure _) ?_
      refine Reads.bind (a:=p.length) (Reads.pure _) ?_
      refine Reads.bind (a:=j) ?_ (Reads.pure _)
      unfold Instr.sliceBound
      refine Reads.bind (a:=(kj,(j:Int))) (Reads.pure _) ?_
      show Reads P B (if 0≤(j:Int)∧(j:Int)≤(p.length:Int) then Pure.pure (j:Int).toNat else boundsPanic kj j p.length .sliceB) H _
      rw [if_pos ⟨by omega,by omega⟩,gm];exact Reads.pure _
    · show Reads P B (Pure.pure (Value.string ((⟨p.toArray⟩:ByteArray).extract j p.length))) H _
      rw [jmO,GE];exact Reads.pure _) q
end
section
variable {P:Program}
def keyCB (P:Program) (t:TypeId):Bool:=match P.underlying t with
  |some (.struct fs)=>(match fs.toList with
    |[f,g,s]=>f.offset==0&&g.offset==1&&s.offset==2&&f.name != "_" &&g.name != "_" &&s.name != "_" &&jlF P f.type&&jlF P g.type&&jlF P s.type&&(match P.underlying f.type with|some .bool=>true|_=>false)&&(match P.underlying s.type with|some (.int .i64)=>true|_=>false)&&(match P.underlying g.type with|some (.int .i64)=>true|_=>false)
    |_=>false)&&!P.stoodInHeld t
  |_=>false
class KeyCT (P:Program) (t:TypeId):Prop where
  eq:keyCB P t=true
theorem KeyCT.spec [k:KeyCT P t]: ∃f g s:Field,P.underlying t=some (.struct #[f,g,s])∧f.offset=0∧g.offset=1∧s.offset=2∧f.name≠ "_" ∧g.name≠ "_" ∧s.name≠ "_" ∧Scal P f.type∧Scal P g.type∧Scal P s.type∧P.underlying f.type=some .bool∧P.underlying s.type=some (.int .i64)∧P.underlying g.type=some (.int .i64)∧P.stoodInHeld t=false:=by
  have:=k.eq
  unfold keyCB at this
  split at this
  · rename_i fs hu
    rw [gL] at this
    obtain ⟨h1,h2⟩:=this
    split at h1
    · rename_i f g s hfs
      simp only [gL,beq_iff_eq,bne_iff_ne,ne_eq] at h1
      obtain ⟨⟨⟨⟨⟨⟨⟨⟨⟨⟨⟨a1,a2⟩,a3⟩,b1⟩,b2⟩,b3⟩,c1⟩,c2⟩,c3⟩,a6⟩,a7⟩,a8⟩:=h1
      refine ⟨f,g,s,?_,a1,a2,a3,b1,b2,b3,⟨c1⟩,⟨c2⟩,⟨c3⟩,?_,?_,?_,by simpa using h2⟩
      · rw [hu];congr 2;exact vE (by rw [hfs])
      · split at a6
        · assumption
        · cases a6
      · split at a7
        · assumption
        · cases a7
      · split at a8
        · assumption
        · cases a8
    · cases h1
  · cases this
theorem jgj (dd:Nat) [KeyCT P t] (c c':Bool) (a b a' b':Int):Reads P B (Op.equalIn (dd+3) t (.agg [.bool c,.int .i64 a,.int .i64 b].toArray) (.agg [.bool c',.int .i64 a',.int .i64 b'].toArray)) h (c==c'&&(a==a'&&b==b')):=by
  obtain ⟨f,g,s,hu,o1,o2,o3,n1,n2,n3,s1,s2,s3,u3,u1,u2,hs⟩:=KeyCT.spec (P:=P) (t:=t)
  unfold Op.equalIn
  refine Reads.bind (jak hu).reads ?_
  refine Reads.bind Reads.program' ?_
  simp only [hs,gz,if_false,pure_bind]
  rw [←Array.forIn_toList];simp only [xO,xe,n1,n2,n3,ne_eq,not_false_eq_true,if_true,o1,o2,o3,bind_assoc]
  refine Reads.bind (jaQ (v:= .bool c) rfl) (Reads.bind (jaQ (v:= .bool c') rfl) (Reads.bind (jqx (dd+1) u3 c c') ?_))
  cases h1:(c==c')
  · simp only [Gk,if_true,pure_bind,Vp];exact Reads.pure _
  · simp only [Gn,gz,if_false,pure_bind,vz,bind_assoc]
    refine Reads.bind (jaQ (v:= .int .i64 a) rfl) (Reads.bind (jaQ (v:= .int .i64 a') rfl) (Reads.bind (jdC (dd+1) u2 a a') ?_))
    cases h2:(a==a')
    · simp only [Gk,if_true,pure_bind,Vp];exact Reads.pure _
    · simp only [Gn,gz,if_false,pure_bind,vz,bind_assoc]
      refine Reads.bind (jaQ (v:= .int .i64 b) rfl) (Reads.bind (jaQ (v:= .int .i64 b') rfl) (Reads.bind (jdC (dd+1) u1 b b') ?_))
      cases h3:(b==b')
      · simp only [Gk,if_true,pure_bind];exact Reads.pure _
      · simp only [Gn,gz,if_false,pure_bind];exact Reads.pure _
end
section
variable {P:Program} {g:Option (Nat×Bool)}
end
def jcT:List Ce→Nat→List MapEntry
  |[],_=>[]
  |c::r,b=>⟨ceV c,.int .i64 (b:Int),b⟩::jcT r (b+1)
def jgL (l:List Ce):Obj:= .map (jcT l 0).toArray l.length
def jiV (c:Ce):List Ce→Nat→Option (Nat×Int)
  |[],_=>none
  |e::r,i=>if e=c then some (i,(i:Int)) else jiV c r (i+1)
theorem je8: ∀(l:List Ce) (b:Nat),(jcT l b).length=l.length
  |[],_=>rfl
  |_::r,b=>by simp [jcT,je8 r]
theorem jhB: ∀(l r:List Ce) (b:Nat),jcT (l++r) b=jcT l b++jcT r (b+l.length)
  |[],r,b=>by simp [jcT]
  |e::l,r,b=>by simp [jcT,jhB l r (b+1),VJ,VE 1]
theorem jgB (c:Ce): ∀(l:List Ce) (i:Nat),jiV c l i=if l.findIdx (fun x=>decide (x=c))<l.length then some (i+l.findIdx (fun x=>decide (x=c)),((i+l.findIdx (fun x=>decide (x=c)):Nat):Int)) else none
  |[],i=>by simp [jiV]
  |e::r,i=>by
    unfold jiV
    rw [List.findIdx_cons];by_cases h:e=c
    · rw [if_pos h];simp [h]
    · rw [if_neg h,jgB c r (i+1)];simp only [decide_eq_false h,cond_false,gV,Nat.add_lt_add_iff_right]
      split
      · rw [show i+1+r.findIdx (fun x=>decide (x=c))=i+(r.findIdx (fun x=>decide (x=c))+1) by omega]
      · rfl
section
variable {P:Program} {m:Md P B} {g:Option (Nat×Bool)}
theorem jeW (dd:Nat) {e:Bool} [KeyCT P t] (c:Bool) (a b:Int):Reads P B (Instr.checkKey e (dd+2) t (.agg [.bool c,.int .i64 a,.int .i64 b].toArray)) h ():=by
  obtain ⟨f,g,s,hu,o1,o2,o3,n1,n2,n3,s1,s2,s3,u3,u1,u2,hs⟩:=KeyCT.spec (P:=P) (t:=t)
  have one: ∀(t:TypeId) (n:Int),P.underlying t=some (.int .i64)→Reads P B (Instr.checkKey e (dd+1) t (.int .i64 n)) h ():=fun t n ht=>by
    unfold Instr.checkKey
    refine Reads.bind (jak ht).reads ?_
    exact Reads.pure _
  have oneb: ∀(t:TypeId) (n:Bool),P.underlying t=some .bool→Reads P B (Instr.checkKey e (dd+1) t (.bool n)) h ():=fun t n ht=>by
    unfold Instr.checkKey
    refine Reads.bind (jak ht).reads ?_
    exact Reads.pure _
  unfold Instr.checkKey
  refine Reads.bind (jak hu).reads ?_
  dsimp only
  rw [←Array.forIn_toList];simp only [xO,xe,n1,n2,n3,ne_eq,not_false_eq_true,if_true,o1,o2,o3,bind_assoc,pure_bind]
  refine Reads.bind (jaQ (v:= .bool c) rfl) (Reads.bind (oneb _ _ u3) ?_)
  refine Reads.bind (jaQ (v:= .int .i64 a) rfl) (Reads.bind (one _ _ u2) ?_)
  refine Reads.bind (jaQ (v:= .int .i64 b) rfl) (Reads.bind (one _ _ u1) ?_)
  exact Reads.pure _
theorem jmA {e c:Ce}:(c.butt==e.butt&&(c.line==e.line&&c.st==e.st))=true↔e=c:=by
  obtain ⟨e1,e2,e3⟩:=e
  obtain ⟨c1,c2,c3⟩:=c
  simp only [gL,beq_iff_eq,Ce.mk.injEq]
  constructor
  · rintro ⟨rfl,rfl,rfl⟩;exact ⟨rfl,rfl,rfl⟩
  · rintro ⟨rfl,rfl,rfl⟩;exact ⟨rfl,rfl,rfl⟩
theorem jhl {t:TypeId} [KeyCT P t] (c:Ce): ∀(l:List Ce) (b:Nat),Reads P B (Instr.findAsking t (ceV c) (jcT l b) b) h ((jiV c l b).map fun p=>(p.1,.int .i64 p.2))
  |[],_=>Reads.pure _
  |e::r,b=>by
    unfold jcT Instr.findAsking jiV
    refine Reads.bind (jgj 9997 c.butt e.butt c.line c.st e.line e.st) ?_
    by_cases hk:e=c
    · rw [if_pos hk,if_pos (jmA.2 hk)];exact Reads.pure _
    · rw [if_neg hk,if_neg (fun y=>hk (jmA.1 y))];exact jhl c r (b+1)
theorem jfP [KeyCT P t] (c:Ce) (l:List Ce):Reads P B (Instr.findKey t (ceV c) (jcT l 0)) h ((jiV c l 0).map fun p=>(p.1,.int .i64 p.2)):=by
  obtain ⟨f,g,s,hu,_⟩:=KeyCT.spec (P:=P) (t:=t)
  unfold Instr.findKey
  refine Reads.bind (jak hu).reads ?_
  cases l with
  |nil=>exact Reads.pure _
  |cons e r=>
    show Reads P B (match Instr.findNow (.struct #[f,g,s]) (ceV c) (jcT (e::r) 0) 0 with|some r=>pure r|none=>_) h _
    have:Instr.findNow (.struct #[f,g,s]) (ceV c) (jcT (e::r) 0) 0=none:=by
      unfold jcT Instr.findNow
      simp [Instr.sameNow]
    rw [this];exact jhl c _ _
theorem k_mkmapC (ho:ops[i]?=some ⟨d,.makeMap t none,ty,pos,af,g⟩) (hw:Wt ops l g) (n: ∀q,RegK m S ops r (put l d (.map (some q))) (h++[⟨true,q,jgL []⟩]) C):RegK m S ops ((i,.free)::r) l h C:=jra ho hw n
def jdi (l:List Ce) (c:Ce):Option Int:=(jiV c l 0).map (·.2)
theorem jma {t k e:Nat} {x:Operand} {rw:Bool} {c:Ce} {cs:List Ce} (ht:P.underlying t=some (.map k e)) (ho:ops[i]?=some ⟨d,.lookup t x y false,ty,pos,af,g⟩) (hw:Wt ops l g) [KHeap kd S h H] [ex:OpV l x (.map (some q))] [ey:OpV l y (.agg [.bool c.butt,.int .i64 c.line,.int .i64 c.st].toArray)]
    [hq:Has H q rw (jgL cs)] [KeyCT P k] [ZeroT P e (.int .i64 0)] [PutV l d (.int .i64 ((jdi cs c).getD 0)) l'] (n:RegK m S ops r l' h C):RegK m S ops ((i,kd)::r) l h C:=
  RegK.rd (v:= .int .i64 ((jdi cs c).getD 0)) ho hw (by
    simp only [execOp,ex.eq,ey.eq]
    refine Reads.value ?_
    unfold Instr.lookup
    refine Reads.bind (jak ht).reads ?_
    dsimp only
    refine Reads.bind (jbA hq.mem rfl) ?_
    dsimp only [jgL]
    refine Reads.bind (Reads.pure _) ?_
    refine Reads.bind (jeW 9998 c.butt c.line c.st) ?_
    refine Reads.bind (jfP c cs) ?_
    unfold jdi
    cases jiV c cs 0 with
    |none=>exact Reads.bind reads_zero (Reads.pure _)
    |some p=>exact Reads.pure _) n
theorem jpk {t k e:Nat} {x:Operand} {rw:Bool} {c:Ce} {cs:List Ce} (ht:P.underlying t=some (.map k e)) (ho:ops[i]?=some ⟨d,.lookup t x y true,ty,pos,af,g⟩) (hw:Wt ops l g) [KHeap kd S h H] [ex:OpV l x (.map (some q))] [ey:OpV l y (.agg [.bool c.butt,.int .i64 c.line,.int .i64 c.st].toArray)]
    [hq:Has H q rw (jgL cs)] [KeyCT P k] [ZeroT P e (.int .i64 0)] (n:RegK m S ops r (put l d (.tuple [.int .i64 ((jdi cs c).getD 0),.bool (jdi cs c).isSome].toArray)) h C):RegK m S ops ((i,kd)::r) l h C:=
  haveI:PutV l d (.tuple [.int .i64 ((jdi cs c).getD 0),.bool (jdi cs c).isSome].toArray) (put l d (.tuple [.int .i64 ((jdi cs c).getD 0),.bool (jdi cs c).isSome].toArray)):=⟨rfl⟩
  RegK.rd (v:= .tuple [.int .i64 ((jdi cs c).getD 0),.bool (jdi cs c).isSome].toArray) ho hw (by
    simp only [execOp,ex.eq,ey.eq]
    refine Reads.value ?_
    unfold Instr.lookup
    refine Reads.bind (jak ht).reads ?_
    dsimp only
    refine Reads.bind (jbA hq.mem rfl) ?_
    dsimp only [jgL]
    refine Reads.bind (Reads.pure _) ?_
    refine Reads.bind (jeW 9998 c.butt c.line c.st) ?_
    refine Reads.bind (jfP c cs) ?_
    unfold jdi
    cases jiV c cs 0 with
    |none=>exact Reads.bind reads_zero (Reads.pure _)
    |some p=>exact Reads.pure _) n
def jpe (cs:List Ce) (c:Ce):Obj:= .map ((jcT cs 0).toArray.push ⟨ceV c,.int .i64 0,cs.length⟩) (cs.length+1)
theorem jrz {cs:List Ce} {c:Ce} (hn:c∉cs):jiV c cs 0=none:=by
  rw [jgB,if_neg];intro hlt
  have:=List.findIdx_getElem (w:=hlt)
  exact hn (by have e:=of_decide_eq_true this;rw [←e];exact vF _)
theorem jnf {t k e:Nat} {x:Operand} {rw:Bool} {c:Ce} {cs:List Ce} (ht:P.underlying t=some (.map k e)) (ho:ops[i]?=some ⟨d,.mapEntry t x y,ty,pos,af,g⟩) (hw:Wt ops l g) [ks:KSub kd S h'] [ex:OpV l x (.map (some q))] [ey:OpV l y (.agg [.bool c.butt,.int .i64 c.line,.int .i64 c.st].toArray)]
    (hn:c∉cs) [hq:Has h q rw (jgL cs)] [KeyCT P k] [ZeroT P e (.int .i64 0)] [u:Upd h q (jpe cs c) h'] (n:RegK m S ops r (put l d (.tuple [.int .i64 0,.int .i64 (cs.length:Int)].toArray)) h' C):RegK m S ops ((i,kd)::r) l h C:=by
  obtain ⟨o1,h1,h2,e1,e2⟩:=u.ex
  have hkd:kd= .keep∨kd= .free:=ks.eq.imp (·.1) id
  have hsub:kd= .free∨S.Sublist h':=ks.eq.elim (fun x=> .inr x.2) .inl
  refine RegK.ke hkd ho hw ?_
  refine jgN hq.mem ⟨o1,h1,h2,e1,rfl⟩ ?_
  simp only [execOp,ex.eq,ey.eq]
  refine Tri.bind ?_
  unfold Instr.mapEntry
  refine Tri.bind ((jak ht).reads.tri ?_)
  refine Tri.bind ((jbA (o:=jgL cs) (rw:=true) zS rfl).tri ?_)
  refine Tri.bind ((jeW 9998 c.butt c.line c.st).tri ?_)
  refine Tri.bind ((jfP (t:=k) c cs).tri ?_)
  rw [jrz hn];simp only [vy]
  refine Tri.bind (reads_zero.tri ?_)
  refine Tri.bind (jbI rfl rfl ?_)
  refine Tri.pure (Tri.pure ?_)
  show (kd= .free∨S.Sublist (h1++⟨true,q,jpe cs c⟩::h2))∧RegK m S ops r (put l d (.tuple #[.int .i64 0,.int .i64 (cs.length:Int)])) (h1++⟨true,q,jpe cs c⟩::h2) C
  rw [←e2];exact ⟨hsub,n⟩
theorem jkP {t:Nat} {x z:Operand} {rw:Bool} {c:Ce} {w:Int} {cs:List Ce} (ho:ops[i]?=some ⟨none,.entryStore t x y z,ty,pos,af,g⟩) (hw:Wt ops l g) [ks:KSub kd S h'] [ex:OpV l x (.map (some q))] [ey:OpV l y (.int .i64 (cs.length:Int))] [ez:OpV l z (.int .i64 w)]
    [hq:Has h q rw (jpe cs c)] (hwl:w=(cs.length:Int)) [u:Upd h q (jgL (cs++[c])) h'] (n:RegK m S ops r l h' C):RegK m S ops ((i,kd)::r) l h C:=by
  subst hwl
  obtain ⟨o1,h1,h2,e1,e2⟩:=u.ex
  have hkd:kd= .keep∨kd= .free:=ks.eq.imp (·.1) id
  have hsub:kd= .free∨S.Sublist h':=ks.eq.elim (fun x=> .inr x.2) .inl
  refine RegK.ke hkd ho hw ?_
  refine jgN hq.mem ⟨o1,h1,h2,e1,rfl⟩ ?_
  simp only [execOp,ex.eq,ey.eq,ez.eq]
  refine Tri.bind ?_
  unfold Instr.entryStore
  refine Tri.bind ((jbA (o:=jpe cs c) (rw:=true) zS rfl).tri ?_)
  refine Tri.bind (Tri.pure (a:=(cs.length:Int)) ?_)
  have hb: ∀(l:List Ce) (b:Nat),∀e∈jcT l b,e.born<b+l.length:=by
    intro l
    induction l with
    |nil=>intro b e he;simp [jcT] at he
    |cons a l ih=>
      intro b e he
      rw [jcT,gU] at he
      rcases he with rfl|he
      · simp
      · have:=ih (b+1) e he
        simp only [gV];omega
  have hi':((jcT cs 0).toArray.push ⟨ceV c,.int .i64 0,cs.length⟩).findIdx? (fun e=>(e.born:Int)==(cs.length:Int))=some cs.length:=by
    rw [List.push_toArray,List.findIdx?_toArray,List.findIdx?_append,List.findIdx?_eq_none_iff.2 (fun e he=>by
      have:=hb cs 0 e he
      simp only [beq_eq_false_iff_ne,ne_eq];omega)]
    simp [je8]
  simp only [jpe,hi']
  refine jbI rfl rfl ?_
  refine Tri.pure ?_
  have e3:(((jcT cs 0).toArray.push ⟨ceV c,.int .i64 0,cs.length⟩).modify cs.length fun e=>{e with val:= .int .i64 (cs.length:Int)})=(jcT (cs++[c]) 0).toArray:=by
    apply Array.ext_getElem?
    intro j
    rw [Array.getElem?_modify,jhB,List.push_toArray,gd,gd,Gs,Gs,je8];by_cases e:cs.length=j
    · subst e;simp [jcT]
    · rw [if_neg e];split
      · rfl
      · rename_i hh
        rw [gh zN,gh (by simp [jcT];omega)]
  rw [e3];have:(Obj.map (jcT (cs++[c]) 0).toArray (cs.length+1))=jgL (cs++[c]):=by simp [jgL]
  show (kd= .free∨S.Sublist (h1++⟨true,q,Obj.map (jcT (cs++[c]) 0).toArray (cs.length+1)⟩::h2))∧RegK m S ops r _ (h1++⟨true,q,Obj.map (jcT (cs++[c]) 0).toArray (cs.length+1)⟩::h2) C
  rw [this,←e2];exact ⟨hsub,n⟩
end
end Go.Lo
namespace Go.Lo
structure Cd where
  st:Int
  butt:Bool
  lat:Int
  can:List Int
  deriving DecidableEq,Inhabited
abbrev Bo:=List (Option Int)
def riL (la lc ma mc:Int):Bool:=decide (la=lc)||(decide (ma≤mc)==decide (la<lc))||decide (ma=mc)
def riX (la lc ma mc:Int):Bool:=if mc<la then decide (ma≥lc) else decide (mc=la)||decide (ma≤lc)
def riC (a c:Cd) (ma mc:Int):Bool:=
  if a.st≠c.st then true
  else if a.butt=c.butt then riL a.lat c.lat ma mc
  else if a.butt then riX c.lat a.lat mc ma
  else riX a.lat c.lat ma mc
theorem jmY:riL la lc ma mc=true↔la=lc∨(la<lc∧ma≤mc)∨(lc<la∧mc≤ma):=by
  unfold riL
  by_cases h1:la=lc<;>by_cases h2:la<lc<;>by_cases h3:ma≤mc<;>by_cases h4:ma=mc<;>simp [h1,h2,h3,h4]<;>omega
theorem riX_iff:riX la lc ma mc=true↔(mc<la→lc≤ma)∧(la<mc→ma≤lc):=by
  unfold riX
  by_cases h1:mc<la
  · rw [if_pos h1];simp;omega
  · rw [if_neg h1];simp;omega
theorem riL_comm:riL la lc ma mc=riL lc la mc ma:=by
  rw [Vd,jmY,jmY];omega
theorem jfp {a c:Cd} {m n:Int}:riC a c m n=riC c a n m:=by
  unfold riC
  by_cases h1:a.st=c.st
  · rw [if_neg (show¬(a.st≠c.st) from fun h=>h h1),if_neg (show¬(c.st≠a.st) from fun h=>h h1.symm)];by_cases h2:a.butt=c.butt
    · rw [if_pos h2,if_pos h2.symm];exact riL_comm
    · rw [if_neg h2,if_neg (show¬(c.butt=a.butt) from fun e=>h2 e.symm)];cases ha:a.butt<;>cases hc:c.butt<;>simp_all
  · rw [if_pos h1,if_pos fun e=>h1 e.symm]
def jaG (d:Cd) (v:Int):List Cd→Bo→Bool
  |e::D,some u::x=>riC d e v u&&jaG d v D x
  |_::D,none::x=>jaG d v D x
  |_,_=>true
def okA:List Cd→Bo→Bool
  |[],[]=>true
  |d::D,some v::x=>decide (v∈d.can)&&jaG d v D x&&okA D x
  |_::D,none::x=>okA D x
  |_,_=>false
def jgZ (x:Bo):Nat:=x.countP (·.isNone)
def jbD:List Cd→Nat→List Bo
  |[],_=>[[]]
  |d::D,0=>d.can.flatMap fun v=>((jbD D 0).filter (jaG d v D)).map (some v:: ·)
  |d::D,w+1=>(d.can.flatMap fun v=>((jbD D (w+1)).filter (jaG d v D)).map (some v:: ·))++(jbD D w).map (none:: ·)
def jg1 (D:List Cd):Nat→List Bo
  |0=>[]
  |w+1=>(jbD D w).map (none:: ·)
theorem jct {d:Cd} {D:List Cd} {w:Nat}:jbD (d::D) w=(d.can.flatMap fun v=>((jbD D w).filter (jaG d v D)).map (some v:: ·))++jg1 D w:=by
  cases w with
  |zero=>simp [jbD,jg1]
  |succ w=>rfl
theorem jfw {w:Nat}:jbD [] w=[[]]:=by cases w<;>rfl
@[simp] theorem nones_nil:jgZ []=0:=rfl
@[simp] theorem nones_some {v:Int} {x:Bo}:jgZ (some v::x)=jgZ x:=by simp [jgZ]
@[simp] theorem nones_none {x:Bo}:jgZ (none::x)=jgZ x+1:=by simp [jgZ]
theorem jbJ: ∀{D:List Cd} {w:Nat} {x:Bo},x∈jbD D w↔okA D x=true∧jgZ x≤w
  |[],w,[]=>by simp [jfw,okA]
  |[],w,_::_=>by simp [jfw,okA]
  |d::D,w,[]=>by
    simp only [jct,okA,gQ,vn,gR]
    constructor
    · rintro (⟨v,_,y,_,h⟩|h)
      · cases h
      · cases w with
        |zero=>cases h
        |succ w=>simp [jg1] at h
    · rintro ⟨h,_⟩;cases h
  |d::D,w,some v::x=>by
    simp only [jct,okA,gQ,vn,gR,nones_some,gL,decide_eq_true_eq]
    constructor
    · rintro (⟨u,hu,y,hy,h⟩|h)
      · injection h with h1 h2
        injection h1 with h1
        subst h1;subst h2
        rw [ga,jbJ] at hy
        exact ⟨⟨⟨hu,hy.2⟩,hy.1.1⟩,hy.1.2⟩
      · cases w with
        |zero=>cases h
        |succ w=>simp [jg1] at h
    · rintro ⟨⟨⟨h1,h2⟩,h3⟩,h4⟩;exact .inl ⟨v,h1,x,by rw [ga,jbJ];exact ⟨⟨h3,h4⟩,h2⟩,rfl⟩
  |d::D,w,none::x=>by
    simp only [jct,okA,gQ,vn,gR,nones_none]
    constructor
    · rintro (⟨u,hu,y,hy,h⟩|h)
      · cases h
      · cases w with
        |zero=>cases h
        |succ w=>
          simp only [jg1,gR,Ge,true_and,exists_eq_right,jbJ] at h
          exact ⟨h.1,by omega⟩
    · rintro ⟨h1,h2⟩;right
      cases w with
      |zero=>omega
      |succ w=>
        simp only [jg1,gR,Ge,true_and,exists_eq_right,jbJ]
        exact ⟨h1,by omega⟩
theorem jcy: ∀{D:List Cd} {x:Bo},okA D x=true→x.length=D.length
  |[],[],_=>rfl
  |[],_::_,h=>by simp [okA] at h
  |_::_,[],h=>by simp [okA] at h
  |d::D,some v::x,h=>by
    simp only [okA,gL] at h
    simp [jcy h.2]
  |d::D,none::x,h=>by
    simp only [okA] at h
    simp [jcy h]
theorem jnu {D:List Cd} {x:Bo} (h:x∈jbD D 0): ∀o∈x,o≠none:=by
  rw [jbJ] at h
  intro o ho e
  subst e
  have:0<jgZ x:=List.countP_pos_iff.2 ⟨none,ho,rfl⟩
  omega
abbrev dA (D:List Cd) (i:Nat):Cd:=D.getD i default
abbrev xA (x:Bo) (i:Nat):Option Int:=x.getD i none
theorem jcX {d:Cd} {v:Int}: ∀{D:List Cd} {x:Bo},x.length=D.length→(jaG d v D x=true↔ ∀j u,xA x j=some u→riC d (dA D j) v u=true)
  |[],[],_=>by simp [jaG]
  |[],_::_,h=>by simp at h
  |_::_,[],h=>by simp at h
  |e::D,some w::x,h=>by
    simp only [jaG,gL]
    rw [jcX (by simpa using h)];constructor
    · rintro ⟨h1,h2⟩ j u hj;cases j with
      |zero=>
        have:w=u:=by simpa using hj
        subst this;simpa using h1
      |succ j=>simpa using h2 j u (by simpa using hj)
    · intro hh
      exact ⟨by simpa using hh 0 w zS,fun j u hj=>by simpa using hh (j+1) u (by simpa using hj)⟩
  |e::D,none::x,h=>by
    simp only [jaG]
    rw [jcX (by simpa using h)];constructor
    · intro h2 j u hj
      cases j with
      |zero=>simp at hj
      |succ j=>simpa using h2 j u (by simpa using hj)
    · intro hh j u hj
      simpa using hh (j+1) u (by simpa using hj)
theorem jiA: ∀{D:List Cd} {x:Bo},okA D x=true↔x.length=D.length∧(∀i v,xA x i=some v→v∈(dA D i).can)∧ ∀i j v u,i<j→xA x i=some v→xA x j=some u→riC (dA D i) (dA D j) v u=true
  |[],[]=>by simp [okA]
  |[],_::_=>by simp [okA]
  |_::_,[]=>by simp [okA]
  |d::D,some w::x=>by
    simp only [okA,gL,decide_eq_true_eq]
    constructor
    · rintro ⟨⟨h1,h2⟩,h3⟩;have hl:=jcy h3
      rw [jcX hl] at h2
      rw [jiA] at h3
      refine ⟨by simp [hl],fun i v hi=>?_,fun i j v u hij hi hj=>?_⟩
      · cases i with
        |zero=>
          have:w=v:=by simpa using hi
          subst this;simpa using h1
        |succ i=>simpa using h3.2.1 i v (by simpa using hi)
      · cases j with
        |zero=>omega
        |succ j=>
          cases i with
          |zero=>
            have:w=v:=by simpa using hi
            subst this;simpa using h2 j u (by simpa using hj)
          |succ i=>simpa using h3.2.2 i j v u zO (by simpa using hi) (by simpa using hj)
    · rintro ⟨hl,h1,h2⟩;have hl':x.length=D.length:=by simpa using hl
      refine ⟨⟨by simpa using h1 0 w zS,?_⟩,?_⟩
      · rw [jcX hl'];exact fun j u hj=>by simpa using h2 0 (j+1) w u zO zS (by simpa using hj)
      · rw [jiA];exact ⟨hl',fun i v hi=>by simpa using h1 (i+1) v (by simpa using hi),fun i j v u hij hi hj=>by simpa using h2 (i+1) (j+1) v u zO (by simpa using hi) (by simpa using hj)⟩
  |d::D,none::x=>by
    simp only [okA]
    rw [jiA];constructor
    · rintro ⟨hl,h1,h2⟩;refine ⟨by simp [hl],fun i v hi=>?_,fun i j v u hij hi hj=>?_⟩
      · cases i with
        |zero=>simp at hi
        |succ i=>simpa using h1 i v (by simpa using hi)
      · cases j with
        |zero=>omega
        |succ j=>
          cases i with
          |zero=>simp at hi
          |succ i=>simpa using h2 i j v u zO (by simpa using hi) (by simpa using hj)
    · rintro ⟨hl,h1,h2⟩;exact ⟨by simpa using hl,fun i v hi=>by simpa using h1 (i+1) v (by simpa using hi),fun i j v u hij hi hj=>by simpa using h2 (i+1) (j+1) v u zO (by simpa using hi) (by simpa using hj)⟩
def jc3 (x:Bo):List Bool:=x.map (·.isNone)
def jfT:List Cd→List Bool→List Bo
  |[],_=>[[]]
  |_::D,true::p=>(jfT D p).map (none:: ·)
  |d::D,false::p=>d.can.flatMap fun v=>((jfT D p).filter (jaG d v D)).map (some v:: ·)
  |d::D,[]=>d.can.flatMap fun v=>((jfT D []).filter (jaG d v D)).map (some v:: ·)
theorem filter_comm' {α:Type} (p q:α→Bool) (l:List α):(l.filter p).filter q=(l.filter q).filter p:=by
  rw [VK,VK];exact vK fun x _=>Bool.and_comm ..
theorem jet: ∀{D:List Cd} {w:Nat} {p:List Bool},p.length=D.length→p.count true≤w→(jbD D w).filter (fun x=>decide (jc3 x=p))=jfT D p
  |[],w,[],_,_=>by simp [jfw,jfT,jc3]
  |[],w,_::_,h,_=>by simp at h
  |_::_,w,[],h,_=>by simp at h
  |d::D,w,false::p,h,hc=>by
    simp only [jct,jfT,GA,Vc]
    have e2:List.filter (fun x=>decide (jc3 x=false::p)) (jg1 D w)=[]:=by
      cases w with
      |zero=>rfl
      |succ w=>
        simp only [jg1,VL,xW,VN]
        intro x _
        simp [jc3]
    rw [e2,ge];congr 1
    funext v
    rw [VL];congr 1
    rw [←jet (D:=D) (w:=w) (p:=p) (by simpa using h) (by simpa using hc),filter_comm'];congr 1
    refine vK fun x _=>?_
    simp only [jc3,Function.comp,gx,Option.isNone_some,Ge,true_and]
    congr
  |d::D,w,true::p,h,hc=>by
    simp only [jct,jfT,GA,Vc]
    have e1:(d.can.flatMap fun v=>List.filter (fun x=>decide (jc3 x=true::p)) (((jbD D w).filter (jaG d v D)).map (some v:: ·)))=[]:=by
      rw [List.flatMap_eq_nil_iff];intro v _
      rw [VL,xW,VN];intro x _
      simp [jc3]
    rw [e1,GJ];cases w with
    |zero=>simp at hc
    |succ w=>
      simp only [jg1,VL]
      congr 1
      rw [←jet (D:=D) (w:=w) (p:=p) (by simpa using h) (by simp at hc;omega)];refine vK fun x _=>?_
      simp only [jc3,Function.comp,gx,Option.isNone_none,Ge,true_and]
      congr
theorem jkK {D:List Cd} {p:List Bool} {x:Bo} (hp:p.length=D.length):x∈jfT D p↔okA D x=true∧jc3 x=p:=by
  rw [←jet (w:=p.count true) hp (gM _),ga,jbJ];simp only [decide_eq_true_eq]
  constructor
  · rintro ⟨⟨h1,_⟩,h2⟩;exact ⟨h1,h2⟩
  · rintro ⟨h1,h2⟩;refine ⟨⟨h1,?_⟩,h2⟩
    rw [←h2];refine Nat.le_of_eq ?_
    unfold jgZ jc3
    rw [List.count,xP];exact Vr fun o _=>by simp
theorem jqQ {x:Bo}:(jc3 x).count true=jgZ x:=by
  unfold jgZ jc3
  rw [List.count,xP];exact Vr fun o _=>by simp
theorem jnJ {κ:Type} [DecidableEq κ] (c:κ) (n:Nat): ∀{K:List κ},K.Nodup→(K.map fun k=>if c=k then n else 0).sum=if c∈K then n else 0
  |[],_=>by simp
  |k::K,h=>by
    rw [ve] at h
    rw [gx,vH,jnJ c n h.2];by_cases hc:c=k
    · subst hc
      rw [if_pos rfl,if_neg h.1,if_pos zS];rfl
    · rw [if_neg hc];by_cases hm:c∈K
      · rw [if_pos hm,if_pos (by simp [hm])];omega
      · rw [if_neg hm,if_neg (by simp [hc,hm])]
theorem jqD {α κ:Type} [DecidableEq α] [DecidableEq κ] (f:α→κ) {K:List κ} (hK:K.Nodup) {l:List α} (h: ∀x∈l,f x∈K):l.Perm (K.flatMap fun k=>l.filter fun x=>decide (f x=k)):=by
  rw [List.perm_iff_count];intro a
  rw [List.count_flatMap];have e:(K.map (List.count a∘fun k=>l.filter fun x=>decide (f x=k)))=K.map fun k=>if f a=k then l.count a else 0:=by
    refine GP fun k _=>?_
    show List.count a (l.filter _)=_
    by_cases hk:f a=k
    · rw [if_pos hk,List.count_filter (by simpa using hk)]
    · rw [if_neg hk,List.count_eq_zero];simp [hk]
  rw [e,jnJ _ _ hK];by_cases hm:f a∈K
  · rw [if_pos hm]
  · rw [if_neg hm,List.count_eq_zero];exact fun ha=>hm (h a ha)
theorem jeb {D:List Cd} {w:Nat} {x:Bo} (h:x∈jbD D w):x.length=D.length:=jcy (jbJ.1 h).1
def jbb:List Cd→Bo→List Cd→Bo→Bool
  |d::D,some v::x,C,y=>jaG d v C y&&jbb D x C y
  |_::D,none::x,C,y=>jbb D x C y
  |_,_,_,_=>true
theorem jfu {C:List Cd} {y:Bo} (hy:y.length=C.length): ∀{D:List Cd} {x:Bo},x.length=D.length→(jbb D x C y=true↔ ∀i j v u,xA x i=some v→xA y j=some u→riC (dA D i) (dA C j) v u=true)
  |[],[],_=>by simp [jbb]
  |[],_::_,h=>by simp at h
  |_::_,[],h=>by simp at h
  |e::D,some w::x,h=>by
    simp only [jbb,gL]
    rw [jcX hy,jfu hy (by simpa using h)];constructor
    · rintro ⟨h1,h2⟩ i j v u hi hj;cases i with
      |zero=>
        have:w=v:=by simpa using hi
        subst this;simpa using h1 j u hj
      |succ i=>simpa using h2 i j v u (by simpa using hi) hj
    · intro hh
      exact ⟨fun j u hj=>by simpa using hh 0 j w u zS hj,fun i j v u hi hj=>by simpa using hh (i+1) j v u (by simpa using hi) hj⟩
  |e::D,none::x,h=>by
    simp only [jbb]
    rw [jfu hy (by simpa using h)];constructor
    · intro h2 i j v u hi hj
      cases i with
      |zero=>simp at hi
      |succ i=>simpa using h2 i j v u (by simpa using hi) hj
    · intro hh i j v u hi hj
      simpa using hh (i+1) j v u (by simpa using hi) hj
def jbe {α:Type}:List Bool→List α→List α
  |true::p,a::l=>a::jbe p l
  |false::p,_::l=>jbe p l
  |_,_=>[]
theorem jdL {d:Cd} {v:Int}: ∀{p:List Bool} {D:List Cd} {x:Bo},x.length=D.length→jaG d v D x=true→jaG d v (jbe p D) (jbe p x)=true
  |[],D,x,_,_=>by cases D<;>cases x<;>rfl
  |b::p,[],[],_,_=>by cases b<;>rfl
  |_::_,[],_::_,h,_=>by simp at h
  |_::_,_::_,[],h,_=>by simp at h
  |true::p,e::D,some u::x,h,ha=>by
    simp only [jbe,jaG,gL] at ha⊢
    exact ⟨ha.1,jdL (by simpa using h) ha.2⟩
  |false::p,e::D,some u::x,h,ha=>by
    simp only [jbe,jaG,gL] at ha⊢
    exact jdL (by simpa using h) ha.2
  |true::p,e::D,none::x,h,ha=>by
    simp only [jbe,jaG] at ha⊢
    exact jdL (by simpa using h) ha
  |false::p,e::D,none::x,h,ha=>by
    simp only [jbe,jaG] at ha⊢
    exact jdL (by simpa using h) ha
theorem jgm: ∀{p:List Bool} {D:List Cd} {x:Bo},p.length=D.length→okA D x=true→okA (jbe p D) (jbe p x)=true
  |[],[],[],_,_=>rfl
  |[],[],_::_,_,h=>by simp [okA] at h
  |[],_::_,_,h,_=>by simp at h
  |_::_,[],_,h,_=>by simp at h
  |_::_,_::_,[],_,h=>by simp [okA] at h
  |true::p,d::D,some v::x,h,ha=>by
    simp only [okA,gL] at ha
    have hl:=jcy ha.2
    simp only [jbe,okA,gL]
    exact ⟨⟨ha.1.1,jdL hl ha.1.2⟩,jgm (by simpa using h) ha.2⟩
  |false::p,d::D,some v::x,h,ha=>by
    simp only [okA,gL] at ha
    simp only [jbe]
    exact jgm (by simpa using h) ha.2
  |true::p,d::D,none::x,h,ha=>by
    simp only [okA] at ha
    simp only [jbe,okA]
    exact jgm (by simpa using h) ha
  |false::p,d::D,none::x,h,ha=>by
    simp only [okA] at ha
    simp only [jbe]
    exact jgm (by simpa using h) ha
def jdB:List Bool→Bo→Bo
  |true::p,o::x=>o::jdB p x
  |true::p,[]=>none::jdB p []
  |false::p,x=>none::jdB p x
  |[],_=>[]
theorem jds {d:Cd} {v:Int}: ∀{p:List Bool} {D:List Cd} {x:Bo},p.length=D.length→x.length=(jbe p D).length→jaG d v D (jdB p x)=jaG d v (jbe p D) x
  |[],[],[],_,_=>rfl
  |[],[],_::_,_,h=>by simp [jbe] at h
  |[],_::_,_,h,_=>by simp at h
  |_::_,[],_,h,_=>by simp at h
  |true::p,e::D,[],_,h=>by simp [jbe] at h
  |true::p,e::D,some u::x,h,hx=>by
    simp only [jdB,jbe,jaG]
    rw [jds (by simpa using h) (by simpa [jbe] using hx)]
  |true::p,e::D,none::x,h,hx=>by
    simp only [jdB,jbe,jaG]
    rw [jds (by simpa using h) (by simpa [jbe] using hx)]
  |false::p,e::D,x,h,hx=>by
    simp only [jdB,jbe,jaG]
    rw [jds (by simpa using h) (by simpa [jbe] using hx)]
theorem jfq: ∀{p:List Bool} {D:List Cd} {x:Bo},p.length=D.length→okA (jbe p D) x=true→okA D (jdB p x)=true
  |[],[],[],_,_=>rfl
  |[],[],_::_,_,h=>by simp [jbe,okA] at h
  |[],_::_,_,h,_=>by simp at h
  |_::_,[],_,h,_=>by simp at h
  |true::p,e::D,[],_,h=>by simp [jbe,okA] at h
  |true::p,e::D,some u::x,h,hx=>by
    simp only [jbe,okA,gL] at hx
    have hl:=jcy hx.2
    simp only [jdB,okA,gL]
    exact ⟨⟨hx.1.1,by rw [jds (by simpa using h) hl];exact hx.1.2⟩,jfq (by simpa using h) hx.2⟩
  |true::p,e::D,none::x,h,hx=>by
    simp only [jbe,okA] at hx
    simp only [jdB,okA]
    exact jfq (by simpa using h) hx
  |false::p,e::D,x,h,hx=>by
    simp only [jbe] at hx
    simp only [jdB,okA]
    exact jfq (by simpa using h) hx
theorem jgV: ∀{p:List Bool} {x:Bo},(∀o∈x,o≠none)→x.length=p.count true→jc3 (jdB p x)=p.map (!·)
  |[],x,_,_=>rfl
  |true::p,[],_,h=>by simp at h
  |true::p,some v::x,hx,h=>by
    simp only [jdB,jc3,gx,Option.isNone_some,Gn]
    congr 1
    exact jgV (fun o ho=>hx o (by simp [ho])) (by simpa using h)
  |true::p,none::x,hx,h=>absurd rfl (hx none zS)
  |false::p,x,hx,h=>by
    simp only [jdB,jc3,gx,Option.isNone_none,Gk]
    congr 1
    exact jgV hx (by simpa using h)
theorem jfS {α:Type}: ∀{p:List Bool} {l:List α},p.length=l.length→(jbe p l).length=p.count true
  |[],[],_=>rfl
  |[],_::_,h=>by simp at h
  |_::_,[],h=>by simp at h
  |true::p,a::l,h=>by simp only [jbe,gV];rw [jfS (by simpa using h)];simp
  |false::p,a::l,h=>by simp only [jbe];rw [jfS (by simpa using h)];simp
theorem jiv: ∀{p:List Bool} {x:Bo},jc3 x=p.map (!·)→ ∀o∈jbe p x,o≠none
  |[],x,h,o,ho=>by cases x<;>simp [jbe] at ho
  |b::p,[],h,o,ho=>by cases b<;>simp [jbe] at ho
  |true::p,a::x,h,o,ho=>by
    simp only [jc3,gx,Gn,Ge] at h
    simp only [jbe,gU] at ho
    rcases ho with rfl|ho
    · intro e;rw [e] at h;simp at h
    · exact jiv h.2 o ho
  |false::p,a::x,h,o,ho=>by
    simp only [jc3,gx,Gk,Ge] at h
    simp only [jbe] at ho
    exact jiv h.2 o ho
def jbt (D:List Cd):Bool:=!(jbD D 0).isEmpty
theorem joV {D:List Cd}:jbt D=true↔ ∃x,okA D x=true∧ ∀o∈x,o≠none:=by
  unfold jbt
  rw [vS,List.isEmpty_eq_false_iff_exists_mem];constructor
  · rintro ⟨x,hx⟩;exact ⟨x,(jbJ.1 hx).1,jnu hx⟩
  · rintro ⟨x,h1,h2⟩;refine ⟨x,jbJ.2 ⟨h1,?_⟩⟩
    refine Nat.le_of_eq (xX.2 fun o ho=>?_)
    have:=h2 o ho
    cases o<;>simp_all
theorem jgW {D:List Cd} {p:List Bool} (hp:p.length=D.length):(jfT D (p.map (!·))≠[])↔jbt (jbe p D)=true:=by
  rw [joV];constructor
  · intro h
    obtain ⟨x,hx⟩:=List.exists_mem_of_ne_nil _ h
    rw [jkK (by simpa using hp)] at hx
    exact ⟨jbe p x,jgm hp hx.1,jiv hx.2⟩
  · rintro ⟨y,h1,h2⟩;have:jdB p y∈jfT D (p.map (!·)):=by
      rw [jkK (by simpa using hp)];exact ⟨jfq hp h1,jgV h2 (by rw [jcy h1,jfS hp])⟩
    exact fun e=>by rw [e] at this;cases this
def jd2 (b:Tb) (c:Ce):Cd:=⟨c.st,c.butt,(jbg b c).lat,jdN (jbU b c)⟩
def cdT (b:Tb):List Cd:=(jaa b).map (jd2 b)
theorem jau (b:Tb):(cdT b).length=(jaa b).length:=by simp [cdT]
theorem jaB (b:Tb) (h:i<(jaa b).length):dA (cdT b) i=jd2 b ((jaa b).getD i default):=by
  simp only [cdT,gC,gX,gD h]
  rfl
theorem riC_of (b:Tb) (a c:Ce) (ma mc:Int):riC (jd2 b a) (jd2 b c) ma mc=jaw b a c ma mc:=rfl
def jdT (D:List Cd) (can must:Nat):Nat→Nat→Bo→List Bo
  |0,_,x=>[x]
  |f+1,w,x=>
    (if must.testBit x.length then [] else ((dA D x.length).can.filter fun v=>jaG (dA D x.length) v D x).flatMap fun v=>jdT D can must f w (x++[some v]))++
    (if w=0∨can.testBit x.length=false then [] else jdT D can must f (w-1) (x++[none]))
def jgy (D:List Cd) (can must f w:Nat) (x:Bo) (j:Nat):List Bo:=
  (((dA D x.length).can.take j).filter fun v=>jaG (dA D x.length) v D x).flatMap fun v=>jdT D can must f w (x++[some v])
theorem jpp (D:List Cd) (can must f w:Nat) (x:Bo):jgy D can must f w x 0=[]:=rfl
theorem jrw {D:List Cd} {f w:Nat} {x:Bo} (hj:j<(dA D x.length).can.length) (h:jaG (dA D x.length) ((dA D x.length).can.getD j 0) D x=true):jgy D can must f w x (j+1)=jgy D can must f w x j++jdT D can must f w (x++[some ((dA D x.length).can.getD j 0)]):=by
  unfold jgy
  rw [Gh,gD hj,Gq,GA,GQ];have e:(dA D x.length).can[j]=(dA D x.length).can.getD j 0:=by rw [gC,gD hj];rfl
  rw [e,Gt,if_pos h];simp
theorem genMJ_no {D:List Cd} {f w:Nat} {x:Bo} (hj:j<(dA D x.length).can.length) (h:jaG (dA D x.length) ((dA D x.length).can.getD j 0) D x=false):jgy D can must f w x (j+1)=jgy D can must f w x j:=by
  unfold jgy
  rw [Gh,gD hj,Gq,GA,GQ];have e:(dA D x.length).can[j]=(dA D x.length).can.getD j 0:=by rw [gC,gD hj];rfl
  rw [e,Gt,if_neg (by rw [h];simp)];simp
theorem jj0 {D:List Cd} {f w:Nat} {x:Bo} (hj:(dA D x.length).can.length≤j):jgy D can must f w x j=((dA D x.length).can.filter fun v=>jaG (dA D x.length) v D x).flatMap fun v=>jdT D can must f w (x++[some v]):=by
  rw [jgy,gq hj]
theorem genMJ_le {D:List Cd} {f w:Nat} {x:Bo} (hm:must.testBit x.length=false):(jgy D can must f w x j).length≤(jdT D can must (f+1) w x).length:=by
  have e: ∀l:List Int,((l.filter fun v=>jaG (dA D x.length) v D x).flatMap fun v=>jdT D can must f w (x++[some v]))=(((l.take j).filter fun v=>jaG (dA D x.length) v D x).flatMap fun v=>jdT D can must f w (x++[some v]))++(((l.drop j).filter fun v=>jaG (dA D x.length) v D x).flatMap fun v=>jdT D can must f w (x++[some v])):=by
    intro l
    rw [←GQ,←GA,vA]
  rw [jdT,if_neg (by rw [hm];simp),e (dA D x.length).can,jgy];simp only [gH]
  omega
theorem jiP {D:List Cd} {f w:Nat} {x:Bo} (hm:must.testBit x.length=true):jdT D can must (f+1) w x=if w=0∨can.testBit x.length=false then [] else jdT D can must f (w-1) (x++[none]):=by
  rw [jdT,if_pos hm,GJ]
theorem jrv {D:List Cd} {f w:Nat} {x:Bo} (hm:must.testBit x.length=false) (hj:(dA D x.length).can.length≤j):jdT D can must (f+1) w x=jgy D can must f w x j++if w=0∨can.testBit x.length=false then [] else jdT D can must f (w-1) (x++[none]):=by
  rw [jdT,if_neg (by rw [hm];simp),jj0 hj]
theorem jeE {d:Cd} {v:Int} {C:List Cd} {y:Bo}: ∀{E:List Cd} {x:Bo},x.length=E.length→jbb E x (d::C) (some v::y)=(jaG d v E x&&jbb E x C y)
  |[],[],_=>by simp [jbb,jaG]
  |[],_::_,h=>by simp at h
  |_::_,[],h=>by simp at h
  |e::E,some u::x,h=>by
    simp only [jbb,jaG]
    rw [jeE (by simpa using h),jfp (a:=e)];cases riC d e v u<;>cases jaG e u C y<;>cases jaG d v E x<;>simp
  |e::E,none::x,h=>by
    simp only [jbb,jaG]
    exact jeE (by simpa using h)
theorem jf3 {d:Cd} {C:List Cd} {y:Bo}: ∀{E:List Cd} {x:Bo},x.length=E.length→jbb E x (d::C) (none::y)=jbb E x C y
  |[],[],_=>by simp [jbb]
  |[],_::_,h=>by simp at h
  |_::_,[],h=>by simp at h
  |e::E,some u::x,h=>by
    simp only [jbb,jaG]
    rw [jf3 (by simpa using h)]
  |e::E,none::x,h=>by
    simp only [jbb]
    exact jf3 (by simpa using h)
theorem jeD {d:Cd} {o:Option Int} {C:List Cd} {y:Bo}: ∀{E:List Cd} {x:Bo},x.length=E.length→jbb (E++[d]) (x++[o]) C y=(jbb E x C y&&jbb [d] [o] C y)
  |[],[],_=>by simp [jbb]
  |[],_::_,h=>by simp at h
  |_::_,[],h=>by simp at h
  |e::E,some u::x,h=>by
    simp only [gr,jbb]
    rw [jeD (by simpa using h),Bool.and_assoc]
  |e::E,none::x,h=>by
    simp only [gr,jbb]
    exact jeD (by simpa using h)
theorem jdy {d:Cd} {v:Int} {C:List Cd}: ∀{E:List Cd} {x:Bo},x.length=E.length→jaG d v (E++C) x=jaG d v E x
  |[],[],_=>by cases C<;>simp [jaG]
  |[],_::_,h=>by simp at h
  |_::_,[],h=>by simp at h
  |e::E,some u::x,h=>by simp only [gr,jaG];rw [jdy (by simpa using h)]
  |e::E,none::x,h=>by simp only [gr,jaG];exact jdy (by simpa using h)
theorem jbK {α β:Type} (p:α→Bool) (f:α→List β): ∀l:List α,(l.filter p).flatMap f=l.flatMap fun a=>if p a=true then f a else []
  |[]=>rfl
  |a::l=>by
    rw [vL,←jbK p f l,Gt];by_cases h:p a=true
    · rw [if_pos h,if_pos h,vL]
    · rw [if_neg h,if_neg h,GJ]
theorem jmu {d:Cd} {v:Int} {E C:List Cd} {x:Bo} (hx:x.length=E.length) (l:List Bo):
    (((l.filter (jaG d v C)).map (some v:: ·)).filter (jbb E x (d::C))).map (x++ ·)=if jaG d v E x=true then (l.filter (jbb (E++[d]) (x++[some v]) C)).map ((x++[some v])++ ·) else []:=by
  rw [VL,vu,VK];by_cases h:jaG d v E x=true
  · rw [if_pos h];have e1:List.filter (fun y=>((jbb E x (d::C))∘(some v:: ·)) y&&jaG d v C y) l=l.filter (jbb (E++[d]) (x++[some v]) C):=by
      refine vK fun y _=>?_
      simp only [Function.comp]
      rw [jeE hx,jeD hx,h,vz];simp [jbb]
    rw [e1];exact GP fun y _=>by simp
  · rw [if_neg h,xW,VN];intro y _
    simp only [Function.comp]
    rw [jeE hx];simp [h]
theorem jj7 {d:Cd} {E C:List Cd} {x:Bo} (hx:x.length=E.length) (l:List Bo):
    ((l.map (none:: ·)).filter (jbb E x (d::C))).map (x++ ·)=(l.filter (jbb (E++[d]) (x++[none]) C)).map ((x++[none])++ ·):=by
  rw [VL,vu];have e1:List.filter ((jbb E x (d::C))∘(none:: ·)) l=l.filter (jbb (E++[d]) (x++[none]) C):=by
    refine vK fun y _=>?_
    simp only [Function.comp]
    rw [jf3 hx,jeD hx];simp [jbb]
  rw [e1];exact GP fun y _=>by simp
theorem jg9 {can:Nat}: ∀{C E:List Cd} {x:Bo} {w:Nat},x.length=E.length→(∀i,i<(E++C).length→can.testBit i=true)→jdT (E++C) can 0 C.length w x=((jbD C w).filter (jbb E x C)).map (x++ ·)
  |[],E,x,w,hx,_=>by
    have:jbb E x [] []=true:=by
      rw [jfu rfl hx];intro i j v u _ hj;simp at hj
    simp [jdT,jfw,this]
  |d::C,E,x,w,hx,hc=>by
    have hE:E++d::C=(E++[d])++C:=by simp
    have hd:dA (E++d::C) x.length=d:=by
      rw [hx,dA,gC,gf (gM _)];simp
    have hcan:can.testBit x.length=true:=hc _ (by rw [hx];simp)
    rw [gV,jdT,if_neg zS,hd,jct,GA,GC,Vc,Vz,jbK];congr 1
    · congr 1
      funext v
      rw [jdy hx,jmu hx,hE,jg9 (by simp [hx]) (by rw [←hE];exact hc)]
    · cases w with
      |zero=>simp [jg1]
      |succ w=>
        rw [if_neg (by simp [hcan]),jg1,jj7 hx,hE,jg9 (by simp [hx]) (by rw [←hE];exact hc)];rfl
theorem genM_all {D:List Cd} {w:Nat} (h: ∀i,i<D.length→can.testBit i=true):jdT D can 0 D.length w []=jbD D w:=by
  have:=jg9 (C:=D) (E:=[]) (x:=[]) (w:=w) rfl h
  rw [GJ] at this
  rw [this];have e:(jbD D w).filter (jbb [] [] D)=jbD D w:=Va.2 fun y _=>by simp [jbb]
  rw [e];exact (GP fun y _=>by simp).trans (List.map_id _)
def jdw (s n:Nat):List Bool:=(List.range n).map fun i=>s.testBit i
theorem jb3 (s n:Nat):(jdw s n).length=n:=by simp [jdw]
theorem jkW {s:Nat}: ∀{C E:List Cd} {x:Bo} {w:Nat},x.length=E.length→C.length≤w→jdT (E++C) s s C.length w x=((jfT C ((List.range' E.length C.length).map fun i=>s.testBit i)).filter (jbb E x C)).map (x++ ·)
  |[],E,x,w,hx,_=>by
    have:jbb E x [] []=true:=by
      rw [jfu rfl hx];intro i j v u _ hj;simp at hj
    simp [jdT,jfT,this]
  |d::C,E,x,w,hx,hw=>by
    have hE:E++d::C=(E++[d])++C:=by simp
    have hd:dA (E++d::C) x.length=d:=by
      rw [hx,dA,gC,gf (gM _)];simp
    rw [gV] at hw
    rw [gV,List.range'_succ,gx];cases ht:s.testBit x.length with
    |true=>
      rw [jiP ht,if_neg (by simp [ht];omega),←hx,ht,jfT,jj7 hx,hE,jkW (by simp [hx]) zO];simp [hx]
    |false=>
      rw [jdT,if_neg (by simp [ht]),if_pos (.inr ht),ge,hd,←hx,ht,jfT,Vc,Vz,jbK];congr 1
      funext v
      rw [jdy hx,jmu hx,hE,jkW (by simp [hx]) zO];simp [hx]
theorem jmi {D:List Cd} {s w:Nat} (h:D.length≤w):jdT D s s D.length w []=jfT D (jdw s D.length):=by
  have:=jkW (C:=D) (E:=[]) (x:=[]) (s:=s) (w:=w) rfl h
  rw [GJ] at this
  rw [this];have e: ∀p,(jfT D p).filter (jbb [] [] D)=jfT D p:=fun p=>Va.2 fun y _=>by simp [jbb]
  rw [e,jdw,List.range_eq_range'];exact (GP fun y _=>by simp).trans (List.map_id _)
def jcL:Bo→Nat
  |[]=>0
  |o::x=>(if o.isNone then 1 else 0)+2*jcL x
def jcE (x:Bo):List Int:=x.map fun o:Option Int=>o.getD 0
def jn6 (x:Bo):List Int:=(jcE x++List.replicate 12 0).take 12
theorem jbO (x:Bo):(jn6 x).length=12:=by simp [jn6]
theorem jfU {x:Bo} (hi:i<12):(jn6 x).getD i 0=(xA x i).getD 0:=by
  rw [jn6,gC,vC,if_pos hi,jcE,Gs,gN];rw [xA,gC];split
  · rename_i h
    rw [gX,gD h];rfl
  · rename_i h
    rw [gh (l:=x) zO,List.getElem?_replicate];split<;>rfl
theorem jdJ: ∀{x:Bo} {i:Nat},(jcL x).testBit i=decide (i<x.length∧xA x i=none)
  |[],i=>by simp [jcL]
  |o::x,0=>by
    cases o<;>simp [jcL,Nat.testBit_zero]<;>omega
  |o::x,i+1=>by
    rw [jcL,Nat.testBit_succ,show ((if o.isNone then 1 else 0)+2*jcL x)/2=jcL x by split<;>omega,jdJ];simp
theorem joA: ∀{x:Bo},jcL x<2^x.length
  |[]=>by simp [jcL]
  |o::x=>by
    have:=joA (x:=x)
    rw [jcL,gV,xQ];split<;>omega
theorem jcW {x:Bo} (h:x.length≤12):jcL x<4096:=GZ joA (by
  have:=GY (show 0<2 by omega) h
  simpa using this)
theorem jka {x:Bo} {v:Int}:jcL (x++[some v])=jcL x:=by
  apply xR
  intro i
  rw [jdJ,jdJ];congr 1
  rw [gH,GU,xA,xA,gC,gC,Gs];by_cases h:i<x.length
  · simp [h];omega
  · rw [if_neg h];by_cases h2:i=x.length
    · subst h2;simp
    · simp [h];omega
theorem jpz {x:Bo}:jcL (x++[none])=jcL x|||2^x.length:=by
  apply xR
  intro i
  rw [xc,jdJ,jdJ,xU];rw [gH,GU,xA,xA,gC,gC,Gs];by_cases h:i<x.length
  · have:x.length≠i:=by omega
    simp [h,this];omega
  · rw [if_neg h];by_cases h2:i=x.length
    · subst h2;simp
    · have:x.length≠i:=by omega
      simp [h,this];omega
theorem jqI {x:Bo} (h:x.length<12):jn6 (x++[none])=jn6 x:=by
  refine Ga (by simp [jbO]) fun i h1 h2=>?_
  rw [jbO] at h2
  have a:=jfU (x:=x++[none]) h2
  have b:=jfU (x:=x) h2
  rw [gC,gD h1] at a
  rw [gC,gD (by rw [jbO];exact h2)] at b
  simp only [gu] at a b
  rw [a,b,xA,xA,gC,gC,Gs];split
  · rfl
  · rename_i hh
    rw [gh (l:=x) zO];by_cases e:i=x.length
    · subst e;simp
    · rw [gh zN]
theorem jqH {x:Bo} {v:Int} (h:x.length<12):jn6 (x++[some v])=(jn6 x).set x.length v:=by
  refine Ga (by simp [jbO]) fun i h1 h2=>?_
  rw [List.length_set,jbO] at h2
  have a:=jfU (x:=x++[some v]) h2
  have b:=jfU (x:=x) h2
  rw [gC,gD h1] at a
  rw [gC,gD (by rw [jbO];exact h2)] at b
  simp only [gu] at a b
  rw [a,xG,b,xA,xA,gC,gC,Gs];split
  · rename_i hh
    rw [if_neg zO]
  · rename_i hh
    by_cases e:x.length=i
    · subst e;simp
    · rw [if_neg e,gh zN,gh zO]
def boL (x:Bo):List Value:= .int .u64 (jcL x:Int)::(jn6 x).map (Value.int .i64)
theorem jaP (x:Bo):(boL x).length=13:=by simp [boL,jbO]
theorem jr3 (x:Bo): ∀u∈boL x,u.oneCell'=true:=by
  intro u hu
  rcases gU.1 hu with rfl|hu
  · rfl
  · obtain ⟨n,_,rfl⟩:=gR.1 hu;rfl
abbrev boV (x:Bo):Value:= .agg (boL x).toArray
instance:Enc Bo 13 where
  enc:=boL
  len:=jaP
  one:=jr3
end Go.Lo
