/- A part of the proof of a law. Condition of each theorem: as its statement says. -/
import Derived.Test.YtkaokkedapnfhaaGreatDoorVB2
import Derived.Conc.QuitsD
import Derived.Conc.AtomicLaws2
import Derived.Conc.ClockLaws
import Derived.Conc.MarkLaws
import Derived.Conc.DeferLaws
import Derived.Conc.SmallLaws
import Derived.Laws.LoneSync
set_option linter.all false
variable {b:Go.Frame} {l l' vs l1 ys l'' junk:List Go.Value} {ds:List Go.Deferred} {k k' kk k2 ik kj:Go.IntKind} {cs:List Go.Frame} {y:Go.Operand} {t ty u e t':Go.TypeId} {ops:Array Go.Oper} {r:List (Nat×Go.Lo.Kd)} {i n q off j ft bb t2 src dst dd ns:Nat} {rest:List Nat} {o:Go.Oper} {d:Option Go.Tmp} {pos:String} {af:Array Go.Edge} {args:List Go.Operand} {ats ps:Array Go.TypeId} {f f0:Go.FuncId} {first c':Array Go.Value} {body:Go.Code} {todo:List Go.Item} {a z n' la lc ma mc:Int} {op:Go.BinOp} {p:Option Int} {B:Array Go.Obj} {X h S h' H F h1 h2:Go.Lo.Hp} {s:List UInt8} {Q:Go.Value→Go.Lo.Hp→Prop} {C:List Go.Value→Go.Lo.Hp→Prop} {kd:Go.Lo.Kd}
set_option maxRecDepth 100000
set_option synthInstance.maxHeartbeats 1000000
namespace Go.Lo
open Go.Conc
structure Im (P:Program) where
  main:Bool
  R:Goroutine→Prop
  idle: ∀{g g':Goroutine},g.status= .running→(∀w,stepG P main g w= .go g' w #[])→R g'→R g
section
variable {P:Program} {α β:Type}
theorem Still.pure (a:α):Still P (Pure.pure a) a:=fun _=>rfl
theorem Still.run {s:Sem α} {a:α} (t:Still P s a) (w:World):s.run P w= .ok a w:=t.run' w
theorem Still.events {s:Sem α} {a:α} (t:Still P s a) (w:World):s.events P w #[]= #[]:=by
  unfold Sem.events;rw [t w]
theorem Still.of {s:Sem α} {a:α} (h1: ∀w,s.run P w= .ok a w) (h2: ∀w,s.events P w #[]= #[]):Still P s a:=fun w=>by
  have e1:(s.runT P w #[]).1= .ok a w:=by
    have:=h1 w
    simpa using this
  have e2:(s.runT P w #[]).2= #[]:=h2 w
  exact Prod.ext e1 e2
theorem Still.bind {s:Sem α} {f:α→Sem β} {a:α} {b:β} (t:Still P s a) (t':Still P (f a) b):Still P (s>>=f) b:=
  .of (fun w=>by rw [Sem.run_bind,t.run w];exact t'.run w) fun w=>by
    rw [Sem.events_bind,t.run w];simp only [Result.evThen_ok]
    rw [t.events w];exact t'.events w
theorem Still.program:Still P Go.program P:= .of (fun w=>by simp [Go.program,Sem.run]) fun w=>by simp
theorem Still.value {s:Sem Value} {v:Value} (t:Still P s v):Still P (s>>=fun v=>Pure.pure (Next.value v)) (Next.value v):=Still.bind t (Still.pure _)
end
section
variable {P:Program} {m:Im P} {k:List Item}
theorem i_skip (n:m.R (Gr b l ds k cs)):m.R (Gr b l ds (.code .skip::k) cs):=m.idle rfl (fun w=>by simp [Gr,Fr,G,stepG,stepG.exec]) n
theorem jlX {id:Nat} (n:m.R (Gr b l ds k cs)):m.R (Gr b l ds (.inBlock id::k) cs):=m.idle rfl (fun w=>by simp [Gr,Fr,G,stepG,stepG.exec]) n
theorem i_seq {x y:Code} (n:m.R (Gr b l ds (.code x:: .code y::k) cs)):m.R (Gr b l ds (.code (.seq x y)::k) cs):=m.idle rfl (fun w=>by simp [Gr,Fr,G,stepG,stepG.exec]) n
theorem jkO {id:Nat} {c:Code} (n:m.R (Gr b l ds (.code c:: .inBlock id::k) cs)):m.R (Gr b l ds (.code (.block id c)::k) cs):=m.idle rfl (fun w=>by simp [Gr,Fr,G,stepG,stepG.exec]) n
theorem i_loop {c:Code} (n:m.R (Gr b l ds (.code c:: .inLoop c::k) cs)):m.R (Gr b l ds (.code (.loop c)::k) cs):=m.idle rfl (fun w=>by simp [Gr,Fr,G,stepG,stepG.exec]) n
theorem joc {c:Code} (n:m.R (Gr b l ds (.code c:: .inLoop c::k) cs)):m.R (Gr b l ds (.inLoop c::k) cs):=m.idle rfl (fun w=>by simp [Gr,Fr,G,stepG,stepG.exec]) n
theorem i_exit {id:Nat} {k':List Item} (e:exitTo id k=some k') (n:m.R (Gr b l ds k' cs)):m.R (Gr b l ds (.code (.exit id)::k) cs):=m.idle rfl (fun w=>by simp [Gr,Fr,G,stepG,stepG.exec,e]) n
theorem i_cond {c:Operand} {x y:Code} {t:Bool} (hc:ev l c= .bool t) (n:m.R (Gr b l ds (.code (if t then x else y)::k) cs)):m.R (Gr b l ds (.code (.cond c x y)::k) cs):=
  m.idle rfl (fun w=>by
    have he:=Fr.eval b l ds (.code (.cond c x y)::k)
    simp only [Fr] at he
    simp [Gr,Fr,G,stepG,stepG.exec,he,hc]) n
theorem i_if {c:Operand} {x y:Code} [hc:OpV l c (.bool true)] (n:m.R (Gr b l ds (.code x::k) cs)):m.R (Gr b l ds (.code (.cond c x y)::k) cs):=i_cond hc.eq n
theorem i_else {c:Operand} {x y:Code} [hc:OpV l c (.bool false)] (n:m.R (Gr b l ds (.code y::k) cs)):m.R (Gr b l ds (.code (.cond c x y)::k) cs):=i_cond hc.eq n
theorem i_ret (hr:b.roundOf=none) (n:m.R (jeV b l ds (.code .ret::k) cs)):m.R (Gr b l ds (.code .ret::k) cs):=m.idle rfl (fun w=>by simp [Gr,jeV,Fr,G,stepG,stepG.exec,hr]) n
theorem jpd (hr:b.roundOf=none) (n:m.R (jeV b l ds [] cs)):m.R (Gr b l ds [] cs):=m.idle rfl (fun w=>by simp [Gr,jeV,Fr,G,stepG,stepG.exec,hr]) n
theorem jlW (n:m.R (Gr b l ds k cs)):m.R (Gr b l ds (.inRegion ops []::k) cs):=m.idle rfl (fun w=>by simp [Gr,Fr,G,stepG,stepG.exec]) n
theorem i_region {id:Nat} {r:List Nat} (hr:List.range ops.size=r) (n:m.R (Gr b l ds (.inRegion ops r::k) cs)):m.R (Gr b l ds (.code (.region id ops false)::k) cs):=
  m.idle rfl (fun w=>by simp [Gr,Fr,G,stepG,stepG.exec]) (hr▸n)
theorem jh2 {main:Bool} (ho:ops[i]?=some o) (hw:Region.wanted o (yielded ops l.toArray)=true) (hd: ∀c,o.op≠ .defer c) (w:World):
    stepG P main (Gr b l ds (.inRegion ops (i::rest)::k) cs) w=stepG.apply P true (Fr b l ds (.inRegion ops (i::rest)::k)) cs none (execOp (ev l) o) w:=by
  have he:=Fr.eval b l ds (.inRegion ops (i::rest)::k)
  simp only [Fr] at he
  cases hr:b.roundOf with
  |none=>
    rw [hr] at he
    simp [Gr,G,stepG,stepG.exec,stepG.oper,Frame.oper?,Fr,ho,hw,hr,he]
  |some x=>
    rw [hr] at he
    simp [Gr,G,stepG,stepG.exec,stepG.oper,Frame.oper?,Fr,ho,hw,hr]
    split
    · rename_i c _ hop
      exact absurd hop (hd c)
    · rw [he]
theorem jdU (fn:FuncId):seen P fn #[]= #[]:=by
  apply Array.eq_empty_of_size_eq_zero
  rcases VB (seen P fn #[]).size with h|h
  · exact h
  · have:=jct P fn #[] (seen P fn #[])[0] (Array.getElem_mem h)
    simp at this
theorem i_op {v:Value} (ho:ops[i]?=some o) (hw:Wt ops l o.guard) (hd: ∀c,o.op≠ .defer c) (t:Still P (execOp (ev l) o) (.value v)) [p:PutV l o.dst v l'] (n:m.R (Gr b l' ds (.inRegion ops rest::k) cs)):
    m.R (Gr b l ds (.inRegion ops (i::rest)::k) cs):=by
  refine m.idle rfl (fun w=>?_) n
  rw [jh2 ho hw.wanted hd w];have hr:=t.run w
  have hev:=t.events w
  have hfin:=Fr.finish b l ds ops i rest k v ho
  rw [p.eq] at hfin
  simp [stepG.apply,hr,hev,G,GStep.after,Gr,hfin,jdU]
theorem i_off {op:Op} {g:Option (Nat×Bool)} (ho:ops[i]?=some ⟨d,op,ty,pos,af,g⟩) (hw:Wn ops l g) [p:PutV l d undef l'] (n:m.R (Gr b l' ds (.inRegion ops rest::k) cs)):m.R (Gr b l ds (.inRegion ops (i::rest)::k) cs):=by
  refine m.idle rfl (fun w=>?_) n
  have hfin:=Fr.finish b l ds ops i rest k undef ho
  rw [p.eq] at hfin
  unfold Gr
  rw [←hfin];simp [G,stepG,stepG.exec,Fr,ho,Wn.wanted (o:=⟨d,op,ty,pos,af,g⟩) hw]
theorem i_call {g:Option (Nat×Bool)} {x:Operand} {cap:Array Value}
    (ho:ops[i]?=some ⟨d,.call ⟨.value x,args.toArray,ats⟩,ty,pos,af,g⟩) (hw:Wt ops l g) [ex:OpV l x (.func (.func f) first cap)] [ea:ArgsV l args vs] (hf:jbM P f=true)
    (n:m.R (G (Frame.enter P f (first++vs.toArray++cap) .normal) (Fr b l ds (.inRegion ops (i::rest)::k)::cs))):m.R (Gr b l ds (.inRegion ops (i::rest)::k) cs):=by
  refine m.idle rfl (fun w=>?_) n
  rw [jh2 ho (Wt.wanted (o:=⟨d,.call ⟨.value x,args.toArray,ats⟩,ty,pos,af,g⟩) hw) zS w];have t:Still P (execOp (ev l) ⟨d,.call ⟨.value x,args.toArray,ats⟩,ty,pos,af,g⟩) (.enter f (first++vs.toArray++cap)):=by
    have e:(Array.map (ev l) args.toArray)=vs.toArray:=by rw [Gx,ea.eq]
    simp only [execOp,resolve,e,ex.eq,Deferred.ofValue]
    refine Still.bind (a:=⟨.fn (.func f) cap,first++vs.toArray⟩) (Still.pure _) ?_
    simp only [invoke]
    unfold jbM at hf
    split at hf
    · rename_i fn e
      simp only [gK,vO] at hf
      have hb:fn.body.isNone=false:=by
        cases hx:fn.body with
        |none=>rw [hx] at hf;simp at hf
        |some c=>rfl
      unfold callFunc
      refine Still.bind Still.program ?_
      rw [e];simp only [hf.1,hb,gx,if_false]
      exact Still.pure _
    · cases hf
  have hr:=t.run w
  have hev:=t.events w
  simp [stepG.apply,hr,hev,G,GStep.after,Fr,jdU]
theorem jeO {fn:Func} {args:List Value} (hf:P.funcs[f]?=some fn) (hb:fn.body=some body) (hn:fn.ntmps=n) (hl:args++List.replicate (n-args.length) undef=l)
    (t:m.R (Gr (bF f) l [] [.code body] cs)):m.R (G (Frame.enter P f args.toArray .normal) cs):=by
  have e:Frame.enter P f args.toArray .normal=Fr (bF f) l [] [.code body]:=by
    subst hl
    simp [Frame.enter,hf,hb,hn,Fr,bF]
  rw [e];exact t
theorem jcT {c:Frame} {fn:Func} {v:Value} (hk:b.kind= .normal) (hf:P.funcs[b.fn]?=some fn) (hr:Still P (results fn l.toArray) v) (n:m.R (G (c.finish v) cs)):m.R (jeV b l [] todo (c::cs)):=by
  refine m.idle rfl (fun w=>?_) n
  have h1:=hr.run w
  have h2:=hr.events w
  simp [jeV,Fr,G,stepG,unwind,doReturn,hf,h1,h2,hk,GStep.after,jdU]
theorem jcQ {fn:Func} (hr:fn.results= #[]):Still P (results fn l.toArray) (.tuple #[]):= .of (fun w=>results_none hr _ P w) fun w=>by simp [results,hr]
theorem jbL {fn:Func} {t:Tmp} {v:Value} (hr:fn.results= #[.tmp t]) [s:Slot l t v]:Still P (results fn l.toArray) v:= .of (fun w=>by rw [results_tmp hr,gf,gZ,←gC,s.eq]) fun w=>by simp [results,hr]
theorem fin_at {v:Value} (ho:ops[i]?=some o) [p:PutV l o.dst v l']:(Fr b l ds (.inRegion ops (i::rest)::k)).finish v=Fr b l' ds (.inRegion ops rest::k):=by
  rw [Fr.finish b l ds ops i rest k v ho,p.eq]
variable {g:Option (Nat×Bool)}
theorem jpA {x:Operand} {v:Value} (ho:ops[i]?=some ⟨d,.move x,ty,pos,af,g⟩) (hw:Wt ops l g) [e:OpV l x v] [PutV l d v l'] (n:m.R (Gr b l' ds (.inRegion ops rest::k) cs)):m.R (Gr b l ds (.inRegion ops (i::rest)::k) cs):=
  i_op (v:=v) ho hw zS (by simp only [execOp,e.eq];exact Still.pure _) n
theorem i_as {x:Operand} {v:Value} (ho:ops[i]?=some ⟨d,.assign x,ty,pos,af,g⟩) (hw:Wt ops l g) [e:OpV l x v] [PutV l d v l'] (n:m.R (Gr b l' ds (.inRegion ops rest::k) cs)):m.R (Gr b l ds (.inRegion ops (i::rest)::k) cs):=
  i_op (v:=v) ho hw zS (by simp only [execOp,e.eq];exact Still.pure _) n
theorem jpc {x:Operand} {a:Addr} (ho:ops[i]?=some ⟨d,.nilCheck x,ty,pos,af,g⟩) (hw:Wt ops l g) [e:OpV l x (.pointer (some a))] [PutV l d (.pointer (some a)) l'] (n:m.R (Gr b l' ds (.inRegion ops rest::k) cs)):m.R (Gr b l ds (.inRegion ops (i::rest)::k) cs):=
  i_op (v:= .pointer (some a)) ho hw zS (by simp only [execOp,e.eq];exact Still.pure _) n
theorem jcq {x:Operand} {p q:Int} {v:Value} (ho:ops[i]?=some ⟨d,.binOp op t x y u,ty,pos,af,g⟩) (hw:Wt ops l g) [ex:OpV l x (.int kk p)] [ey:OpV l y (.int kk q)] (hs:op≠ .shl∧op≠ .shr)
    (hv:binOp op t (.int kk p) (.int kk q)=Sem.pure v) [PutV l d v l'] (n:m.R (Gr b l' ds (.inRegion ops rest::k) cs)):m.R (Gr b l ds (.inRegion ops (i::rest)::k) cs):=
  i_op (v:=v) ho hw zS (by
    simp only [execOp,ex.eq,ey.eq]
    refine Still.value (Still.bind (a:=()) ?_ ?_)
    · cases op<;>exact Still.pure ()
    · rw [hv];exact Still.pure _) n
end
section
variable {P:Program}
def jnh (P:Program) (B:Array Obj) (K:Value→Hp→Prop) (g:Goroutine) (h:Hp):Prop:=
  g.status= .running∧ ∃v,K v h∧ ∀w,Sat B h w→ ∃es,stepG P true g w= .ended (.done v) w es∧ ∀e∈es,EvOk B h w.heap.size w.heap.size e
theorem runNT_trans' {m m':Machine} {t t':Trace} {N:Nat} (h:runNT P N m t=(.next m',t')) {M:Nat} {R:Stepped×Trace} (r:runNT P M m' t'=R):runNT P (N+M) m t=R:=by
  induction N generalizing m t with
  |zero=>
    simp only [runNT,vn,Stepped.next.injEq] at h
    obtain ⟨rfl,rfl⟩:=h
    rw [GD];exact r
  |succ N ih=>
    rw [show N+1+M=N+M+1 by omega];simp only [runNT] at h⊢
    cases hs:stepT P m with
    |mk s u=>
      rw [hs] at h
      cases s with
      |next m1=>exact ih h
      |ended o w=>simp at h
end
section
variable {t:Trace}
theorem jpo (t:Trace) (a b:MemOp) (ha:a.act= .go n) (hb:b.act= .start) (j:Nat):Deaf (t++ #[a,b]) j=Deaf t j:=by
  have e:t++ #[a,b]=t++ #[a]++ #[b]:=by rw [Array.append_assoc];rfl
  rw [e,Deaf_push,Deaf_push];simp [deafStep,ha,hb]
end
structure Ext (P:Program) (f:FuncId) (e:Array Value→Sem Value):Prop where
  eq: ∃fn,P.funcs[f]?=some fn∧(fn.name== "runtime.NumGoroutine")=false∧fn.body.isNone=true∧Extern.findNext fn=none∧Extern.find fn=some e
section
variable {P:Program} {k:List Item} {g:Option (Nat×Bool)} {v:Value} {e:Array Value→Sem Value} {main:Bool} {w w':World}
theorem jk3 [ea:ArgsV l args vs]:args.toArray.map (Act.eval ⟨l.toArray,ds⟩)=vs.toArray:=by
  rw [Gx,←ea.eq];congr 1
  apply GY
  intro x _
  cases x<;>simp [Act.eval,ev,gf,gC]
theorem act_put:(Act.put ⟨l.toArray,ds⟩ d v)=⟨(put l d v).toArray,ds⟩:=by
  cases d<;>simp [Act.put,put]
theorem jd9 (E:Ext P f e) (ho:ops[i]?=some ⟨d,.call ⟨.value (.func f),args.toArray,ats⟩,ty,pos,af,g⟩) (hw:Wt ops l g) [ea:ArgsV l args vs] [p:PutV l d v l'] {evs:List Event}
    (hrun:(e vs.toArray).run P w= .ok v w') (hev:(e vs.toArray).events P w #[⟨.mark (.extern f),false,true⟩]= #[⟨.mark (.extern f),false,true⟩]++evs.toArray) (hs: ∀x∈evs,x.sync=true∧ ∀g,x.loc≠ .mark (.extern g)):
    stepG P main (Gr (bF f0) l ds (.inRegion ops (i::rest)::k) cs) w= .go (Gr (bF f0) l' ds (.inRegion ops rest::k) cs) w' evs.toArray:=by
  obtain ⟨fn,h1,h2,h3,h4,h5⟩:=E.eq
  have:=stepG_entry (P:=P) (main:=main) (b:=bF f0) (a:=⟨l.toArray,ds⟩) (kk:=k) (cs:=cs) (w:=w) (rest:=rest) ho (Wt.wanted (o:=⟨d,.call ⟨.value (.func f),args.toArray,ats⟩,ty,pos,af,g⟩) hw) (by simp [bF]) rfl h1 h2 h3 h4 h5 (v:=v) (w':=w') (evs:=evs.toArray)
    (by rw [jk3];exact hrun) (by rw [jk3];exact hev) (fun x hx=>hs x (by simpa using hx))
  rw [act_put,p.eq] at this
  exact this
theorem jmE (E:Ext P f e) (ho:ops[i]?=some ⟨d,.call ⟨.value (.func f),args.toArray,ats⟩,ty,pos,af,g⟩) (hw:Wt ops l g) [ea:ArgsV l args vs] (hrun:(e vs.toArray).run P w= .halt .blocked w'):
    stepG P main (Gr (bF f0) l ds (.inRegion ops (i::rest)::k) cs) w= .go {Gr (bF f0) l ds (.inRegion ops (i::rest)::k) cs with status:= .blocked} w' #[]:=by
  obtain ⟨fn,h1,h2,h3,h4,h5⟩:=E.eq
  exact stepG_entry_blocked (P:=P) (main:=main) (b:=bF f0) (a:=⟨l.toArray,ds⟩) (kk:=k) (cs:=cs) (w:=w) (rest:=rest) ho (Wt.wanted (o:=⟨d,.call ⟨.value (.func f),args.toArray,ats⟩,ty,pos,af,g⟩) hw) rfl h1 h2 h3 h4 h5 (by rw [jk3];exact hrun)
theorem jla (E:Ext P f e) (ho:ops[i]?=some ⟨d,.call ⟨.value (.func f),args.toArray,ats⟩,ty,pos,af,g⟩):mayWake P (Gr (bF f0) l ds (.inRegion ops (i::rest)::k) cs)=true:=by
  obtain ⟨fn,h1,h2,h3,h4,h5⟩:=E.eq
  have hb:fn.body=none:=by simpa using h3
  simp [mayWake,Gr,Fr,G,Goroutine.frame,ho,Frame.eval,bF,h1,hb]
theorem i_ext {m:Im P} (E:Ext P f e) (ho:ops[i]?=some ⟨d,.call ⟨.value (.func f),args.toArray,ats⟩,ty,pos,af,g⟩) (hw:Wt ops l g) [ea:ArgsV l args vs] [p:PutV l d v l'] (he:e vs.toArray=Pure.pure v)
    (n:m.R (Gr (bF f0) l' ds (.inRegion ops rest::k) cs)):m.R (Gr (bF f0) l ds (.inRegion ops (i::rest)::k) cs):=
  m.idle rfl (fun w=>jd9 (evs:=[]) E ho hw (by rw [he];rfl) (by rw [he];rfl) zS) n
theorem jfU (m:Mark) (asv:Array Value):((fun _:Array Value=>(do mark m;Pure.pure Extern.Race.none_:Sem Value)) asv).run P w= .ok (.tuple #[]) w:=by simp [Extern.Race.none_]
theorem jgm (m:Mark) (asv:Array Value) (es:Array Event):((fun _:Array Value=>(do mark m;Pure.pure Extern.Race.none_:Sem Value)) asv).events P w es=es++[(⟨.mark m,false,true⟩:Event)].toArray:=by simp
theorem je0 (mk:Addr→Mark) (a:Addr):(Extern.Race.marked mk [.pointer (some a)].toArray).run P w= .ok (.tuple #[]) w:=by simp [Extern.Race.marked,Extern.Race.at_,Extern.Race.none_]
theorem je5 (mk:Addr→Mark) (a:Addr) (es:Array Event):(Extern.Race.marked mk [.pointer (some a)].toArray).events P w es=es++[(⟨.mark (mk a),false,true⟩:Event)].toArray:=by simp [Extern.Race.marked,Extern.Race.at_]
end
section
variable {w:World} {X s1 s2:Hp} {b off:Nat} {c:Array Value} {v:Value}
theorem jny (s:Sat B (X++(s1++⟨true,b,.cells c t (0,0)⟩::s2)) w) (hv:c[off]?=some v):w.cell? ⟨b,off,none⟩=some v∧w.frozen? ⟨b,off,none⟩=false:=by
  have hb:=(s.mem ⟨true,b,.cells c t (0,0)⟩ zS).2
  exact ⟨by simp [World.cell?,hb,hv],by simp [World.frozen?,hb]⟩
theorem seff_set (s:Sat B (X++(s1++⟨true,b,.cells c t (0,0)⟩::s2)) w) (hr: ∀x∈s1++s2,x.rw=true) (hc:c.setIfInBounds off v=c'):
    SEff B (s1++⟨true,b,.cells c t (0,0)⟩::s2) (s1++⟨true,b,.cells c' t (0,0)⟩::s2) w (w.setCell ⟨b,off,none⟩ v):=by
  have hb:=(s.mem ⟨true,b,.cells c t (0,0)⟩ zS).2
  rw [jgB hb,hc];refine ⟨fun Y sy=>?_,by simp,.refl _,rfl,rfl,gL _,fun x hx=>?_,by simp,fun x hx=>?_⟩
  · rw [←gG] at sy⊢
    exact sy.turn
  · have:b≠x:=hx ⟨true,b,.cells c t (0,0)⟩ zS
    show (w.heap.setIfInBounds b _)[x]?=_
    rw [GC this]
  · rcases gQ.1 hx with hx|hx
    · exact hr x (GN _ hx)
    · rcases gO.1 hx with rfl|hx
      · rfl
      · exact hr x (GF _ hx)
end
theorem jkd {S:Type} {F:Nat→Option S} {s:S} (h:F i=some s):ja6 F i (some s)=F:=by
  funext j
  by_cases e:j=i
  · subst e;rw [updS_same,h]
  · rw [jam _ _ e]
structure Sy (P:Program) (B:Array Obj) (Q:ProS) where
  i:Nat
  main:Bool
  R:Nat→Q.S→Goroutine→Hp→Prop
  out:Nat→Goroutine→Prop
  idle: ∀{d:Nat} {s:Q.S} {g g':Goroutine} {h:Hp},g.status= .running→(∀w,stepG P main g w= .go g' w #[])→R d s g' h→R d s g h
  weak: ∀{d:Nat} {s:Q.S} {g:Goroutine} {h h':Hp},Weak B h h'→R d s g h'→R d s g h
  syn: ∀{d:Nat} {s:Q.S} {g:Goroutine} {h:Hp},g.status= .running→g.offers=none→
    (∀Shp Pool F w,Q.Inv Shp Pool F→F i=some s→Sat B (h++Pool++Shp) w→SOut P B Q i d s h Shp Pool F g w (fun d' o g' h'=>match o with|some s'=>R d' s' g' h'|none=>out d' g') (stepG P main g w))→R d s g h
def Im.quit (P:Program) (d:Nat):Im P:=⟨false,fun g=> ∃k,QuitsD P k d g,fun hs e ⟨k,q⟩=>⟨k+1,.ctl hs e q⟩⟩
section
variable {P:Program} {s:SS}
variable {k:List Item} {g:Option (Nat×Bool)} {x y z:Operand}
def evR (a:Addr):List Event:=[⟨.cell a,false,true⟩]
def jrL (a:Addr):List Event:=[⟨.cell a,false,true⟩,⟨.cell a,true,true⟩]
def evW (a:Addr):List Event:=[⟨.cell a,true,true⟩]
def evS (a:Addr):List Event:=[⟨.mark .disable,false,true⟩,⟨.cell a,false,true⟩,⟨.cell a,true,true⟩,⟨.mark .enable,false,true⟩]
section
variable {a:Addr}
theorem jli: ∀x∈evR a,x.sync=true∧ ∀g,x.loc≠ .mark (.extern g):=by simp [evR]
theorem sync_W: ∀x∈evW a,x.sync=true∧ ∀g,x.loc≠ .mark (.extern g):=by simp [evW]
theorem jkj: ∀x∈jrL a,x.sync=true∧ ∀g,x.loc≠ .mark (.extern g):=by simp [jrL]
theorem sync_S: ∀x∈evS a,x.sync=true∧ ∀g,x.loc≠ .mark (.extern g):=by simp [evS]
end
theorem app2 (es:Array Event) (x y:Event):(es.push x).push y=es++ #[x,y]:=vG zS
theorem app4 (es:Array Event) (x y z u:Event):(((es.push x).push y).push z).push u=es++ #[x,y,z,u]:=vG zS
section
variable {a:Addr} {w:World} {n n':Int} {es:Array Event}
theorem cas_hit (hc:w.cell? a=some (.int kk n)) (hz:w.frozen? a=false):(Extern.Atomic.casT (.int kk) [.pointer (some a),.int kk n,.int kk n'].toArray).run P w= .ok (.bool true) (w.setCell a (.int kk n'))∧
    (Extern.Atomic.casT (.int kk) [.pointer (some a),.int kk n,.int kk n'].toArray).events P w es=es++(jrL a).toArray:=by
  refine ⟨?_,?_⟩
  · exact run_cas_hit_entry hc hz
  · show (Extern.Atomic.casT (.int kk) #[.pointer (some a),.int kk n,.int kk n']).events P w es=_
    rw [casT_eq,events_cas_hit_entry hc hz];simp [jrL,app2]
theorem cas_miss {o:Int} (hc:w.cell? a=some (.int kk n)) (hz:w.frozen? a=false) (hne:n≠o):(Extern.Atomic.casT (.int kk) [.pointer (some a),.int kk o,.int kk n'].toArray).run P w= .ok (.bool false) w∧
    (Extern.Atomic.casT (.int kk) [.pointer (some a),.int kk o,.int kk n'].toArray).events P w es=es++(evR a).toArray:=by
  refine ⟨?_,?_⟩
  · exact run_cas_miss_entry hc hz hne
  · show (Extern.Atomic.casT (.int kk) #[.pointer (some a),.int kk o,.int kk n']).events P w es=_
    rw [casT_eq,events_cas_miss_entry hc hz hne];simp [evR]
theorem jnf {q:Int} (hc:w.cell? a=some (.int kk n)) (hz:w.frozen? a=false) (hq:kk.wrap (n+n')=q):(Extern.Atomic.update (Op.intArith .add) kk true [.pointer (some a),.int kk n'].toArray).run P w= .ok (.int kk q) (w.setCell a (.int kk q))∧
    (Extern.Atomic.update (Op.intArith .add) kk true [.pointer (some a),.int kk n'].toArray).events P w es=es++(jrL a).toArray:=by
  subst hq
  refine ⟨?_,?_⟩
  · exact run_add_entry hc hz
  · show (Extern.Atomic.update (Op.intArith .add) kk true #[.pointer (some a),.int kk n']).events P w es=_
    rw [events_add_entry hc hz];simp [jrL,app2]
theorem jhH (hc:w.cell? a=some (.int kk n)):(Extern.Atomic.loadT (.int kk) [.pointer (some a)].toArray).run P w= .ok (.int kk n) w∧(Extern.Atomic.loadT (.int kk) [.pointer (some a)].toArray).events P w es=es++(evR a).toArray:=by
  refine ⟨?_,?_⟩
  · change Sem.run P (do Extern.Atomic.read (.int kk) (←asAddr (.pointer (some a)))) w=_
    simp [Extern.Atomic.read,asAddr,hc]
  · change Sem.events P (do Extern.Atomic.read (.int kk) (←asAddr (.pointer (some a)))) w _=_
    simp [Extern.Atomic.read,asAddr,hc,events_load,evR]
theorem jp0 {u:Value} (hc:w.cell? a=some u) (hz:w.frozen? a=false):(Extern.Atomic.storeT [.pointer (some a),.int kk n].toArray).run P w= .ok (.tuple #[]) (w.setCell a (.int kk n))∧(Extern.Atomic.storeT [.pointer (some a),.int kk n].toArray).events P w es=es++(evW a).toArray:=by
  refine ⟨?_,?_⟩
  · change Sem.run P (do
      store (←asAddr (.pointer (some a))) (.int kk n) .atomic
      pure Extern.Atomic.none_) w=_
    simp [asAddr,hc,hz,run_store P w a (.int kk n) .atomic rfl,Result.andThen,Extern.Atomic.none_]
  · change Sem.events P (do
      store (←asAddr (.pointer (some a))) (.int kk n) .atomic
      pure Extern.Atomic.none_) w _=_
    simp [asAddr,hc,hz,events_store P w _ a (.int kk n) .atomic rfl,evW]
theorem sem_take (hc:w.cell? a=some (.int .u32 n)) (hz:w.frozen? a=false) (hn:n≠0):(Extern.Sync.semacquire (.pointer (some a)::vs).toArray).run P w= .ok (.tuple #[]) (w.setCell a (.int .u32 (n-1)))∧
    (Extern.Sync.semacquire (.pointer (some a)::vs).toArray).events P w es=es++(evS a).toArray:=by
  refine ⟨?_,?_⟩
  · simp [Extern.Sync.semacquire,Extern.Sync.count,hc,hn,hz,Extern.Sync.none_,run_store P w a (.int .u32 (n-1)) .atomic rfl,Result.andThen]
  · simp [Extern.Sync.semacquire,Extern.Sync.count,hc,hn,hz,evS,events_load,events_store P w _ a (.int .u32 (n-1)) .atomic rfl,run_store P w a (.int .u32 (n-1)) .atomic rfl,Result.evThen,app4]
theorem sem_wait (hc:w.cell? a=some (.int .u32 0)):(Extern.Sync.semacquire (.pointer (some a)::vs).toArray).run P w= .halt .blocked w:=by
  simp [Extern.Sync.semacquire,Extern.Sync.count,hc]
theorem sem_give {q:Int} (hc:w.cell? a=some (.int .u32 n)) (hz:w.frozen? a=false) (hq:IntKind.u32.wrap (n+1)=q):(Extern.Sync.semrelease (.pointer (some a)::vs).toArray).run P w= .ok (.tuple #[]) (w.setCell a (.int .u32 q))∧
    (Extern.Sync.semrelease (.pointer (some a)::vs).toArray).events P w es=es++(evS a).toArray:=by
  subst hq
  refine ⟨?_,?_⟩
  · simp [Extern.Sync.semrelease,Extern.Sync.count,hc,hz,Extern.Sync.none_,Op.intArith,run_store P w a (.int .u32 (IntKind.u32.wrap (n+1))) .atomic rfl,Result.andThen]
  · simp [Extern.Sync.semrelease,Extern.Sync.count,hc,hz,evS,Op.intArith,events_load,events_store P w _ a (.int .u32 (IntKind.u32.wrap (n+1))) .atomic rfl,run_store P w a (.int .u32 (IntKind.u32.wrap (n+1))) .atomic rfl,Result.evThen,app4]
end
section
variable {w:World} {x x':Wd} {sm sm' v v' wt wt' ws ws':Nat}
end
end
section
variable {P:Program} {m:Im P} {k:List Item}
variable {g:Option (Nat×Bool)}
theorem jmY (ho:ops[i]?=some ⟨d,.defer ⟨.value (.func f),args.toArray,ats⟩,ty,pos,af,g⟩) (hw:Wt ops l g) (hr:b.roundOf=none) (hk:b.kind≠ .early) [ea:ArgsV l args vs] [p:PutV l d undef l']
    (n:m.R (Gr b l' (dcall f vs.toArray::ds) (.inRegion ops rest::k) cs)):m.R (Gr b l ds (.inRegion ops (i::rest)::k) cs):=by
  refine m.idle rfl (fun w=>?_) n
  have he:=Fr.eval b l ds (.inRegion ops (i::rest)::k)
  simp only [Fr] at he
  have e:Array.map (ev l) args.toArray=vs.toArray:=by rw [Gx,ea.eq]
  have hw':=Wt.wanted (o:=⟨d,.defer ⟨.value (.func f),args.toArray,ats⟩,ty,pos,af,g⟩) hw
  have hfin:=Fr.finish b l (dcall f vs.toArray::ds) ops i rest k undef ho
  rw [p.eq] at hfin
  have h1:stepG P m.main (Gr b l ds (.inRegion ops (i::rest)::k) cs) w=stepG.apply P true (Fr b l ds (.inRegion ops (i::rest)::k)) cs none (execOp (ev l) ⟨d,.defer ⟨.value (.func f),args.toArray,ats⟩,ty,pos,af,g⟩) w:=by
    simp [Gr,G,stepG,stepG.exec,stepG.oper,Frame.oper?,Fr,ho,hw',hr,he]
    rw [←he,hr]
  have hm:execOp (ev l) ⟨d,.defer ⟨.value (.func f),args.toArray,ats⟩,ty,pos,af,g⟩=Pure.pure (.defer (dcall f vs.toArray)):=by
    simp [execOp,resolve,Deferred.ofValue,ev,dcall,ea.eq]
  have hk':(b.kind==CallKind.early)=false:=by simpa using hk
  rw [h1,hm];unfold Gr
  rw [←hfin];simp [stepG.apply,G,Fr,hk',GStep.after,jdU]
def bD (f:FuncId):Frame:={bF f with kind:= .deferred}
theorem i_unwind {fn:Func} {args:List Value} (hf:P.funcs[f]?=some fn) (hname:(fn.name== "runtime.NumGoroutine")=false) (hb:fn.body=some body) (hn:fn.ntmps=n) (hl:args++List.replicate (n-args.length) undef=l1)
    (t:m.R (Gr (bD f) l1 [] [.code body] ((jeV b l ds todo cs).frame::cs))):m.R (jeV b l (dcall f args.toArray::ds) todo cs):=by
  refine m.idle rfl (fun w=>?_) t
  have h1: ¬fn.name= "runtime.NumGoroutine" :=by simpa using hname
  have e:Frame.enter P f args.toArray .deferred=Fr (bD f) l1 [] [.code body]:=by
    subst hl
    simp [Frame.enter,hf,hb,hn,Fr,bD,bF]
  unfold Gr
  rw [←e];simp [jeV,Fr,G,stepG,unwind,callDeferred,dcall,invoke,callFunc,hf,h1,hb,GStep.after,jdU]
theorem i_leaveD {c:Frame} {fn:Func} (hk:b.kind= .deferred) (hf:P.funcs[b.fn]?=some fn) (hr:fn.results= #[]) (hc:c.mode= .returning) (n:m.R (G c cs)):m.R (jeV b l [] todo (c::cs)):=by
  refine m.idle rfl (fun w=>?_) n
  have h1:=results_none hr l.toArray P w
  have h2:(results fn l.toArray).events P w #[]= #[]:=by simp [results,hr]
  simp [jeV,Fr,G,stepG,unwind,doReturn,hf,h1,h2,hk,hc,GStep.after,seen]
theorem jfS {s:TypeId} {f o:Nat} [t:FieldT P s f off ft]:Still P (Instr.fieldAt s (.pointer (some ⟨bb,o,none⟩)) f) (.pointer (some ⟨bb,o+off,none⟩)):=by
  have:=t.eq
  unfold jog at this
  split at this
  · rename_i fs e
    split at this
    · rename_i x ex
      simp only [gK,beq_iff_eq] at this
      obtain ⟨⟨h1,h2⟩,h3⟩:=this
      subst h1;subst h2
      unfold Instr.fieldAt
      refine Still.bind (jai e) ?_
      simp only [ex]
      refine Still.bind (a:=⟨bb,o,none⟩) (Still.pure _) ?_
      refine Still.bind (a:=⟨bb,o+x.offset,none⟩) ?_ (Still.pure _)
      unfold fieldPlace
      split at h3
      · rename_i ti eti
        refine Still.bind (a:=ti.size) (Still.bind (jbV eti) (Still.pure _)) ?_
        rw [if_neg (by simpa using h3),Addr.add_none];exact Still.pure _
      · cases h3
    · cases this
  · cases this
theorem i_fa0 {s:TypeId} {f:Nat} {x:Operand} (ho:ops[i]?=some ⟨d,.fieldAddr s x f,ty,pos,af,g⟩) (hw:Wt ops l g) [e:OpV l x (.pointer (some ⟨bb,0,none⟩))] [FieldT P s f off ft] [PutV l d (.pointer (some ⟨bb,off,none⟩)) l'] (n:m.R (Gr b l' ds (.inRegion ops rest::k) cs)):
    m.R (Gr b l ds (.inRegion ops (i::rest)::k) cs):=
  i_op (v:= .pointer (some ⟨bb,off,none⟩)) ho hw zS (by
    simp only [execOp,e.eq]
    have:=jfS (P:=P) (s:=s) (f:=f) (bb:=bb) (o:=0)
    rw [GD] at this
    exact Still.value this) n
theorem i_fa {s:TypeId} {f o:Nat} {x:Operand} (ho:ops[i]?=some ⟨d,.fieldAddr s x f,ty,pos,af,g⟩) (hw:Wt ops l g) [e:OpV l x (.pointer (some ⟨bb,o,none⟩))] [FieldT P s f off ft] [PutV l d (.pointer (some ⟨bb,o+off,none⟩)) l'] (n:m.R (Gr b l' ds (.inRegion ops rest::k) cs)):
    m.R (Gr b l ds (.inRegion ops (i::rest)::k) cs):=
  i_op (v:= .pointer (some ⟨bb,o+off,none⟩)) ho hw zS (by simp only [execOp,e.eq];exact Still.value jfS) n
theorem jeP {s:TypeId} {x:Operand} {n:Int} (ho:ops[i]?=some ⟨d,.convert s t x,ty,pos,af,g⟩) (hw:Wt ops l g) [ex:OpV l x (.int kk n)] (hs:(P.underlying s).isSome=true) [it:IntT P t k'] (hn:k'.wrap n=n') [PutV l d (.int k' n') l'] (q:m.R (Gr b l' ds (.inRegion ops rest::k) cs)):
    m.R (Gr b l ds (.inRegion ops (i::rest)::k) cs):=
  i_op (v:= .int k' n') ho hw zS (by
    obtain ⟨u,hu⟩:=Vg.1 hs
    have:=it.eq
    unfold intB at this
    simp only [execOp,ex.eq]
    refine Still.value ?_
    unfold convert
    refine Still.bind (jai hu) ?_
    split at this
    · rename_i k2 e
      have:k2=k':=by simpa using this
      subst this
      refine Still.bind (jai e) ?_
      rw [←hn];cases u<;>exact Still.pure _
    · cases this) q
theorem jgS {x:Operand} {p q:Int} {v:Value} (ho:ops[i]?=some ⟨d,.binOp op t x y u,ty,pos,af,g⟩) (hw:Wt ops l g) [ex:OpV l x (.int kk p)] [ey:OpV l y (.int k2 q)] (hs:op= .shl∨op= .shr) (hv:Op.shift op kk p k2 q=Sem.pure v) [PutV l d v l']
    (n:m.R (Gr b l' ds (.inRegion ops rest::k) cs)):m.R (Gr b l ds (.inRegion ops (i::rest)::k) cs):=
  i_op (v:=v) ho hw zS (by
    simp only [execOp,ex.eq,ey.eq]
    refine Still.value (Still.bind (a:=()) ?_ ?_)
    · rcases hs with rfl|rfl<;>exact Still.pure ()
    · have e:binOp op t (.int kk p) (.int k2 q)=Op.shift op kk p k2 q:=by rcases hs with rfl|rfl<;>rfl
      rw [e,hv];exact Still.pure _) n
theorem i_pickT {c x:Operand} {v:Value} (ho:ops[i]?=some ⟨d,.pick c x y,ty,pos,af,g⟩) (hw:Wt ops l g) [ec:OpV l c (.bool true)] [ex:OpV l x v] [PutV l d v l'] (n:m.R (Gr b l' ds (.inRegion ops rest::k) cs)):m.R (Gr b l ds (.inRegion ops (i::rest)::k) cs):=
  i_op (v:=v) ho hw zS (by simp only [execOp,ec.eq,ex.eq];exact Still.bind (a:=true) (Still.pure _) (Still.pure _)) n
theorem i_pickF {c x:Operand} {v:Value} (ho:ops[i]?=some ⟨d,.pick c x y,ty,pos,af,g⟩) (hw:Wt ops l g) [ec:OpV l c (.bool false)] [ey:OpV l y v] [PutV l d v l'] (n:m.R (Gr b l' ds (.inRegion ops rest::k) cs)):m.R (Gr b l ds (.inRegion ops (i::rest)::k) cs):=
  i_op (v:=v) ho hw zS (by simp only [execOp,ec.eq,ey.eq];exact Still.bind (a:=false) (Still.pure _) (Still.pure _)) n
end
section
variable {P:Program} {m:Im P} {k:List Item}
end
section
variable {P:Program} {m:Im P} {k:List Item}
variable {g:Option (Nat×Bool)}
theorem i_cal (ho:ops[i]?=some ⟨d,.call ⟨.value (.func f),args.toArray,ats⟩,ty,pos,af,g⟩) (hw:Wt ops l g) [ea:ArgsV l args vs] (hf:jbM P f=true)
    (n:m.R (G (Frame.enter P f vs.toArray .normal) (Fr b l ds (.inRegion ops (i::rest)::k)::cs))):m.R (Gr b l ds (.inRegion ops (i::rest)::k) cs):=
  i_call (ex:=(⟨rfl⟩:OpV l (.func f) (.func (.func f) #[] #[]))) ho hw hf (by simpa using n)
theorem jgT {op:Op} {v:Value} (ho:ops[i]?=some ⟨d,op,ty,pos,af,g⟩) [p:PutV l d v l'] (n:m.R (Gr b l' ds (.inRegion ops rest::k) cs)):m.R (G ((Fr b l ds (.inRegion ops (i::rest)::k)).finish v) cs):=by
  rw [fin_at (o:=⟨d,op,ty,pos,af,g⟩) (l':=l') ho];exact n
end
section
variable {P:Program} {Q:ProS} {k:List Item} {s:Q.S}
end
section
variable {P:Program} {Q:ProS} {k:List Item} {s:Q.S}
end
section
variable {P:Program} {s:SS}
variable {k:List Item} {g:Option (Nat×Bool)}
end
section
variable {P:Program} {Q:ProS} {k:List Item} {s:Q.S}
end
def bAnd (k:IntKind) (x y:Int):Int:=k.wrap (BitVec.ofInt k.bits x&&&BitVec.ofInt k.bits y).toNat
def bOr (k:IntKind) (x y:Int):Int:=k.wrap (BitVec.ofInt k.bits x|||BitVec.ofInt k.bits y).toNat
def bClr (k:IntKind) (x y:Int):Int:=k.wrap (BitVec.ofInt k.bits x&&& ~~~BitVec.ofInt k.bits y).toNat
theorem jfh {x y:Int} (h:bAnd k x y=z):binOp .and t (.int k x) (.int k y)=Sem.pure (.int k z):=by
  subst h;simp [binOp,Op.intBits,bAnd];rfl
theorem op_or {x y:Int} (h:bOr k x y=z):binOp .or t (.int k x) (.int k y)=Sem.pure (.int k z):=by
  subst h;simp [binOp,Op.intBits,bOr];rfl
theorem op_clr {x y:Int} (h:bClr k x y=z):binOp .andNot t (.int k x) (.int k y)=Sem.pure (.int k z):=by
  subst h;simp [binOp,Op.intBits,bClr];rfl
theorem op_add {x y:Int} (h:k.wrap (x+y)=z):binOp .add t (.int k x) (.int k y)=Sem.pure (.int k z):=by
  subst h;simp [binOp,Op.intArith];rfl
theorem op_sub {x y:Int} (h:k.wrap (x-y)=z):binOp .sub t (.int k x) (.int k y)=Sem.pure (.int k z):=by
  subst h;simp [binOp,Op.intArith];rfl
theorem jhd {x y:Int} {c:Bool} (h:decide (x=y)=c):binOp .eql t (.int k x) (.int k y)=Sem.pure (.bool c):=by
  subst h;simp [binOp,Op.intCmp];rfl
theorem jqH {x y:Int} {c:Bool} (h:decide (x≠y)=c):binOp .neq t (.int k x) (.int k y)=Sem.pure (.bool c):=by
  subst h;simp [binOp,Op.intCmp];rfl
theorem jnS {x y:Int} {c:Bool} (h:decide (x<y)=c):binOp .lss t (.int k x) (.int k y)=Sem.pure (.bool c):=by
  subst h;simp [binOp,Op.intCmp];rfl
theorem jlK {x y:Int} {c:Bool} (h:decide (x>y)=c):binOp .gtr t (.int k x) (.int k y)=Sem.pure (.bool c):=by
  subst h;simp [binOp,Op.intCmp];rfl
theorem jnR {x y:Int} (hy:0≤y) (h:x.fdiv (2^(min y.toNat k.bits))=z):Op.shift .shr k x k2 y=Sem.pure (.int k z):=by
  subst h;unfold Op.shift;rw [if_neg zO];rfl
theorem op_shl {x y:Int} (hy:0≤y) (h:k.wrap (x*2^(min y.toNat k.bits))=z):Op.shift .shl k x k2 y=Sem.pure (.int k z):=by
  subst h;unfold Op.shift;rw [if_neg zO];rfl
def wgN (v wt:Nat):Int:=((v*4294967296+wt:Nat):Int)
def chkG (v wt:Nat):Bool:=
  bAnd .u64 (wgN v wt) 2147483648==0&&(wgN v wt).fdiv (2^32)==v&&IntKind.i32.wrap v==v&&bAnd .u64 (wgN v wt) 2147483647==wt&&IntKind.u32.wrap wt==wt&&IntKind.u64.wrap (wgN v wt+4294967296)==wgN (v+1) wt&&
  (v==0||IntKind.u64.wrap (wgN v wt+18446744069414584320)==wgN (v-1) wt)&&IntKind.u64.wrap (wgN v wt+1)==wgN v (wt+1)
structure WgB (v wt:Nat):Prop where
  flag:bAnd .u64 (wgN v wt) 2147483648=0
  hi:(wgN v wt).fdiv (2^32)=v
  hi32:IntKind.i32.wrap v=v
  lo:bAnd .u64 (wgN v wt) 2147483647=wt
  lo32:IntKind.u32.wrap wt=wt
  inc:IntKind.u64.wrap (wgN v wt+4294967296)=wgN (v+1) wt
  dec:v≠0→IntKind.u64.wrap (wgN v wt+18446744069414584320)=wgN (v-1) wt
  wait:IntKind.u64.wrap (wgN v wt+1)=wgN v (wt+1)
section
variable {P:Program}
theorem ji8 {m:Md P B} {S:Hp} {ops:Array Oper} (hn: ∀(x:Nat) (o:Oper),ops[x]?=some o→ ∀c:Call,o.op≠ .defer c) {b:Frame} {ds:List Deferred} {k:List Item} {cs:List Frame} {K:Goroutine→Hp→Prop} (s:List Nat): ∀(r:List (Nat×Kd)) (l:List Value) (h:Hp),(∀x∈r,x.2= .free)→
    RegK m S ops r l h (fun l' h'=>m.R K (Gr b l' ds (.inRegion ops s::k) cs) h')→m.R K (Gr b l ds (.inRegion ops (r.map (·.1)++s)::k) cs) h
  |[],l,h,_,t=>t
  |(i,kd)::r,l,h,hr,⟨o,ho,t⟩=>by
    have hk:kd= .free:=hr _ gk
    subst hk
    refine jiq ho (hn _ _ ho) (fun e=>by rcases e with e|e<;>cases e) (jde (fun l' h' t' _=>ji8 hn s r l' h' (fun x hx=>hr x (gN _ hx)) t') t)
theorem jeW {k:List Item} (ho:ops[i]?=some o) (hw:Region.wanted o (yielded ops l.toArray)=true)
    (hd: ∀c,o.op≠ .defer c) (main:Bool) (w:World):stepG P main (Gr b l ds (.inRegion ops (i::rest)::k) cs) w=stepG.apply P true (Fr b l ds (.inRegion ops (i::rest)::k)) cs none (execOp (ev l) o) w:=by
  have he:=Fr.eval b l ds (.inRegion ops (i::rest)::k)
  simp only [Fr] at he
  cases hr:b.roundOf with
  |none=>
    rw [hr] at he
    simp [Gr,G,stepG,stepG.exec,stepG.oper,Frame.oper?,Fr,ho,hw,hr,he]
  |some x=>
    rw [hr] at he
    simp [Gr,G,stepG,stepG.exec,stepG.oper,Frame.oper?,Fr,ho,hw,hr]
    split
    · rename_i c _ hop
      exact absurd hop (hd c)
    · rw [he]
def Mute (P:Program) {α:Type} (s:Sem α) (a:α):Prop:= ∀w,s.run P w= .ok a w∧s.events P w #[]= #[]
theorem Mute.pure {α:Type} (a:α):Mute P (Pure.pure a:Sem α) a:=fun w=>⟨rfl,by simp⟩
theorem joJ {k:List Item} (ho:ops[i]?=some o) (hw:Region.wanted o (yielded ops l.toArray)=true)
    (hd: ∀c,o.op≠ .defer c) {cases:Array CommCase} {bl:Bool} {shape:CommShape} (hx:Mute P (execOp (ev l) o) (.comm cases bl shape)) (main:Bool) (w:World):
    stepG P main (Gr b l ds (.inRegion ops (i::rest)::k) cs) w= .comm (Gr b l ds (.inRegion ops (i::rest)::k) cs) cases bl shape w #[]:=by
  rw [jeW ho hw hd];obtain ⟨e2,e3⟩:=hx w
  simp [stepG.apply,e2,e3,GStep.after,Gr,G,seen]
theorem jic {k:List Item} (ho:ops[i]?=some o) (v:Value):
    Conc.served (Gr b l ds (.inRegion ops (i::rest)::k) cs) v=Gr b (put l o.dst v) ds (.inRegion ops rest::k) cs:=by
  have:=Fr.finish b l ds ops i rest k v ho
  unfold Gr G Conc.served
  simp only
  rw [this]
section
variable {s s':Nat} {i r:Nat} {k:List Item} {c x:Operand} {v:Value} {hr hp:Hp}
end
def kidF (P:Program):Frame:={(default:Frame) with fn:=P.funcs.size,defers:=[],mode:= .panicking [goexitEntry]}
def kid0 (P:Program) (d:Deferred):Goroutine:={frame:={(default:Frame) with fn:=P.funcs.size,defers:=[d],mode:= .panicking [goexitEntry]},callers:=[],status:= .running,dying:=none}
theorem jmF {k:List Item} {x:Operand} {cap:Array Value}
    (ho:ops[i]?=some ⟨d,.go ⟨.value x,#[],ats⟩,ty,pos,af,none⟩) [ex:OpV l x (.func (.func f) first cap)] (w:World):
    stepG P true (Gr b l ds (.inRegion ops (i::rest)::k) cs) w= .spawn (Gr b (put l d undef) ds (.inRegion ops rest::k) cs) (kid0 P {target:= .fn (.func f) cap,args:=first++ #[]}) w #[]:=by
  rw [jeW ho rfl (fun c=>by simp)];have hm:execOp (ev l) ⟨d,.go ⟨.value x,#[],ats⟩,ty,pos,af,none⟩=(do pure (.spawn (←Deferred.ofValue (.func (.func f) first cap) #[])):Sem Next):=by
    simp [execOp,resolve,ex.eq]
  have hfin:=Fr.finish b l ds ops i rest k undef ho
  rw [hm];simp only [Deferred.ofValue,pure_bind]
  unfold Gr
  rw [←hfin];simp [stepG.apply,GStep.after,seen,kid0,G,Fr]
end
theorem jg7 {P:Program} {k:List Item} {x:Operand} {cap:Array Value}
    (ho:ops[i]?=some ⟨none,.go ⟨.value x,#[],ats⟩,ty,pos,af,none⟩) [ex:OpV l x (.func (.func f) first cap)] (w:World):
    stepG P true (Gr b l ds (.inRegion ops (i::rest)::k) cs) w= .spawn (Gr b l ds (.inRegion ops rest::k) cs) (kid0 P {target:= .fn (.func f) cap,args:=first++ #[]}) w #[]:=jmF ho w
section
variable {P:Program} {m:Md P B} {k:List Item} {K:Goroutine→Hp→Prop}
def nodef (ops:Array Oper):Bool:=ops.all fun o=>match o.op with| .defer _=>false|_=>true
theorem jjP (h:nodef ops=true): ∀(x:Nat) (o:Oper),ops[x]?=some o→ ∀c:Call,o.op≠ .defer c:=fun x o ho c e=>by
  unfold nodef at h
  rw [Gm] at h
  have:=h o (VL ho)
  rw [e] at this
  cases this
theorem jid {id:Nat} (r:List (Nat×Kd)) (s:List Nat) (hn:(nodef ops&&r.all fun x=>x.2== .free)=true) (hr:r.map (·.1)++s=List.range ops.size)
    (t:RegK m [] ops r l h fun l' h'=>m.R K (Gr b l' ds (.inRegion ops s::k) cs) h'):m.R K (Gr b l ds (.code (.region id ops false)::k) cs) h:=by
  simp only [gK,gX,beq_iff_eq] at hn
  exact jeF (hr▸ji8 (jjP hn.1) s r l h hn.2 t)
theorem jlz (r:List (Nat×Kd)) (hn:(nodef ops&&r.all fun x=>x.2== .free)=true) {q:List Nat} (hr:r.map (·.1)=q)
    (t:RegK m [] ops r l h fun l' h'=>m.R K (Gr b l' ds k cs) h'):m.R K (Gr b l ds (.inRegion ops q::k) cs) h:=by
  simp only [gK,gX,beq_iff_eq] at hn
  have:=ji8 (m:=m) (b:=b) (ds:=ds) (k:=k) (cs:=cs) (K:=K) (jjP hn.1) [] r l h hn.2 (RegK.mono (fun l' h' x=>jbv x) t)
  rw [gd,hr] at this
  exact this
end
def ro (h:Hp):Hp:=h.map fun c=>{c with rw:=false}
theorem jif {c:Chunk} (hc:c∈ro h):c.rw=false∧ ∃d∈h,d.b=c.b∧d.o=c.o:=by
  obtain ⟨d,hd,rfl⟩:=gP.1 hc
  exact ⟨rfl,d,hd,rfl,rfl⟩
theorem jpJ (h X:Hp):Weak B (h++X) (ro h++X):=by
  refine ⟨fun w s=>⟨s.base,fun c hc=>?_,?_⟩,fun c hc=>?_⟩
  · rcases gQ.1 hc with hc|hc
    · obtain ⟨_,d,hd,e1,e2⟩:=jif hc
      have:=s.mem d (GN _ hd)
      rw [e1,e2] at this;exact this
    · exact s.mem c (GF _ hc)
  · have hp:=gq.1 s.apart
    refine gq.2 ⟨?_,hp.2.1,fun c hc d hd hr=>?_⟩
    · unfold ro
      rw [Gy];exact hp.1.imp fun _ x=>by simp at x
    · obtain ⟨h1,c',hc',e1,_⟩:=jif hc
      rw [←e1];exact hp.2.2 c' hc' d hd (.inr (hr.resolve_left (by rw [h1];simp)))
  · rcases gQ.1 hc with hc|hc
    · obtain ⟨h1,d,hd,e1,_⟩:=jif hc
      exact ⟨d,GN _ hd,e1,fun x=>by rw [h1] at x;cases x⟩
    · exact ⟨c,GF _ hc,rfl,id⟩
theorem Rd.ro {a:Addr} {v:Value} (r:Rd B h a v):Rd B (Lo.ro h) a v:=by
  obtain ⟨s,r|⟨x,hx,c,t,f,e,e',hv⟩⟩:=r
  · exact ⟨s,.inl r⟩
  · exact ⟨s,.inr ⟨{x with rw:=false},gP.2 ⟨x,hx,rfl⟩,c,t,f,e,e',hv⟩⟩
theorem RdS.ro {k:Nat} {v:Value} (r:RdS B h k v n ys):RdS B (Lo.ro h) k v n ys:=by
  obtain ⟨p,c,e,hl,r|⟨b,o,e',rd⟩⟩:=r
  · exact ⟨p,c,e,hl,.inl r⟩
  · exact ⟨p,c,e,hl,.inr ⟨b,o,e',fun j hj=>(rd j hj).ro⟩⟩
section
variable {P:Program} {m:Md P B} {g:Option (Nat×Bool)}
def chanB (P:Program) (t:TypeId):Bool:=match P.underlying t with|some (.chan _ e)=>(P.info? e).isSome|_=>false
theorem k_mkchan {x:Operand} (hk:kd= .free∨(kd= .keep∧S.Sublist h)) (ho:ops[i]?=some ⟨d,.makeChan t x,ty,pos,af,g⟩) (hw:Wt ops l g) (hcb:chanB P t=true) [ex:OpV l x (.int .i64 0)]
    (n: ∀q,RegK m S ops r (put l d (.chan (some q))) (h++[⟨true,q,.chan 0 #[] false 0 0 false⟩]) C):RegK m S ops ((i,kd)::r) l h C:=by
  obtain ⟨dir,e,inf,ht,hi⟩: ∃dir e inf,P.underlying t=some (.chan dir e)∧P.info? e=some inf:=by
    unfold chanB at hcb
    split at hcb
    · rename_i dir e he
      obtain ⟨inf,hi⟩:=Vg.1 hcb
      exact ⟨dir,e,inf,he,hi⟩
    · cases hcb
  refine RegK.ke (hk.symm.imp (·.1) id) ho hw ?_
  simp only [execOp,ex.eq]
  refine Tri.bind ?_
  unfold Instr.makeChan
  refine Tri.bind (Tri.pure (a:=(0:Int)) ?_)
  refine Tri.bind ((jai ht).reads.tri ?_)
  dsimp only
  refine Tri.bind (Reads.tri (a:=inf) (Reads.bind Reads.program' (by simp only [hi];exact Reads.pure _)) ?_)
  rw [if_neg (by simp [IntKind.max,IntKind.bits,IntKind.signed])];exact Tri.bind (jkf fun q _ _=>Tri.pure (Tri.pure ⟨hk.imp (fun e=>e) fun x=>x.2.trans (gI _ _),n q⟩))
theorem Mute.bind {α β:Type} {s:Sem α} {f:α→Sem β} {a:α} {b:β} (h1:Mute P s a) (h2:Mute P (f a) b):Mute P (s>>=f) b:=fun w=>by
  obtain ⟨r,e⟩:=h1 w
  obtain ⟨r',e'⟩:=h2 w
  refine ⟨by rw [Sem.run_bind,r];exact r',?_⟩
  rw [Sem.events_bind,r];simp only [Result.evThen_ok,e]
  exact e'
theorem Mute.program:Mute P Go.program P:=fun w=>⟨by simp [Go.program,Sem.run],by simp⟩
theorem Mute.zero {v:Value} [z:ZeroT P t v]:Mute P (zeroValue t) v:=by
  have:=z.eq
  cases e:P.info? t with
  |none=>rw [e] at this;cases this
  |some i=>
    rw [e] at this
    simp only [VO] at this
    unfold zeroValue typeInfo
    refine Mute.bind (a:=i) (Mute.bind Mute.program ?_) ?_
    · simp only [e];exact Mute.pure _
    · simp only [this];exact Mute.pure _
end
end Go.Lo
namespace Go.Lo
open Go.Conc (G)
section
variable {P:Program} {m:Md P B} {g:Option (Nat×Bool)}
theorem k_shl {x:Operand} {b:Int} (v:Int) (ho:ops[i]?=some ⟨d,.binOp .shl t x y u,ty,pos,af,g⟩) (hw:Wt ops l g) [KHeap kd S h H] [ex:OpV l x (.int k a)] [ey:OpV l y (.int k' b)] (h0:0≤b) (hv:k.wrap (a*2^(min b.toNat k.bits))=v) [PutV l d (.int k v) l'] (q:RegK m S ops r l' h C):RegK m S ops ((i,kd)::r) l h C:=
  RegK.rd (v:= .int k v) ho hw (by
    simp only [execOp,ex.eq,ey.eq]
    refine Reads.value (Reads.bind (a:=()) (Reads.pure _) ?_)
    show Reads P B (Op.shift .shl k a k' b) H _
    unfold Op.shift
    rw [if_neg zO,←hv];exact Reads.pure _) q
theorem ap_last {hc:Hp} {o:Obj} {w:World} (s:Sat B (F++[⟨true,q,o⟩]) w) (hF: ∀c∈F,c.rw=false) (hd: ∀d∈hc,d.rw=true→d.b=q):ApH F hc:=fun c hc' d hd' hr=>by
  have h1:=hF c hc'
  have h2:d.rw=true:=hr.resolve_left (by rw [h1];simp)
  rw [hd d hd' h2];exact (gq.1 s.apart).2.2 c hc' _ (gr.2 rfl) (.inr rfl)
end
theorem jas {t k:Nat} {v:Value} {cs:List Value} {new:Hp} (o:OwnS t k v n cs new): ∃p c,v= .slice p n c∧n≤c∧RdS B new k (.slice p n c) n cs:=by
  obtain ⟨p,c,rfl,_⟩:=o.len
  exact ⟨p,c,rfl,o.cap,o.rd (gE _)⟩
section
variable {P:Program}
theorem jqq (dd:Nat) (hb:P.underlying t=some .bool) (a c:Bool):Reads P B (Op.equalIn (dd+1) t (.bool a) (.bool c)) h (a==c):=by
  unfold Op.equalIn
  refine Reads.bind (jai hb).reads ?_
  exact Reads.pure _
end
section
variable {P:Program}
end
end Go.Lo
namespace Go.Proofs
open Go.Lo
open Go.Conc (G)
section
variable {P:Program} {m:Md P B} {g:Option (Nat×Bool)}
theorem jfk {x:Operand} {b:Int} (ho:ops[i]?=some ⟨d,.binOp .eql t x y u,ty,pos,af,g⟩) (hw:Wt ops l g) [kh:KHeap kd S h H] [ex:OpV l x (.int k a)] [ey:OpV l y (.int k b)] (e:a=b) [pt:PutV l d (.bool true) l'] (q:RegK m S ops r l' h C):RegK m S ops ((i,kd)::r) l h C:=by
  have pq:=pt;rw [←decide_eq_true e] at pq;exact k_eql (l':=l') ho hw q
theorem jlU {x:Operand} {b:Int} (ho:ops[i]?=some ⟨d,.binOp .eql t x y u,ty,pos,af,g⟩) (hw:Wt ops l g) [kh:KHeap kd S h H] [ex:OpV l x (.int k a)] [ey:OpV l y (.int k b)] (e:a≠b) [pt:PutV l d (.bool false) l'] (q:RegK m S ops r l' h C):RegK m S ops ((i,kd)::r) l h C:=by
  have pq:=pt;rw [←decide_eq_false e] at pq;exact k_eql (l':=l') ho hw q
theorem jfj {x:Operand} {b:Int} (ho:ops[i]?=some ⟨d,.binOp .neq t x y u,ty,pos,af,g⟩) (hw:Wt ops l g) [kh:KHeap kd S h H] [ex:OpV l x (.int k a)] [ey:OpV l y (.int k b)] (e:a=b) [pt:PutV l d (.bool false) l'] (q:RegK m S ops r l' h C):RegK m S ops ((i,kd)::r) l h C:=by
  have pq:=pt;rw [←decide_eq_false (fun h:a≠b=>h e)] at pq;exact k_neq (l':=l') ho hw q
theorem k_gtrF {x:Operand} {b:Int} (ho:ops[i]?=some ⟨d,.binOp .gtr t x y u,ty,pos,af,g⟩) (hw:Wt ops l g) [kh:KHeap kd S h H] [ex:OpV l x (.int k a)] [ey:OpV l y (.int k b)] (e: ¬b<a) [pt:PutV l d (.bool false) l'] (q:RegK m S ops r l' h C):RegK m S ops ((i,kd)::r) l h C:=by
  have pq:=pt;rw [←decide_eq_false e] at pq;exact k_gtr (l':=l') ho hw q
theorem k_lssF {x:Operand} {b:Int} (ho:ops[i]?=some ⟨d,.binOp .lss t x y u,ty,pos,af,g⟩) (hw:Wt ops l g) [kh:KHeap kd S h H] [ex:OpV l x (.int k a)] [ey:OpV l y (.int k b)] (e: ¬a<b) [pt:PutV l d (.bool false) l'] (q:RegK m S ops r l' h C):RegK m S ops ((i,kd)::r) l h C:=by
  have pq:=pt;rw [←decide_eq_false e] at pq;exact k_lss (l':=l') ho hw q
theorem k_leqT {x:Operand} {b:Int} (ho:ops[i]?=some ⟨d,.binOp .leq t x y u,ty,pos,af,g⟩) (hw:Wt ops l g) [kh:KHeap kd S h H] [ex:OpV l x (.int k a)] [ey:OpV l y (.int k b)] (e:a≤b) [pt:PutV l d (.bool true) l'] (q:RegK m S ops r l' h C):RegK m S ops ((i,kd)::r) l h C:=by
  have pq:=pt;rw [←decide_eq_true e] at pq;exact k_leq (l':=l') ho hw q
theorem k_gtrT {x:Operand} {b:Int} (ho:ops[i]?=some ⟨d,.binOp .gtr t x y u,ty,pos,af,g⟩) (hw:Wt ops l g) [kh:KHeap kd S h H] [ex:OpV l x (.int k a)] [ey:OpV l y (.int k b)] (e:b<a) [pt:PutV l d (.bool true) l'] (q:RegK m S ops r l' h C):RegK m S ops ((i,kd)::r) l h C:=by
  have pq:=pt;rw [←decide_eq_true e] at pq;exact k_gtr (l':=l') ho hw q
theorem jn2 {x:Operand} {b:Int} (ho:ops[i]?=some ⟨d,.binOp .lss t x y u,ty,pos,af,g⟩) (hw:Wt ops l g) [kh:KHeap kd S h H] [ex:OpV l x (.int k a)] [ey:OpV l y (.int k b)] (e:a<b) [pt:PutV l d (.bool true) l'] (q:RegK m S ops r l' h C):RegK m S ops ((i,kd)::r) l h C:=by
  have pq:=pt;rw [←decide_eq_true e] at pq;exact k_lss (l':=l') ho hw q
theorem k_geqF {x:Operand} {b:Int} (ho:ops[i]?=some ⟨d,.binOp .geq t x y u,ty,pos,af,g⟩) (hw:Wt ops l g) [kh:KHeap kd S h H] [ex:OpV l x (.int k a)] [ey:OpV l y (.int k b)] (e: ¬b≤a) [pt:PutV l d (.bool false) l'] (q:RegK m S ops r l' h C):RegK m S ops ((i,kd)::r) l h C:=by
  have pq:=pt;rw [←decide_eq_false e] at pq;exact jrf (l':=l') ho hw q
theorem jec (hb:P.underlying t=some .bool) (a c:Bool):Reads P B (Op.equal t (.bool a) (.bool c)) H (a==c):=by
  show Reads P B (Op.equalIn 10000 t (.bool a) (.bool c)) H (a==c)
  unfold Op.equalIn
  exact Reads.bind (jai hb).reads (Reads.pure _)
theorem k_eqBT {x:Operand} {a c:Bool} (ho:ops[i]?=some ⟨d,.binOp .eql t x y u,ty,pos,af,g⟩) (hw:Wt ops l g) (hb:P.underlying t=some .bool) [KHeap kd S h H] [ex:OpV l x (.bool a)] [ey:OpV l y (.bool c)] (e:a=c) [PutV l d (.bool true) l'] (q:RegK m S ops r l' h C):RegK m S ops ((i,kd)::r) l h C:=
  RegK.rd (v:= .bool true) ho hw (by
    subst e
    simp only [execOp,ex.eq,ey.eq]
    refine Reads.value (Reads.bind (a:=()) (Reads.pure _) ?_)
    show Reads P B (Op.equal t (.bool a) (.bool a)>>=fun b=>pure (Value.bool b)) H _
    have:=jec (P:=P) (B:=B) (H:=H) hb a a
    rw [beq_self_eq_true] at this
    exact Reads.bind this (Reads.pure _)) q
theorem jra {x:Operand} {a c:Bool} (ho:ops[i]?=some ⟨d,.binOp .neq t x y u,ty,pos,af,g⟩) (hw:Wt ops l g) (hb:P.underlying t=some .bool) [KHeap kd S h H] [ex:OpV l x (.bool a)] [ey:OpV l y (.bool c)] (e:a=c) [PutV l d (.bool false) l'] (q:RegK m S ops r l' h C):RegK m S ops ((i,kd)::r) l h C:=
  RegK.rd (v:= .bool false) ho hw (by
    subst e
    simp only [execOp,ex.eq,ey.eq]
    refine Reads.value (Reads.bind (a:=()) (Reads.pure _) ?_)
    show Reads P B (Op.equal t (.bool a) (.bool a)>>=fun b=>pure (Value.bool !b)) H _
    have:=jec (P:=P) (B:=B) (H:=H) hb a a
    rw [beq_self_eq_true] at this
    exact Reads.bind this (Reads.pure _)) q
theorem k_rem {x:Operand} {a b:Nat} (ho:ops[i]?=some ⟨d,.binOp .rem t x y u,ty,pos,af,g⟩) (hw:Wt ops l g) [KHeap kd S h H] [ex:OpV l x (.int .i64 (a:Int))] [ey:OpV l y (.int .i64 (b:Int))] (hb:0<b) [PutV l d (.int .i64 ((a%b:Nat):Int)) l'] (q:RegK m S ops r l' h C):RegK m S ops ((i,kd)::r) l h C:=
  RegK.rd (v:= .int .i64 ((a%b:Nat):Int)) ho hw (jaY ex.eq ey.eq zS (by
    have:(b:Int)≠0:=by omega
    simp only [binOp,Op.intDiv,if_neg this,Int.ofNat_tmod]
    rfl)) q
end
theorem jn8 {p:Prop} {v:Value} (h:IsB p v): ∃t,v= .bool t:=by rcases h with ⟨_,e⟩|⟨_,e⟩<;>exact ⟨_,e⟩
theorem jn5 {p:Prop} {v w:Value} (h:IsB p v) (k:IsB p w):v=w:=by
  rcases h with ⟨a,rfl⟩|⟨a,rfl⟩<;>rcases k with ⟨b,rfl⟩|⟨b,rfl⟩
  · rfl
  · exact absurd a b
  · exact absurd b a
  · rfl
theorem isB_true {p:Prop} {v:Value} (h:IsB p v) (k:p):v= .bool true:=h.elim (fun x=>x.2) fun x=>absurd k x.1
end Go.Proofs
namespace Go.Lo
open Go.Conc
section
variable {P:Program} {m:Md P B} {g:Option (Nat×Bool)}
theorem k_bldA {t e k:Nat} {ps:List (Nat×Operand)} {parts:List (Nat×Value)} {zs cs:List Value} (ho:ops[i]?=some ⟨d,.build t ps.toArray,ty,pos,af,g⟩) (hw:Wt ops l g) [KHeap kd S h H] [a:PartsV l ps parts] [ArrayT P t n e k] [ZeroT P t (.agg zs.toArray)] [f:PartsL k 0 parts cs] (hl:zs.length=parts.length*k) [PutV l d (.agg cs.toArray) l']
    (q:RegK m S ops r l' h C):RegK m S ops ((i,kd)::r) l h C:=
  RegK.rd (v:= .agg cs.toArray) ho hw (by
    obtain ⟨hu,hs⟩:=jd4 (P:=P) (B:=B) (h:=H) (t:=t)
    simp only [execOp]
    have e:(Array.map (fun x:Nat×Operand=>(x.1,ev l x.2)) ps.toArray)=parts.toArray:=by rw [Gx,←a.eq]
    show Reads P B (Instr.build t (Array.map (fun x:Nat×Operand=>(x.1,ev l x.2)) ps.toArray)>>=fun v=>Pure.pure (Next.value v)) H _
    rw [e];refine Reads.value ?_
    unfold Instr.build
    refine Reads.bind (reads_zero (v:= .agg zs.toArray)) ?_
    refine Reads.bind (jai hu).reads ?_
    refine Reads.bind hs ?_
    have:=f.eq [] zs zS hl
    simp only [GI] at this
    simp only [Value.cells,this]
    exact Reads.pure _) q
end
end Go.Lo
namespace Go.Lo
def mosts:List Int:=[9,11,7]
def jdt (n:Nat):List Int:=[((n/96:Nat):Int),((n/8%12:Nat):Int),((n%8:Nat):Int)]
def jau (s:Str):List Int:=(rdF mosts s [0,0,0] 0 0).1
def jbc (s:Str):Bool:=(rdF mosts s [0,0,0] 0 0).2
def jfC (p:List Int) (n:Nat):Bool:=(List.range 3).all fun i=>decide (p.getD i 0<0)||decide (p.getD i 0=(jdt n).getD i 0)
def jkJ (p:List Int):List Int:=((List.range 960).filter (jfC p)).map fun (n:Nat)=>(n:Int)
def jdw (s:Str):List Int:=if jbc s then jkJ (jau s) else []
def jjn:Str:=[45]
def jbo (b:Tb) (bt:Bool):List Ln:=if bt then b.butts else b.waters
def jcF (b:Tb) (c:Ce):Ln:=(jbo b c.butt).getD c.line.toNat default
def jeu (b:Tb) (c:Ce):Bool:=decide (0≤c.line)&&decide (c.line<(jbo b c.butt).length)&&decide (0≤c.st)&&decide (c.st<b.sts.length)
def jcG (b:Tb) (c:Ce):Str:=(jcF b c).figs.getD c.st.toNat []
def rowT (b:Tb) (bt:Bool) (i:Nat):List Ce:=((List.range b.sts.length).map fun (j:Nat)=>(⟨bt,(i:Int),(j:Int)⟩:Ce)).filter fun c=>jeu b c&&decide (jcG b c≠jjn)
def jab (b:Tb):List Ce:=rowT b false 0++rowT b false 1++(rowT b true 0++rowT b true 1)
def jqn (la lc ma mc:Int):Bool:=decide (la=lc)||(decide (ma≤mc)==decide (la<lc))||decide (ma=mc)
def jnB (la lc ma mc:Int):Bool:=if mc<la then decide (ma≥lc) else decide (mc=la)||decide (ma≤lc)
def jaS (b:Tb) (a c:Ce) (ma mc:Int):Bool:=
  if a.st≠c.st then true
  else if a.butt=c.butt then jqn (jcF b a).lat (jcF b c).lat ma mc
  else if a.butt then jnB (jcF b c).lat (jcF b a).lat mc ma
  else jnB (jcF b a).lat (jcF b c).lat ma mc
def jf3 (b:Tb) (cs:List Ce) (wr:List Int) (ms:List Int) (v:Int):Bool:=
  (List.range ms.length).all fun i=>decide ((ms.length:Int)∈wr)||decide ((i:Int)∈wr)||jaS b (cs.getD i default) (cs.getD ms.length default) (ms.getD i 0) v
def jev (b:Tb) (cs:List Ce) (wr:List Int) (k:Nat):List Int:=if (k:Int)∈wr then [0] else jdw (jcG b (cs.getD k default))
def jgV (b:Tb) (cs:List Ce) (wr:List Int):Nat→List Int→List (List Int)
  |0,ms=>[ms]
  |k+1,ms=>((jev b cs wr ms.length).filter (jf3 b cs wr ms)).flatMap fun v=>jgV b cs wr k (ms++[v])
def jcU (b:Tb) (wr:List Int):List (List Int):=jgV b (jab b) wr (jab b).length []
end Go.Lo
namespace Go.Lo
open Go.Conc
section
variable {P:Program} {m:Md P B} {g:Option (Nat×Bool)}
theorem k_subW {x:Operand} {b:Int} (ho:ops[i]?=some ⟨d,.binOp .sub t x y u,ty,pos,af,g⟩) (hw:Wt ops l g) [KHeap kd S h H] [ex:OpV l x (.int k a)] [ey:OpV l y (.int k b)] (hr:k.wrap (a-b)=z) [PutV l d (.int k z) l']
    (n:RegK m S ops r l' h C):RegK m S ops ((i,kd)::r) l h C:=
  RegK.rd (v:= .int k z) ho hw (jaY ex.eq ey.eq zS (by simp [binOp,Op.intArith,hr];rfl)) n
theorem joa {v:List Int} {k:Nat} (hl:k<v.length):(jaq v)[k]?=some (.int .i64 (v.getD k 0)):=by
  rw [ga,gD hl,gC,gD hl];rfl
theorem jn9 {v:List Int} {k:Nat} {x:Int}:(jaq v).set k (.int .i64 x)=jaq (v.set k x):=by
  exact (Vf ..).symm
theorem jre {b o:Nat} {x:Operand} {v:List Int} {rw:Bool} {f:Nat×Nat} (ho:ops[i]?=some ⟨d,.load t x,ty,pos,af,g⟩) (hw:Wt ops l g) [KHeap kd S h H] [e:OpV l x (.pointer (some ⟨b,o,none⟩))] [Scal P t]
    [q:Has H b rw (.cells (jaq v).toArray t' f)] (k:Nat) (hk:o=k) (hl:k<v.length) [PutV l d (.int .i64 (v.getD k 0)) l'] (n:RegK m S ops r l' h C):RegK m S ops ((i,kd)::r) l h C:=
  jaI (a:=⟨b,o,none⟩) ho hw (Rd.held q.mem (by rw [hk,gZ];exact joa hl)) n
theorem set_seg {cs:List Value} {k:Nat} {u:Value} (h:k<cs.length):cs.take k++[u]++cs.drop (k+1)=cs.set k u:=by
  rw [Gi,if_pos h];simp
theorem k_stI {b o:Nat} {x:Operand} {v:List Int} {rw:Bool} (ho:ops[i]?=some ⟨none,.store t x y,ty,pos,af,g⟩) (hw:Wt ops l g) [KSub kd S h'] [ex:OpV l x (.pointer (some ⟨b,o,none⟩))] [ey:OpV l y (.int .i64 z)] [Scal P t]
    [q:Has h b rw (.cells (jaq v).toArray t' (0,0))] (k:Nat) (hk:o=k) (hl:k<v.length) [p:Upd h b (.cells (jaq (v.set k z)).toArray t' (0,0)) h'] (n:RegK m S ops r l h' C):RegK m S ops ((i,kd)::r) l h C:=by
  haveI:SetSeg (jaq v) o [.int .i64 z] (jaq (v.set k z)):=⟨by
    subst hk
    refine ⟨?_,by simp;omega⟩
    rw [←jn9];exact (set_seg (by simpa using hl)).symm⟩
  exact k_st1 ho hw n
theorem seg_all {cs:List Value} (h:cs.length=n):Seg cs 0 n cs:=⟨by subst h;simp⟩
theorem jdc {b k:Nat} {x:Operand} {v:List Int} {rw:Bool} {f:Nat×Nat} (ho:ops[i]?=some ⟨d,.load t x,ty,pos,af,g⟩) (hw:Wt ops l g) [KHeap kd S h H] [e:OpV l x (.pointer (some ⟨b,0,none⟩))] [AggT P t k]
    [q:Has H b rw (.cells (jaq v).toArray t' f)] (hl:v.length=k) [PutV l d (.agg (jaq v).toArray) l'] (n:RegK m S ops r l' h C):RegK m S ops ((i,kd)::r) l h C:=by
  haveI:Seg (jaq v) 0 k (jaq v):=seg_all (by simpa using hl)
  exact jhx ho hw n
theorem jer {b k:Nat} {x:Operand} {cs:List Value} {w:List Int} {rw:Bool} (ho:ops[i]?=some ⟨none,.store t x y,ty,pos,af,g⟩) (hw:Wt ops l g) [KSub kd S h'] [ex:OpV l x (.pointer (some ⟨b,0,none⟩))] [ey:OpV l y (.agg (jaq w).toArray)] [AggT P t k]
    [q:Has h b rw (.cells cs.toArray t' (0,0))] (hl:w.length=k) (hv:cs.length=w.length) [p:Upd h b (.cells (jaq w).toArray t' (0,0)) h'] (n:RegK m S ops r l h' C):RegK m S ops ((i,kd)::r) l h C:=by
  haveI:SetSeg cs 0 (jaq w) (jaq w):=⟨by simp [hv,gS],by simp [hv]⟩
  exact jlP ho hw (by simpa using hl) n
theorem k_snext2 {p:Nat} {x:Operand} {rw:Bool} {h':Nat→Hp} (ho:ops[i]?=some ⟨d,.next x true,ty,pos,af,g⟩) (hw:Wt ops l g) [ex:OpV l x (.pointer (some ⟨q,0,none⟩))] [hq:Has h q rw (sitO s p)] [u: ∀p,Upd h q (sitO s p) (h' p)]
    (done:s.length≤p→RegK m S ops r (put l d (.tuple [.bool false].toArray)) h C)
    (more: ∀(c:UInt8) (ru p':Nat),s[p]?=some c→(c.toNat<128∧ru=c.toNat∧p'=p+1)∨(128≤c.toNat∧128≤ru∧ru<4194304∧p<p')→RegK m S ops r (put l d (.tuple [.bool true,.int .i64 p,.int .i32 ru].toArray)) (h' p') C):
    RegK m S ops ((i,.free)::r) l h C:=
  k_snext ho hw done (fun c hc h1=>more c c.toNat (p+1) hc (.inl ⟨h1,rfl,rfl⟩)) fun c u w hc h1 h2 h3 h4=>more c u (p+w) hc (.inr ⟨h1,h2,h3,by omega⟩)
theorem joU (dd:Nat) [ArrayT P t 3 e 1] [Scal P e] (he:P.underlying e=some (.int .i64)) (a b c a' b' c':Int):Reads P B (Op.equalIn (dd+2) t (.agg [.int .i64 a,.int .i64 b,.int .i64 c].toArray) (.agg [.int .i64 a',.int .i64 b',.int .i64 c'].toArray)) h (a==a'&&(b==b'&&c==c')):=by
  obtain ⟨hu,hs⟩:=jd4 (P:=P) (B:=B) (h:=h) (t:=t)
  unfold Op.equalIn
  refine Reads.bind (jai hu).reads ?_
  dsimp only
  refine Reads.bind hs ?_
  rw [Std.Legacy.Range.forIn_eq_forIn_range'];simp only [Std.Legacy.Range.size]
  simp only [List.range',xD,xS,bind_assoc]
  refine Reads.bind (jaM (v:= .int .i64 a) rfl) (Reads.bind (jaM (v:= .int .i64 a') rfl) (Reads.bind (jds dd he a a') ?_))
  cases h1:(a==a')
  · simp only [Gk,if_true,pure_bind,Vl];exact Reads.pure _
  · simp only [Gt,gx,if_false,pure_bind,vm,bind_assoc]
    refine Reads.bind (jaM (v:= .int .i64 b) rfl) (Reads.bind (jaM (v:= .int .i64 b') rfl) (Reads.bind (jds dd he b b') ?_))
    cases h2:(b==b')
    · simp only [Gk,if_true,pure_bind,Vl];exact Reads.pure _
    · simp only [Gt,gx,if_false,pure_bind,vm,bind_assoc]
      refine Reads.bind (jaM (v:= .int .i64 c) rfl) (Reads.bind (jaM (v:= .int .i64 c') rfl) (Reads.bind (jds dd he c c') ?_))
      cases h3:(c==c')
      · simp only [Gk,if_true,pure_bind];exact Reads.pure _
      · simp only [Gt,gx,if_false,pure_bind];exact Reads.pure _
theorem jjR {x:Operand} {ws:List Value} {e:Bool} (ho:ops[i]?=some ⟨d,.binOp .eql t x y u,ty,pos,af,g⟩) (hw:Wt ops l g) [KHeap kd S h H] [ex:OpV l x (.agg vs.toArray)] [ey:OpV l y (.agg ws.toArray)]
    (hg:P.eqGuardType P.depth t=false) (he:Reads P B (Op.equalIn 10000 t (.agg vs.toArray) (.agg ws.toArray)) H e) [PutV l d (.bool e) l'] (q:RegK m S ops r l' h C):RegK m S ops ((i,kd)::r) l h C:=
  RegK.rd (v:= .bool e) ho hw (by
    simp only [execOp,ex.eq,ey.eq]
    refine Reads.value (Reads.bind (a:=()) ?_ ?_)
    · unfold eqGuard
      refine Reads.bind Reads.program' (Reads.bind Reads.program' ?_)
      rw [if_pos (by simp [hg])];exact Reads.pure _
    · show Reads P B (Op.equal t (.agg vs.toArray) (.agg ws.toArray)>>=fun b=>pure (Value.bool b)) H _
      exact Reads.bind he (Reads.pure _)) q
theorem jnr {v:List Int} (h:v.length=3): ∃a b c,v=[a,b,c]:=by
  match v,h with
  |[a,b,c],_=>exact ⟨a,b,c,rfl⟩
theorem eqA3 [ArrayT P t 3 e 1] [Scal P e] (he:P.underlying e=some (.int .i64)) {v w:List Int} (hv:v.length=3) (hw:w.length=3):Reads P B (Op.equalIn 10000 t (.agg (jaq v).toArray) (.agg (jaq w).toArray)) H (decide (v=w)):=by
  obtain ⟨a,b,c,rfl⟩:=jnr hv
  obtain ⟨a',b',c',rfl⟩:=jnr hw
  have:=joU (P:=P) (B:=B) (h:=H) 9998 (t:=t) he a b c a' b' c'
  have e2:(a==a'&&(b==b'&&c==c'))=decide ([a,b,c]=[a',b',c']):=by
    rw [xE];simp
  rw [e2] at this
  exact this
theorem k_eqlA3 {x:Operand} {v w:List Int} (ho:ops[i]?=some ⟨d,.binOp .eql t x y u,ty,pos,af,g⟩) (hw:Wt ops l g) [KHeap kd S h H] [ex:OpV l x (.agg (jaq v).toArray)] [ey:OpV l y (.agg (jaq w).toArray)] [ArrayT P t 3 e 1] [Scal P e]
    (hg:P.eqGuardType P.depth t=false) (he:P.underlying e=some (.int .i64)) (hv:v.length=3) (hv':w.length=3) [pt:PutV l d (.bool true) l'] [pf:PutV l d (.bool false) l''] (yes:v=w→RegK m S ops r l' h C) (no:v≠w→RegK m S ops r l'' h C):RegK m S ops ((i,kd)::r) l h C:=by
  have hr:=eqA3 (P:=P) (B:=B) (H:=H) (t:=t) he hv hv'
  by_cases e:v=w
  · rw [decide_eq_true e] at hr;exact jjR ho hw hg hr (yes e)
  · rw [decide_eq_false e] at hr;exact jjR ho hw hg hr (no e)
theorem k_neqA3 {x:Operand} {v w:List Int} (ho:ops[i]?=some ⟨d,.binOp .neq t x y u,ty,pos,af,g⟩) (hw:Wt ops l g) [KHeap kd S h H] [ex:OpV l x (.agg (jaq v).toArray)] [ey:OpV l y (.agg (jaq w).toArray)] [ArrayT P t 3 e 1] [Scal P e]
    (hg:P.eqGuardType P.depth t=false) (he:P.underlying e=some (.int .i64)) (hv:v.length=3) (hv':w.length=3) [pt:PutV l d (.bool true) l'] [pf:PutV l d (.bool false) l''] (yes:v≠w→RegK m S ops r l' h C) (no:v=w→RegK m S ops r l'' h C):RegK m S ops ((i,kd)::r) l h C:=by
  have hr:=eqA3 (P:=P) (B:=B) (H:=H) (t:=t) he hv hv'
  by_cases e:v=w
  · rw [decide_eq_true e] at hr
    haveI:PutV l d (.bool !true) l'':=pf
    exact k_neqG ho hw hg hr (no e)
  · rw [decide_eq_false e] at hr
    haveI:PutV l d (.bool !false) l':=pt
    exact k_neqG ho hw hg hr (yes e)
theorem jn3 {t e k:Nat} {cs:List Value} {j:Int} {x:Operand} (ho:ops[i]?=some ⟨d,.index t x y,ty,pos,af,g⟩) (hw:Wt ops l g) [KHeap kd S h H] [ex:OpV l x (.agg cs.toArray)] [ey:OpV l y (.int ik j)] [ArrayT P t n e k] [AggT P e k] (h0:0≤j) (h1:j<n) (hv:(cs.drop (j.toNat*k)).take k=vs) [PutV l d (.agg vs.toArray) l']
    (q:RegK m S ops r l' h C):RegK m S ops ((i,kd)::r) l h C:=
  RegK.rd (v:= .agg vs.toArray) ho hw (by
    obtain ⟨hu,hs⟩:=jd4 (P:=P) (B:=B) (h:=H) (t:=t)
    simp only [execOp,ex.eq,ey.eq]
    refine Reads.value ?_
    unfold Instr.index
    refine Reads.bind (a:=(ik,j)) (Reads.pure _) ?_
    refine Reads.bind (jai hu).reads ?_
    simp only [h0,h1,and_self,if_true]
    refine Reads.bind hs ?_
    have:=jmK (P:=P) (B:=B) (h:=H) (e:=e) (n:=k) (cs:=cs.toArray) (o:=j.toNat*k)
    have e2:cs.toArray.extract (j.toNat*k) (j.toNat*k+k)=vs.toArray:=by
      rw [←hv];simp [List.extract_eq_take_drop]
    rw [e2] at this
    exact this) q
theorem jmX {v:List Int} {k:Nat} (hl:k<v.length):(jaq v).toArray[(k:Int).toNat*1]?=some (.int .i64 (v.getD k 0)):=by
  rw [gZ,show (k:Int).toNat*1=k by omega];exact joa hl
end
section
variable {P:Program} {m:Md P B} {g:Option (Nat×Bool)}
theorem jnq {e:Array Value→Sem Value} (E:Ext P f e) {args:Array Value} {Q:Next→Hp→Prop} (t:Tri P B (e args) h fun v h'=>Q (.value v) h'):TriE P B (callFunc f args) h Q:=fun w sw=>by
  obtain ⟨fn,h1,h2,h3,h4,h5⟩:=E.eq
  obtain ⟨v,w',h',r,st,q⟩:=t w sw
  refine ⟨.value v,w',h',?_,?_,q⟩
  · rw [run_callFunc_extern h1 h2 h3 h4 h5,r];rfl
  · rw [events_callFunc_extern h1 h2 h3 h4 h5,Sem.events_acc];refine st.events fun x hx=>?_
    rw [Array.mem_filter] at hx
    obtain ⟨hx,hn⟩:=hx
    rcases vY.1 hx with hx|hx
    · simp only [List.push_toArray,GI,Vt,gr] at hx
      rw [hx] at hn
      cases hn
    · exact hx
theorem k_extF {e:Array Value→Sem Value} (E:Ext P f e) (ho:ops[i]?=some ⟨d,.call ⟨.value (.func f),args.toArray,ats⟩,ty,pos,af,g⟩) (hw:Wt ops l g) [ea:ArgsV l args vs]
    (hk:kd= .free∨kd= .keep) (t:Tri P B (e vs.toArray) h fun v h'=>(kd= .free∨S.Sublist h')∧RegK m S ops r (put l d v) h' C):RegK m S ops ((i,kd)::r) l h C:=by
  refine ⟨_,ho,?_⟩
  unfold opK
  rw [if_pos (Wt.wanted (o:=⟨d,.call ⟨.value (.func f),args.toArray,ats⟩,ty,pos,af,g⟩) hw)];have ex:execOp (ev l) ⟨d,.call ⟨.value (.func f),args.toArray,ats⟩,ty,pos,af,g⟩=callFunc f vs.toArray:=by
    have e1:args.toArray.map (ev l)=vs.toArray:=by rw [Gx,ea.eq]
    have ef:ev l (.func f)= .func (.func f) #[] #[]:=rfl
    unfold execOp
    simp [resolve,Deferred.ofValue,invoke,ef,e1]
  rcases hk with rfl|rfl
  · show TriE P B (execOp (ev l) _) h _
    rw [ex];exact jnq E (t.mono fun v h' x=>x.2)
  · show TriE P B (execOp (ev l) _) h _
    rw [ex];exact jnq E (t.mono fun v h' x=>⟨x.1.resolve_left zA,x.2⟩)
theorem k_extP {e:Array Value→Sem Value} {v:Value} (E:Ext P f e) (ho:ops[i]?=some ⟨d,.call ⟨.value (.func f),args.toArray,ats⟩,ty,pos,af,g⟩) (hw:Wt ops l g) [ea:ArgsV l args vs]
    (hk:kd= .free∨(kd= .keep∧S.Sublist h)) (he:e vs.toArray=Pure.pure v) [p:PutV l d v l'] (n:RegK m S ops r l' h C):RegK m S ops ((i,kd)::r) l h C:=
  k_extF E ho hw (hk.imp id (·.1)) (by rw [he];exact Tri.pure ⟨hk.imp id (·.2),by rw [p.eq];exact n⟩)
end
section
variable {P:Program}
theorem joH {t:Nat} (e:(P.info? t).map (·.size)=some n):Still P (sizeOf t) n:=by
  obtain ⟨i,hi,rfl⟩:=VE.1 e
  exact Still.bind (jbV hi) (Still.pure _)
theorem joI (h:P.underlying t=some (.pointer e)):Still P (elemOf t) e:=Still.bind (jai h) (Still.pure _)
theorem jrZ: ∀u∈s.map jcc,u.oneCell'=true:=by
  intro u hu
  obtain ⟨c,_,rfl⟩:=gP.1 hu
  rfl
theorem firstS {k:Nat}:Builtin.firstCells k s.length (.string ⟨s.toArray⟩)=Pure.pure (s.map jcc).toArray:=by
  unfold Builtin.firstCells
  have e:(⟨s.toArray⟩:ByteArray).extract 0 s.length=⟨s.toArray⟩:=by
    rw [jmD];simp
  dsimp only
  rw [e];congr 1
  apply vG
  simp [jcc]
theorem jmB {t e by' ty:Nat} {v:Value} {cs:List Value} {new:Hp} [SliceT P t e 1] (hu2:P.underlying t2=some .string) [ElemT P e 1 by'] (hw:Weak B h (F++new)) (o:OwnS e 1 v n cs new)
    (hb:2*(n+s.length)*by'≤2^48) (hmax:n+s.length≤2^62) (q: ∀v' new',OwnS e 1 v' (n+s.length) (cs++s.map jcc) new'→Q v' (F++new')):Tri P B (Builtin.append_ #[t,t2] ty #[v,.string ⟨s.toArray⟩]) h Q:=by
  obtain ⟨hu,hs⟩:=jb6 (P:=P) (B:=B) (h:=h) (t:=t)
  obtain ⟨i,z,hi,hi1,hi2,hi3,hz⟩:=jme (P:=P) (e:=e)
  obtain ⟨ps,cap,rfl,hcl⟩:=o.len
  have hinfo:Reads P B (typeInfo e) h i:=(jbV hi).reads
  have hyl:(s.map jcc).length=s.length:=by simp
  generalize hys:s.map jcc=ys at*
  have h1: ∀u∈ys,u.oneCell'=true:=by rw [←hys];exact jrZ
  have hx:Builtin.firstCells 1 s.length (.string ⟨s.toArray⟩)=(Pure.pure ys.toArray:Sem (Array Value)):=by rw [firstS,hys]
  refine Tri.weakR (Q:=fun a h'=> ∃h'',Weak B h' h''∧Q a h'') ?_ (fun a h' x=>x)
  unfold Builtin.append_
  simp only [gZ,vC,vN]
  refine Tri.bind ((jai hu).reads.tri ?_)
  refine Tri.bind (hs.tri ?_)
  refine Tri.bind ((jai hu2).reads.tri ?_)
  refine Tri.bind (Tri.pure ?_)
  simp only [gx,if_false]
  refine Tri.bind (Tri.pure (a:=s.length) ?_)
  simp only [Gk,if_true,hx]
  split
  · rename_i hle
    refine Tri.bind (Tri.pure ?_)
    cases o with
    |nil=>
      have hm0:s.length=0:=by omega
      have:ys=[]:=GO.1 zO
      subst this
      rw [hm0];exact Tri.pure ⟨_,hw,by have:=q (.slice none 0 0) [] (by rw [hm0];exact .nil);simpa [hm0] using this⟩
    |blk hl hc hn=>
      rename_i b junk
      refine Tri.weak hw ?_
      refine Tri.bind ?_
      rw [Addr.add_none,GD];refine jeC (h1:=F) (h2:=[]) ys 0 _ zN h1 fun c' hc'=>Tri.pure ⟨_,Weak.refl _ _,?_⟩
      have e1:c'=(cs++ys++junk.drop ys.length).toArray:=by
        apply vG
        rw [hc'];simp only [vg,xK]
        rw [←hl,List.take_left,List.drop_append];simp
      rw [e1];exact q _ _ (.blk zN zN hle)
  · rename_i hgt
    refine Tri.bind (hinfo.tri ?_)
    have hM:IntKind.i64.max=9223372036854775807:=by decide
    rw [if_neg (by rintro ⟨h3,_⟩;rw [hM] at h3;omega)];refine Tri.bind (hinfo.tri ?_)
    have hnc:Builtin.nextslicecap (n+s.length) cap≤2*(n+s.length):=jqS zO
    rw [if_neg (by rw [hi2];have:=GP by' hnc;omega)];refine Tri.bind (jdk rfl fun t0=>?_)
    refine Tri.bind (hinfo.tri ?_)
    refine Tri.bind (reads_room.tri ?_)
    have hro:Reads P B (Builtin.firstCells 1 n (.slice ps n cap)) h cs.toArray:=Reads.weak hw (jft (o.rd (gM F new)))
    refine Tri.bind (hro.tri ?_)
    refine Tri.bind (Tri.pure ?_)
    have hzv:Reads P B (zeroValue e) h z:=by
      refine Reads.bind (jbV hi).reads ?_
      simp only [hi3]
      exact Reads.pure _
    refine Tri.bind (hzv.tri ?_)
    refine Tri.bind (jfn fun b _=>Tri.pure ⟨F++[_],Weak.snoc (hw.trans (Weak.sub (gI F new))) _,?_⟩)
    have hcut:Question.cut (.appendCap (n+s.length) cap e) t0=n+s.length+t0%(2^63-(n+s.length)):=rfl
    generalize hN:Question.cut (.appendCap (n+s.length) cap e) t0=N at*
    have hlz:(Builtin.zeroCells z.cells (N-(n+s.length))).toList.length=(N-(n+s.length))*1:=by simp [Builtin.zeroCells,hz]
    have e1:cs.toArray++ys.toArray++Builtin.zeroCells z.cells (N-(n+s.length))=(cs++ys++(Builtin.zeroCells z.cells (N-(n+s.length))).toList).toArray:=by
      apply vG;simp
    rw [e1];refine q _ _ (.blk (by simp [hcl,hyl]) ?_ zO)
    rw [hlz];simp only [gJ,hcl,hyl]
    omega
theorem jiS: ∀(n t:Nat) (acc:Array Value),(Extern.BytealgMakeNoZero.digits n t acc).size=acc.size+n
  |0,t,acc=>rfl
  |n+1,t,acc=>by
    unfold Extern.BytealgMakeNoZero.digits
    rw [jiS];simp;omega
theorem tri_mnz (ht:P.underlying t=some (.slice e)) (hn:n≤2^48) (q: ∀r N (junk:List Value),n≤N→junk.length=N→Q (.slice (some ⟨r,0,none⟩) n N) (h++[⟨true,r,.cells junk.toArray e (0,0)⟩])):
    Tri P B (Extern.BytealgMakeNoZero.makeNoZero ps #[t] #[.int .i64 (n:Int)]) h Q:=by
  have hdef:Extern.BytealgMakeNoZero.makeNoZero ps #[t] #[.int .i64 (n:Int)]=(do
      let .slice elem←underlying t|stuck "bytealg.MakeNoZero: slice type expected"
      if ((n:Int)<0||(n:Int)>2^48)=true then runtimePanic (.error "makeslice: len out of range")
      let cap←choose (.appendCap (n:Int).toNat 0 elem)
      askRoom cap
      let bytes←choose (.extern "internal/bytealg.MakeNoZero.bytes" 0)
      let a←newRow elem (Extern.BytealgMakeNoZero.digits cap bytes #[])
      pure (.slice (some a) (n:Int).toNat cap)):=rfl
  rw [hdef];refine Tri.bind ((jai ht).reads.tri ?_)
  dsimp only
  rw [if_neg (by simp only [GR,decide_eq_true_eq,not_or,Int.not_lt];omega)];refine Tri.bind (jdk rfl fun t0=>?_)
  refine Tri.bind (reads_room.tri ?_)
  refine Tri.bind (jdk rfl fun t1=>?_)
  refine Tri.bind (jfn fun r _=>Tri.pure ?_)
  have hcut:Question.cut (.appendCap (n:Int).toNat 0 e) t0=n+t0%(2^63-n):=rfl
  have:=q r (Question.cut (.appendCap (n:Int).toNat 0 e) t0) (Extern.BytealgMakeNoZero.digits (Question.cut (.appendCap (n:Int).toNat 0 e) t0) (Question.cut (.extern "internal/bytealg.MakeNoZero.bytes" 0) t1) #[]).toList (by rw [hcut];omega) (by simp [jiS])
  simpa using this
theorem jrz {w:World} {b:Nat} {c:Array Value} (hb:w.heap[b]?=some (.cells c t (0,0))) (hn:n≠0):
    w.freeze ⟨b,0,none⟩ n={w with heap:=w.heap.setIfInBounds b (.cells c t (0,n))}:=by
  unfold World.freeze
  rw [if_neg hn];have hlt:=(gH.1 hb).1
  congr 1
  apply Array.ext
  · simp
  · intro i h1 h2
    rw [xC,VN];split
    · rename_i e
      subst e
      have:w.heap[b]= .cells c t (0,0):=by rw [gR hlt] at hb;exact gF hb
      simp [this]
    · rfl
theorem joB {b:Nat} {c:Array Value} {Q:Unit→Hp→Prop} (hn:n≠0) (q:Q () (h1++⟨true,b,.cells c t (0,n)⟩::h2)):Tri P B (freeze ⟨b,0,none⟩ n) (h1++⟨true,b,.cells c t (0,0)⟩::h2) Q:=fun w sw=>by
  have hb:=(sw.mem ⟨true,b,.cells c t (0,0)⟩ zS).2
  refine ⟨(),w.freeze ⟨b,0,none⟩ n,_,by simp [freeze,Sem.run],?_,q⟩
  rw [jrz hb hn];exact Stp.turn sw (by rw [events_freeze];simp)
theorem jhc {b:Nat}: ∀(s:List UInt8) (o:Nat) (acc:List UInt8),(∀j,j<s.length→Rd B h ⟨b,o+j,none⟩ ((s.map jcc).getD j undef))→Reads P B (loadBytes ⟨b,o,none⟩ ⟨acc.toArray⟩ s.length) h ⟨(acc++s).toArray⟩
  |[],o,acc,_=>by rw [gd];exact Reads.pure _
  |c::s,o,acc,hr=>by
    rw [gY,loadBytes];have h0:=hr 0 zS
    refine Reads.bind (a:=jcc c) (Reads.load (by simpa using h0)) ?_
    simp only [jcc]
    rw [Addr.add_none];have e:(⟨acc.toArray⟩:ByteArray).push ((c.toNat:Int).toNat.toUInt8)=⟨(acc++[c]).toArray⟩:=by
      apply ByteArray.ext;simp [ByteArray.push]
    rw [e];have:=jhc s (o+1) (acc++[c]) fun j hj=>by
      have:=hr (j+1) zN
      simpa [VA,vv 1] using this
    simpa using this
theorem jeb {b:Nat} {rw:Bool} {c:Array Value} {f:Nat×Nat} (q:(⟨rw,b,.cells c t f⟩:Chunk)∈h):Reads P B (shape b) h (some (t,c.size)):=fun w sw=>by
  have hb:=(sw.mem _ q).2
  simp only at hb
  have:w.shape? b=some (t,c.size):=by simp [World.shape?,hb]
  exact ⟨by simp [shape,Sem.run,this],by simp⟩
theorem row_self {t:Nat} {count:Nat} (hd: ∃k,P.depth=k+1) (hc:P.cellsOf t=1) (hn:n≤count):liesAt P P.depth t (count/P.cellsOf t) 0 t n=true:=by
  obtain ⟨k,hk⟩:=hd
  have hs:sameLayout P P.depth t t=true:=by rw [hk,sameLayout];simp
  have h2:rowAt P (sameLayout P P.depth · t) P.depth t (count/P.cellsOf t) 0 n=true:=by
    have:=congrArg (fun d=>rowAt P (sameLayout P P.depth · t) d t (count/P.cellsOf t) 0 n) hk
    rw [this,rowAt];simp [hc,hs,hn]
  have:=congrArg (fun d=>liesAt P d t (count/P.cellsOf t) 0 t n) hk
  rw [this,liesAt,h2];rfl
theorem tri_ustr {tp ty e:Nat} (he:Still P (elemOf tp) e) (hd: ∃k,P.depth=k+1) (hc:P.cellsOf e=1) (hn:s.length=n) (hp:n≠0) (hm:n<2^62)
    (k:Q (.string ⟨s.toArray⟩) (h1++⟨true,q,.cells (s.map jcc++junk).toArray e (0,n)⟩::h2)):
    Tri P B (Builtin.unsafeString_ #[tp,ty] 0 #[.pointer (some ⟨q,0,none⟩),.int .i64 (n:Int)]) (h1++⟨true,q,.cells (s.map jcc++junk).toArray e (0,0)⟩::h2) Q:=by
  unfold Builtin.unsafeString_
  dsimp only
  refine Tri.bind (Tri.pure (a:=(n:Int)) ?_)
  simp only [gZ,vC]
  rw [if_neg zO,if_neg (by have hM:IntKind.i64.max=9223372036854775807:=zA;rw [hM];omega),if_neg zO];have hmem:(⟨true,q,.cells (s.map jcc++junk).toArray e (0,0)⟩:Chunk)∈h1++⟨true,q,.cells (s.map jcc++junk).toArray e (0,0)⟩::h2:=by simp
  refine Tri.bind (he.reads.tri ?_)
  have hv:Reads P B (variablesAt ⟨q,0,none⟩ e (n:Int).toNat) (h1++⟨true,q,.cells (s.map jcc++junk).toArray e (0,0)⟩::h2) true:=by
    unfold variablesAt
    refine Reads.bind Reads.program' (Reads.bind (jeb hmem) ?_)
    dsimp only
    rw [gb,row_self hd hc zN];exact Reads.pure _
  refine Tri.bind (hv.tri ?_)
  rw [if_pos rfl];have hl:Reads P B (loadBytes ⟨q,0,none⟩ .empty (n:Int).toNat) (h1++⟨true,q,.cells (s.map jcc++junk).toArray e (0,0)⟩::h2) ⟨s.toArray⟩:=by
    rw [gb,←hn];have:=jhc (P:=P) (B:=B) (h:=h1++⟨true,q,.cells (s.map jcc++junk).toArray e (0,0)⟩::h2) (b:=q) s 0 [] fun j hj=>by
      refine Rd.held hmem ?_
      rw [GD,gZ,ge (by simpa using hj),gC,gD (by simpa using hj)];rfl
    have e0:ByteArray.empty=⟨#[]⟩:=rfl
    rw [e0];simpa using this
  refine Tri.bind (hl.tri ?_)
  rw [gb];exact Tri.bind (joB hp (Tri.pure k))
theorem jpg {w:World} {b:Nat} {c:Array Value} (hb:w.heap[b]?=some (.cells c t (0,0))):
    w.freeze ⟨b,n,none⟩ 1={w with heap:=w.heap.setIfInBounds b (.cells c t (n,n+1))}:=by
  unfold World.freeze
  rw [if_neg zA];have hlt:=(gH.1 hb).1
  congr 1
  apply Array.ext
  · simp
  · intro i h1 h2
    rw [xC,VN];split
    · rename_i e
      subst e
      have:w.heap[b]= .cells c t (0,0):=by rw [gR hlt] at hb;exact gF hb
      simp [this]
    · rfl
theorem tri_mark {b:Nat} {c:Array Value} {Q:Unit→Hp→Prop} (q:Q () (h1++⟨true,b,.cells c t (c.size,c.size+1)⟩::h2)):Tri P B (markStringish ⟨b,0,none⟩) (h1++⟨true,b,.cells c t (0,0)⟩::h2) Q:=by
  have hm:(⟨true,b,.cells c t (0,0)⟩:Chunk)∈h1++⟨true,b,.cells c t (0,0)⟩::h2:=by simp
  unfold markStringish
  refine Tri.bind ((jeb hm).tri ?_)
  intro w sw
  have hb:=(sw.mem _ hm).2
  refine ⟨(),w.freeze ⟨b,c.size,none⟩ 1,_,by simp [freeze,Sem.run],?_,q⟩
  rw [jpg hb];exact Stp.turn sw (by rw [events_freeze];simp)
theorem tri_s2b {src dst:TypeId} (hs:P.underlying src=some .string) (hd:P.underlying dst=some (.slice e)) (he:P.underlying e=some (.int .u8))
    (q: ∀r N (junk:List Value),s.length+junk.length=N→Q (.slice (some ⟨r,0,none⟩) s.length N) (h++[⟨true,r,.cells (s.map jcc++junk).toArray e (N,N+1)⟩])):Tri P B (convert src dst (.string ⟨s.toArray⟩)) h Q:=by
  unfold convert
  refine Tri.bind ((jai hs).reads.tri (Tri.bind ((jai hd).reads.tri ?_)))
  dsimp only
  refine Tri.bind ((jai he).reads.tri ?_)
  dsimp only
  unfold Conv.stringToBytes
  refine Tri.bind (jdk rfl fun t0=>?_)
  generalize hN:Question.cut (.appendCap (⟨s.toArray⟩:ByteArray).size 0 e) t0=N
  have hcut:Question.cut (.appendCap (⟨s.toArray⟩:ByteArray).size 0 e) t0=(⟨s.toArray⟩:ByteArray).size+t0%(2^63-(⟨s.toArray⟩:ByteArray).size):=rfl
  have hsz:(⟨s.toArray⟩:ByteArray).size=s.length:=by simp [ByteArray.size]
  refine Tri.bind (jfn fun r _=>Tri.bind ?_)
  have e1:(Array.map (fun b:UInt8=>Value.int .u8 (b.toNat:Int)) s.toArray++Array.replicate (N-s.length) (Value.int .u8 0))=(s.map jcc++List.replicate (N-s.length) (Value.int .u8 0)).toArray:=by
    apply vG;simp [jcc]
  rw [hsz];show Tri P B (markStringish ⟨r,0,none⟩) (h++[⟨true,r,.cells (Array.map (fun b:UInt8=>Value.int .u8 (b.toNat:Int)) s.toArray++Array.replicate (N-s.length) (Value.int .u8 0)) e (0,0)⟩]) _
  rw [e1];refine tri_mark (h1:=h) (h2:=[]) (Tri.pure ?_)
  have hl:(s.map jcc++List.replicate (N-s.length) (Value.int .u8 0)).toArray.size=N:=by simp;omega
  rw [hl];exact q r N _ zN
theorem reads_to {t b o:Nat} (hs:P.underlying src=some (.pointer t)) (hd:P.underlying dst=some .unsafePointer) (hsz:(P.info? t).map (fun i=>decide (i.size=0))=some false) {v:Value} (rd:Rd B h ⟨b,o,none⟩ v):
    Reads P B (convert src dst (.pointer (some ⟨b,o,none⟩))) h (.pointer (some ⟨b,o,none⟩)):=fun w sw=>by
  have hc:=rd.cell sw
  exact ⟨run_convert_to_unsafe hs hd hsz hc,by rw [events_convert_to_unsafe hs hd hsz hc];simp⟩
theorem joR {b:Nat} {rw:Bool} {c:Array Value} {f:Nat×Nat} (q:(⟨rw,b,.cells c t f⟩:Chunk)∈h):Reads P B (viewAt b) h none:=by
  unfold viewAt
  refine Reads.bind (jeb q) ?_
  exact Reads.pure _
theorem joS {u b:Nat} {rw:Bool} {c:Array Value} {f:Nat×Nat} (hs:P.underlying src=some .unsafePointer) (hd:P.underlying dst=some (.pointer u)) (hsz: ∃k,Still P (sizeOf u) k∧k≠0) (q:(⟨rw,b,.cells c t f⟩:Chunk)∈h)
    (hv:liesAt P P.depth t (c.size/P.cellsOf t) 0 u 1=true):Reads P B (convert src dst (.pointer (some ⟨b,0,none⟩))) h (.pointer (some ⟨b,0,none⟩)):=by
  obtain ⟨k,hk,hk0⟩:=hsz
  unfold convert
  refine Reads.bind (jai hs).reads (Reads.bind (jai hd).reads ?_)
  dsimp only
  unfold Conv.unsafePointer
  refine Reads.bind (jai hs).reads (Reads.bind (jai hd).reads ?_)
  dsimp only
  refine Reads.bind (a:=(⟨b,0,none⟩:Addr)) ?_ ?_
  · unfold Conv.seenAt
    refine Reads.bind (joR q) ?_
    exact Reads.pure _
  refine Reads.bind hk.reads ?_
  have hv2:Reads P B (variablesAt ⟨b,0,none⟩ u 1) h true:=by
    unfold variablesAt
    refine Reads.bind Reads.program' (Reads.bind (jeb q) ?_)
    dsimp only
    rw [hv];exact Reads.pure _
  refine Reads.bind hv2 ?_
  rw [if_pos zS];exact Reads.pure _
theorem jqr (ht:P.underlying t=some (.pointer e)) (p:Option Addr):Reads P B (Op.equalIn (dd+1) t (.pointer p) (.pointer none)) h p.isNone:=by
  unfold Op.equalIn
  refine Reads.bind (jai ht).reads ?_
  cases p with
  |none=>exact Reads.pure _
  |some a=>exact Reads.pure _
theorem jlE {k:TypeId} (ht:P.underlying t=some (.pointer e)) (hs:Still P (sizeOf e) k) (hk:k≠0) (a:Addr):Reads P B (Op.equalIn (dd+1) t (.pointer (some a)) (.pointer (some a))) h true:=by
  unfold Op.equalIn
  refine Reads.bind (jai ht).reads ?_
  dsimp only
  refine Reads.bind hs.reads ?_
  rw [if_pos hk];unfold sameAddr
  rw [if_pos zS];have:(a==a)=true:=by simp
  rw [this];exact Reads.pure _
end
section
variable {P:Program} {m:Md P B} {g:Option (Nat×Bool)}
theorem k_appS {t e by':Nat} {x:Operand} {v:Value} {a:ByteArray} {cs:List Value} {new:Hp} (ho:ops[i]?=some ⟨d,.call ⟨.builtin .append,[x,y].toArray,#[t,t2]⟩,ty,pos,af,g⟩) (hg:Wt ops l g) [ex:OpV l x v] [ey:OpV l y (.string a)] [sv:SV a s] [SliceT P t e 1] [ElemT P e 1 by'] (hu2:P.underlying t2=some .string)
    (o:OwnS e 1 v n cs new) (w:Weak B h (F++new)) (hk:kd= .free∨(kd= .keep∧S.Sublist F)) (hb:2*(n+s.length)*by'≤2^48) (hmax:n+s.length≤2^62)
    (c: ∀v' new',OwnS e 1 v' (n+s.length) (cs++s.map jcc) new'→RegK m S ops r (put l d v') (F++new') C):RegK m S ops ((i,kd)::r) l h C:=by
  refine RegK.ke (hk.symm.imp (·.1) id) ho hg ?_
  rw [jbh (vs:=[v,.string a]) (by simp [ex.eq,ey.eq]),sv.eq];exact Tri.bind (jmB hu2 w o hb hmax fun v' new' o'=>Tri.pure ⟨hk.imp id fun x=>x.2.trans (gI _ _),c v' new' o'⟩)
theorem k_mnz {x:Operand} (E:Ext P f (Extern.BytealgMakeNoZero.makeNoZero ps #[t])) (ho:ops[i]?=some ⟨d,.call ⟨.value (.func f),[x].toArray,ats⟩,ty,pos,af,g⟩) (hw:Wt ops l g) [ex:OpV l x (.int .i64 (n:Int))]
    (hk:kd= .free∨(kd= .keep∧S.Sublist h)) (ht:P.underlying t=some (.slice e)) (hn:n≤2^48) (c: ∀q N (junk:List Value),n≤N→junk.length=N→RegK m S ops r (put l d (.slice (some ⟨q,0,none⟩) n N)) (h++[⟨true,q,.cells junk.toArray e (0,0)⟩]) C):RegK m S ops ((i,kd)::r) l h C:=by
  haveI:ArgsV l [x] [.int .i64 (n:Int)]:=inferInstance
  exact k_extF E ho hw (hk.imp id (·.1)) (tri_mnz ht hn fun q N junk h1 h2=>⟨hk.imp id fun y=>y.2.trans (gI _ _),c q N junk h1 h2⟩)
theorem k_usd {t cc:Nat} {x:Operand} (ho:ops[i]?=some ⟨d,.call ⟨.builtin .unsafeSliceData,[x].toArray,#[t]⟩,ty,pos,af,g⟩) (hg:Wt ops l g) [KHeap kd S h H] [ex:OpV l x (.slice (some ⟨q,0,none⟩) n cc)] (hc:cc≠0) [PutV l d (.pointer (some ⟨q,0,none⟩)) l'] (c:RegK m S ops r l' h C):RegK m S ops ((i,kd)::r) l h C:=
  RegK.rd (v:= .pointer (some ⟨q,0,none⟩)) ho hg (by
    rw [jbh (vs:=[.slice (some ⟨q,0,none⟩) n cc]) (by simp [ex.eq])];refine Reads.value ?_
    unfold Builtin.unsafeSliceData_
    show Reads P B (if cc≠0 then pure (Value.pointer (some ⟨q,0,none⟩)) else _) H _
    rw [if_pos hc];exact Reads.pure _) c
theorem k_ustr {tp e:Nat} {x:Operand} (ho:ops[i]?=some ⟨d,.call ⟨.builtin .unsafeString,[x,y].toArray,#[tp,t2]⟩,ty,pos,af,g⟩) (hg:Wt ops l g) [ex:OpV l x (.pointer (some ⟨q,0,none⟩))] [ey:OpV l y (.int .i64 (n:Int))]
    (he:Still P (elemOf tp) e) (hd: ∃k,P.depth=k+1) (hc:P.cellsOf e=1) (hn:s.length=n) (hp:n≠0) (hm:n<2^62) (hk:kd= .free∨(kd= .keep∧S.Sublist (h1++⟨true,q,.cells (s.map jcc++junk).toArray e (0,n)⟩::h2)))
    (c:RegK m S ops r (put l d (str s)) (h1++⟨true,q,.cells (s.map jcc++junk).toArray e (0,n)⟩::h2) C):RegK m S ops ((i,kd)::r) l (h1++⟨true,q,.cells (s.map jcc++junk).toArray e (0,0)⟩::h2) C:=by
  refine RegK.ke (hk.symm.imp (·.1) id) ho hg ?_
  rw [jbh (vs:=[.pointer (some ⟨q,0,none⟩),.int .i64 (n:Int)]) (by simp [ex.eq,ey.eq])];exact Tri.bind (tri_ustr he hd hc hn hp hm (Tri.pure ⟨hk.imp id (·.2),c⟩))
theorem k_to {t b o:Nat} {x:Operand} {v:Value} (ho:ops[i]?=some ⟨d,.convert src dst x,ty,pos,af,g⟩) (hw:Wt ops l g) [KHeap kd S h H] [ex:OpV l x (.pointer (some ⟨b,o,none⟩))] (hs:P.underlying src=some (.pointer t)) (hd:P.underlying dst=some .unsafePointer) (hsz:(P.info? t).map (fun i=>decide (i.size=0))=some false) (rd:Rd B H ⟨b,o,none⟩ v)
    [PutV l d (.pointer (some ⟨b,o,none⟩)) l'] (c:RegK m S ops r l' h C):RegK m S ops ((i,kd)::r) l h C:=
  RegK.rd (v:= .pointer (some ⟨b,o,none⟩)) ho hw (by simp only [execOp,ex.eq];exact Reads.value (reads_to hs hd hsz rd)) c
theorem k_from {u b t:Nat} {x:Operand} {rw:Bool} {cs:Array Value} {f:Nat×Nat} (ho:ops[i]?=some ⟨d,.convert src dst x,ty,pos,af,g⟩) (hw:Wt ops l g) [KHeap kd S h H] [ex:OpV l x (.pointer (some ⟨b,0,none⟩))] (hs:P.underlying src=some .unsafePointer) (hd:P.underlying dst=some (.pointer u)) (hsz: ∃k,Still P (sizeOf u) k∧k≠0) [q:Has H b rw (.cells cs t f)]
    (hv:liesAt P P.depth t (cs.size/P.cellsOf t) 0 u 1=true) [PutV l d (.pointer (some ⟨b,0,none⟩)) l'] (c:RegK m S ops r l' h C):RegK m S ops ((i,kd)::r) l h C:=
  RegK.rd (v:= .pointer (some ⟨b,0,none⟩)) ho hw (by simp only [execOp,ex.eq];exact Reads.value (joS hs hd hsz q.mem hv)) c
theorem jn4 {x:Operand} {p:Option Addr} (ho:ops[i]?=some ⟨d,.binOp .eql t x (.const (.pointer none)) u,ty,pos,af,g⟩) (hw:Wt ops l g) [KHeap kd S h H] [ex:OpV l x (.pointer p)] (ht:P.underlying t=some (.pointer e)) [PutV l d (.bool p.isNone) l'] (c:RegK m S ops r l' h C):RegK m S ops ((i,kd)::r) l h C:=
  RegK.rd (v:= .bool p.isNone) ho hw (by
    have ey:ev l (.const (.pointer none))= .pointer none:=rfl
    simp only [execOp,ex.eq,ey]
    refine Reads.value (Reads.bind (a:=()) ?_ ?_)
    · exact Reads.pure _
    · show Reads P B (Op.equal t (.pointer p) (.pointer none)>>=fun b=>pure (Value.bool b)) H _
      exact Reads.bind (jqr (dd:=9999) ht p) (Reads.pure _)) c
theorem jrg {x:Operand} (ho:ops[i]?=some ⟨d,.binOp .eql t x (.const (.pointer none)) u,ty,pos,af,g⟩) (hw:Wt ops l g) [KHeap kd S h H] [ex:OpV l x (.pointer none)] (ht:P.underlying t=some (.pointer e)) [p:PutV l d (.bool true) l'] (c:RegK m S ops r l' h C):RegK m S ops ((i,kd)::r) l h C:=
  haveI:PutV l d (.bool (Option.isNone (none:Option Addr))) l':=p
  jn4 ho hw ht c
theorem jrh {x:Operand} {a:Addr} (ho:ops[i]?=some ⟨d,.binOp .eql t x (.const (.pointer none)) u,ty,pos,af,g⟩) (hw:Wt ops l g) [KHeap kd S h H] [ex:OpV l x (.pointer (some a))] (ht:P.underlying t=some (.pointer e)) [p:PutV l d (.bool false) l'] (c:RegK m S ops r l' h C):RegK m S ops ((i,kd)::r) l h C:=
  haveI:PutV l d (.bool (Option.isNone (some a))) l':=p
  jn4 ho hw ht c
theorem k_cap {t e k c:Nat} {x:Operand} {p:Option Addr} (ho:ops[i]?=some ⟨d,.call ⟨.builtin .cap,[x].toArray,#[t]⟩,ty,pos,af,g⟩) (hw:Wt ops l g) [kh:KHeap kd S h H] [ex:OpV l x (.slice p n c)] [SliceT P t e k] [PutV l d (.int .i64 c) l']
    (q:RegK m S ops r l' h C):RegK m S ops ((i,kd)::r) l h C:=
  RegK.rd (v:= .int .i64 c) ho hw (by
    rw [jbh (vs:=[.slice p n c]) (by simp [ex.eq])];obtain ⟨hu,_⟩:=jb6 (P:=P) (B:=B) (h:=H) (t:=t)
    refine Reads.value ?_
    unfold Builtin.cap_
    simp only [gZ,vC]
    exact Reads.bind (jai hu).reads (Reads.pure _)) q
theorem jiA {x:Operand} {a b:ByteArray} {p q:List UInt8} (ho:ops[i]?=some ⟨d,.binOp .eql t x y u,ty,pos,af,g⟩) (hw:Wt ops l g) [KHeap kd S h H] [ex:OpV l x (.string a)] [ey:OpV l y (.string b)] [pa:SV a p] [pb:SV b q] (e:p=q) [pt:PutV l d (.bool true) l']
    (n:RegK m S ops r l' h C):RegK m S ops ((i,kd)::r) l h C:=
  haveI:PutV l d (.bool (decide (p=q))) l':=by rw [decide_eq_true e];exact pt
  k_seql ho hw n
theorem jiB {x:Operand} {a b:ByteArray} {p q:List UInt8} (ho:ops[i]?=some ⟨d,.binOp .eql t x y u,ty,pos,af,g⟩) (hw:Wt ops l g) [KHeap kd S h H] [ex:OpV l x (.string a)] [ey:OpV l y (.string b)] [pa:SV a p] [pb:SV b q] (e:p≠q) [pt:PutV l d (.bool false) l']
    (n:RegK m S ops r l' h C):RegK m S ops ((i,kd)::r) l h C:=
  haveI:PutV l d (.bool (decide (p=q))) l':=by rw [decide_eq_false e];exact pt
  k_seql ho hw n
theorem jiz {x:Operand} {a b:ByteArray} {p q:List UInt8} (ho:ops[i]?=some ⟨d,.binOp .neq t x y u,ty,pos,af,g⟩) (hw:Wt ops l g) [KHeap kd S h H] [ex:OpV l x (.string a)] [ey:OpV l y (.string b)] [pa:SV a p] [pb:SV b q] (e:p≠q) [pt:PutV l d (.bool true) l']
    (n:RegK m S ops r l' h C):RegK m S ops ((i,kd)::r) l h C:=
  haveI:PutV l d (.bool (decide (p≠q))) l':=by rw [decide_eq_true e];exact pt
  k_sneq ho hw n
theorem jgO {x:Operand} {a b:ByteArray} {p q:List UInt8} (ho:ops[i]?=some ⟨d,.binOp .neq t x y u,ty,pos,af,g⟩) (hw:Wt ops l g) [KHeap kd S h H] [ex:OpV l x (.string a)] [ey:OpV l y (.string b)] [pa:SV a p] [pb:SV b q] (e:p=q) [pt:PutV l d (.bool false) l']
    (n:RegK m S ops r l' h C):RegK m S ops ((i,kd)::r) l h C:=
  haveI:PutV l d (.bool (decide (p≠q))) l':=by rw [decide_eq_false (fun h=>h e)];exact pt
  k_sneq ho hw n
theorem rd_at {b o:Nat} {rw:Bool} {cs:List Value} {f:Nat×Nat} {v:Value} [q:Has h b rw (.cells cs.toArray t f)] [a:At cs o v]:Rd B h ⟨b,o,none⟩ v:=Rd.held q.mem (by simpa using a.eq)
theorem weakEq (e:h=h'):Weak B h h':=e▸Weak.refl B h
theorem jq9 {k:TypeId} {x:Operand} {a:Addr} (ho:ops[i]?=some ⟨d,.binOp .neq t x y u,ty,pos,af,g⟩) (hw:Wt ops l g) [KHeap kd S h H] [ex:OpV l x (.pointer (some a))] [ey:OpV l y (.pointer (some a))] (ht:P.underlying t=some (.pointer e)) (hs:Still P (sizeOf e) k) (hk:k≠0) [PutV l d (.bool false) l'] (c:RegK m S ops r l' h C):RegK m S ops ((i,kd)::r) l h C:=
  RegK.rd (v:= .bool false) ho hw (by
    simp only [execOp,ex.eq,ey.eq]
    refine Reads.value (Reads.bind (a:=()) ?_ ?_)
    · exact Reads.pure _
    · show Reads P B (Op.equal t (.pointer (some a)) (.pointer (some a))>>=fun b=>pure (Value.bool !b)) H _
      exact Reads.bind (jlE (dd:=9999) ht hs hk a) (Reads.pure _)) c
theorem k_s2b {src dst:TypeId} {x:Operand} {a:ByteArray} (ho:ops[i]?=some ⟨d,.convert src dst x,ty,pos,af,g⟩) (hg:Wt ops l g) [ex:OpV l x (.string a)] [sv:SV a s] (hs:P.underlying src=some .string) (hd:P.underlying dst=some (.slice e)) (he:P.underlying e=some (.int .u8)) (hk:kd= .free∨(kd= .keep∧S.Sublist h))
    (c: ∀q N (junk:List Value),s.length+junk.length=N→RegK m S ops r (put l d (.slice (some ⟨q,0,none⟩) s.length N)) (h++[⟨true,q,.cells (s.map jcc++junk).toArray e (N,N+1)⟩]) C):RegK m S ops ((i,kd)::r) l h C:=by
  refine RegK.ke (hk.symm.imp (·.1) id) ho hg ?_
  simp only [execOp,ex.eq,sv.eq]
  exact Tri.bind (tri_s2b hs hd he fun q N junk hj=>Tri.pure ⟨hk.imp id fun y=>y.2.trans (gI _ _),c q N junk hj⟩)
theorem k_copy0 {t e cc:Nat} {x:Operand} {c2:Nat} (ho:ops[i]?=some ⟨d,.call ⟨.builtin .copy,[x,y].toArray,#[t,t2]⟩,ty,pos,af,g⟩) (hg:Wt ops l g) [KHeap kd S h H] [ex:OpV l x (.slice (some ⟨q,0,none⟩) 0 cc)] [ey:OpV l y (.slice none 0 c2)] [SliceT P t e 1] [PutV l d (.int .i64 0) l'] (c:RegK m S ops r l' h C):RegK m S ops ((i,kd)::r) l h C:=
  RegK.rd (v:= .int .i64 0) ho hg (by
    obtain ⟨hu,hs⟩:=jb6 (P:=P) (B:=B) (h:=H) (t:=t)
    rw [jbh (vs:=[.slice (some ⟨q,0,none⟩) 0 cc,.slice none 0 c2]) (by simp [ex.eq,ey.eq])];refine Reads.value ?_
    unfold Builtin.copy_
    simp only [gZ,vC,vN]
    refine Reads.bind (jai hu).reads ?_
    dsimp only
    refine Reads.bind (a:=0) (Reads.pure _) ?_
    refine Reads.bind hs ?_
    refine Reads.bind (a:= #[]) (Reads.pure _) ?_
    exact Reads.pure _) c
end
end Go.Lo
namespace Go.Lo
open Go.Conc (G)
theorem jdg: ∀(ss:List Str),jay ss=ss.map str
  |[]=>rfl
  |s::r=>by rw [jay,jdg r];rfl
theorem jjy (xs:List Str) (i:Nat) (h:i<xs.length):xs.take (i+1)=xs.take i++[xs.getD i []]:=ja5 xs i h
section
theorem RdS.sat {c b o:Nat} {ss:List Str} (rd:RdS B h 1 (.slice (some ⟨b,o,none⟩) n c) n (jay ss)) [s:SubH h H] {j:Int} (i:Nat) (hj:j=i) (hi:i<n):Rd B H ⟨b,o+j.toNat*1,none⟩ (str (ss.getD i [])):=by
  have hl:=rd.elen zA
  have:=rd.vat (H:=H) i hj hi
  rw [jdg,gC,ga,gD zO] at this
  rw [gC,gD zO];exact this
end
def jpa (sep:Str):List Str→Str
  |[]=>[]
  |a::r=>a++r.flatMap fun x=>sep++x
def digS (n:Nat):Str:=if n<10 then [UInt8.ofNat (48+n)] else [UInt8.ofNat (48+n/10),UInt8.ofNat (48+n%10)]
def jeq (x:Int):Str:=if x= -1 then [63] else digS x.toNat
def jeD (v:List Int):Str:=jpa [45] (v.map jeq)
theorem jfO (ls:List Nat) (k:Nat) (h:k<ls.length):(ls.take (k+1)).sum=(ls.take k).sum+ls.getD k 0:=by
  rw [Gg,gD h,VZ,gC,gD h];simp only [Gu,vL,List.sum_nil,vg,GB]
def RdLn (B:Array Obj) (h:Hp) (v:Value) (n:Nat) (lns:List Ln):Prop:=
  ∃lps:List Lp,lps.map (·.ln)=lns∧RdS B h 2 v n (jay lps)∧ ∀x∈lps,x.ln.figs.length≤x.c∧(0<x.ln.figs.length→RdS B h 1 (.slice x.p x.ln.figs.length x.c) x.ln.figs.length (jay x.ln.figs))
theorem RdLn.keeps {v:Value} {lns:List Ln} (r:RdLn B h v n lns) (s:h.Sublist H):RdLn B H v n lns:=by
  obtain ⟨lps,e,r1,r2⟩:=r
  exact ⟨lps,e,r1.keeps s,fun x hx=>⟨(r2 x hx).1,fun hp=>((r2 x hx).2 hp).keeps s⟩⟩
instance:Inhabited Lp:=⟨⟨default,none,0⟩⟩
theorem jal {α:Type} [Inhabited α] {l:List α} (h:i<l.length):l.getD i default∈l:=by
  rw [gC,gD h];exact Gn h
end Go.Lo
namespace Go.Lo
def jiX (i:Nat) (c:UInt8):Prop:=(97≤c.toNat∧c.toNat≤122)∨(i≠0∧48≤c.toNat∧c.toNat≤57)
def jhe (s:Str):Prop:=(1≤s.length∧s.length≤10)∧ ∀i,i<s.length→jiX i (s.getD i 0)
instance (i:Nat) (c:UInt8):Decidable (jiX i c):=by unfold jiX;infer_instance
instance (s:Str):Decidable (jhe s):=by unfold jhe;infer_instance
def jdu (seen:List Str):List Str→Int
  |[]=>0
  |s::r=>if¬jhe s then 4 else if s∈seen then 5 else jdu (seen++[s]) r
theorem jc5 {seen r:List Str} {s:Str} (h: ¬jhe s):jdu seen (s::r)=4:=by rw [jdu,if_pos h]
theorem jc4 {seen r:List Str} {s:Str} (h:jhe s) (h2:s∈seen):jdu seen (s::r)=5:=by rw [jdu,if_neg (fun e=>e h),if_pos h2]
theorem jnU {seen r:List Str} {s:Str} (h:jhe s) (h2: ¬s∈seen):jdu seen (s::r)=jdu (seen++[s]) r:=by rw [jdu,if_neg (fun e=>e h),if_neg h2]
def jek (b:Tb):Int:=if¬(0≤b.wrong∧b.wrong≤2) then 1 else if¬(1≤b.sts.length∧b.sts.length≤3) then 2 else jdu [] b.sts
theorem jc8 {b:Tb} (h: ¬(0≤b.wrong∧b.wrong≤2)):jek b=1:=by rw [jek,if_pos h]
theorem jc7 {b:Tb} (h:0≤b.wrong∧b.wrong≤2) (h2: ¬(1≤b.sts.length∧b.sts.length≤3)):jek b=2:=by rw [jek,if_neg (fun e=>e h),if_pos h2]
theorem jbg {b:Tb} (h:0≤b.wrong∧b.wrong≤2) (h2:1≤b.sts.length∧b.sts.length≤3):jek b=jdu [] b.sts:=by rw [jek,if_neg (fun e=>e h),if_neg (fun e=>e h2)]
def jbw (s:Str):Bool:=jbc s||decide (s=jjn)
def jmM (ls:List Ln):Nat→Option Int
  |0=>none
  |i+1=>some (ls.getD i default).lat
def jhv (p:Option Int) (x:Int):Prop:= ∃y,p=some y∧x≤y
instance (p:Option Int) (x:Int):Decidable (jhv p x):=by
  unfold jhv
  cases p with
  |none=>exact isFalse (by rintro ⟨y,h,_⟩;cases h)
  |some z=>exact decidable_of_iff (x≤z) ⟨fun h=>⟨z,rfl,h⟩,fun ⟨y,h,k⟩=>by cases h;exact k⟩
def jb0 (ns:Nat) (prev:Option Int):List Ln→Int
  |[]=>0
  |l::r=>if¬(0≤l.lat∧l.lat≤959) then 1 else if jhv prev l.lat then 7 else if l.figs.length≠ns then 2 else if¬ ∀f∈l.figs,jbw f=true then 3 else jb0 ns (some l.lat) r
theorem jb4 {l:Ln} {r:List Ln} (h: ¬(0≤l.lat∧l.lat≤959)):jb0 ns p (l::r)=1:=by rw [jb0,if_pos h]
theorem jb1 {l:Ln} {r:List Ln} (h:0≤l.lat∧l.lat≤959) (h2:jhv p l.lat):jb0 ns p (l::r)=7:=by rw [jb0,if_neg (fun e=>e h),if_pos h2]
theorem jb3 {l:Ln} {r:List Ln} (h:0≤l.lat∧l.lat≤959) (h2: ¬jhv p l.lat) (h3:l.figs.length≠ns):jb0 ns p (l::r)=2:=by rw [jb0,if_neg (fun e=>e h),if_neg h2,if_pos h3]
theorem jb2 {l:Ln} {r:List Ln} (h:0≤l.lat∧l.lat≤959) (h2: ¬jhv p l.lat) (h3:l.figs.length=ns) (h4: ¬ ∀f∈l.figs,jbw f=true):jb0 ns p (l::r)=3:=by rw [jb0,if_neg (fun e=>e h),if_neg h2,if_neg (fun e=>e h3),if_pos h4]
theorem jhI {l:Ln} {r:List Ln} (h:0≤l.lat∧l.lat≤959) (h2: ¬jhv p l.lat) (h3:l.figs.length=ns) (h4: ∀f∈l.figs,jbw f=true):jb0 ns p (l::r)=jb0 ns (some l.lat) r:=by rw [jb0,if_neg (fun e=>e h),if_neg h2,if_neg (fun e=>e h3),if_neg (fun e=>e h4)]
def jaD (ns:Nat) (ls:List Ln):Int:=if ls.length>2 then 2 else jb0 ns none ls
def jfT (s:Str):Nat:=(jau s).countP fun x=>decide (x= -1)
def jht (l:Ln):Nat:=(l.figs.map jfT).sum
def jjd (ls:List Ln):Nat:=(ls.map jht).sum
def jiZ (b:Tb):Int:=
  if jaD b.sts.length b.waters≠0 then jaD b.sts.length b.waters
  else if jaD b.sts.length b.butts≠0 then jaD b.sts.length b.butts
  else if jjd b.waters+jjd b.butts>2 then 2 else 0
def tbS (b:Tb):Int:=if jek b≠0 then jek b else jiZ b
structure TbSm (b:Tb):Prop where
  sts: ∀s∈b.sts,s.length≤100000
  wat: ∀l∈b.waters,l.figs.length≤1000∧ ∀f∈l.figs,f.length≤100000
  but: ∀l∈b.butts,l.figs.length≤1000∧ ∀f∈l.figs,f.length≤100000
theorem jkX {α:Type} [Inhabited α] {l:List α} (h:i<l.length):l.drop i=l.getD i default::l.drop (i+1):=by
  rw [vR h,gC,gD h];rfl
end Go.Lo
namespace Go.Lo
open Go.Conc (G)
section
variable {P:Program} {m:Md P B} {g:Option (Nat×Bool)}
theorem k_asE {x:Operand} {v v':Value} (e:v=v') (ho:ops[i]?=some ⟨d,.assign x,ty,pos,af,g⟩) (hw:Wt ops l g) [KHeap kd S h H] [ex:OpV l x v] [PutV l d v' l'] (n:RegK m S ops r l' h C):RegK m S ops ((i,kd)::r) l h C:=by
  subst e
  exact k_as ho hw n
theorem k_ssfrom {t:Nat} {x:Operand} {a:ByteArray} {p:List UInt8} (ho:ops[i]?=some ⟨d,.slice t x (some y) none none,ty,pos,af,g⟩) (hw:Wt ops l g) [kh:KHeap kd S h H] [ex:OpV l x (.string a)] [ey:OpV l y (.int kj (j:Int))] [pa:SV a p] (hu:P.underlying t=some .string) (h1:j≤p.length) [PutV l d (str (p.drop j)) l']
    (q:RegK m S ops r l' h C):RegK m S ops ((i,kd)::r) l h C:=
  RegK.rd (v:=str (p.drop j)) ho hw (by
    simp only [execOp,ex.eq,ey.eq,Gl,vl]
    refine Reads.value ?_
    unfold Instr.sliceAt
    refine Reads.bind (jai hu).reads ?_
    show Reads P B (Instr.slice t (.string a) (some (.int kj j)) none none) H _
    unfold Instr.slice
    refine Reads.bind (jai hu).reads ?_
    rw [pa.eq];simp only [Option.isSome_none,gx,if_false]
    refine Reads.bind (a:=(j,p.length,p.length)) ?_ ?_
    · unfold Instr.sliceBounds
      refine Reads.bind (a:=p.length) (Reads.pure _) ?_
      refine Reads.bind (a:=p.length) (Reads.pure _) ?_
      refine Reads.bind (a:=j) ?_ (Reads.pure _)
      unfold Instr.sliceBound
      refine Reads.bind (a:=(kj,(j:Int))) (Reads.pure _) ?_
      show Reads P B (if 0≤(j:Int)∧(j:Int)≤(p.length:Int) then Pure.pure (j:Int).toNat else boundsPanic kj j p.length .sliceB) H _
      rw [if_pos ⟨by omega,by omega⟩,gb];exact Reads.pure _
    · show Reads P B (Pure.pure (Value.string ((⟨p.toArray⟩:ByteArray).extract j p.length))) H _
      rw [jmD,GQ];exact Reads.pure _) q
end
section
variable {P:Program}
def keyCB (P:Program) (t:TypeId):Bool:=match P.underlying t with
  |some (.struct fs)=>(match fs.toList with
    |[f,g,s]=>f.offset==0&&g.offset==1&&s.offset==2&&f.name != "_" &&g.name != "_" &&s.name != "_" &&jlw P f.type&&jlw P g.type&&jlw P s.type&&(match P.underlying f.type with|some .bool=>true|_=>false)&&(match P.underlying s.type with|some (.int .i64)=>true|_=>false)&&(match P.underlying g.type with|some (.int .i64)=>true|_=>false)
    |_=>false)&&!P.stoodInHeld t
  |_=>false
class KeyCT (P:Program) (t:TypeId):Prop where
  eq:keyCB P t=true
theorem KeyCT.spec [k:KeyCT P t]: ∃f g s:Field,P.underlying t=some (.struct #[f,g,s])∧f.offset=0∧g.offset=1∧s.offset=2∧f.name≠ "_" ∧g.name≠ "_" ∧s.name≠ "_" ∧Scal P f.type∧Scal P g.type∧Scal P s.type∧P.underlying f.type=some .bool∧P.underlying s.type=some (.int .i64)∧P.underlying g.type=some (.int .i64)∧P.stoodInHeld t=false:=by
  have:=k.eq
  unfold keyCB at this
  split at this
  · rename_i fs hu
    rw [gK] at this
    obtain ⟨h1,h2⟩:=this
    split at h1
    · rename_i f g s hfs
      simp only [gK,beq_iff_eq,bne_iff_ne,ne_eq] at h1
      obtain ⟨⟨⟨⟨⟨⟨⟨⟨⟨⟨⟨a1,a2⟩,a3⟩,b1⟩,b2⟩,b3⟩,c1⟩,c2⟩,c3⟩,a6⟩,a7⟩,a8⟩:=h1
      refine ⟨f,g,s,?_,a1,a2,a3,b1,b2,b3,⟨c1⟩,⟨c2⟩,⟨c3⟩,?_,?_,?_,by simpa using h2⟩
      · rw [hu];congr 2;exact vG (by rw [hfs])
      · split at a6
        · assumption
        · cases a6
      · split at a7
        · assumption
        · cases a7
      · split at a8
        · assumption
        · cases a8
    · cases h1
  · cases this
theorem jii (dd:Nat) [KeyCT P t] (c c':Bool) (a b a' b':Int):Reads P B (Op.equalIn (dd+3) t (.agg [.bool c,.int .i64 a,.int .i64 b].toArray) (.agg [.bool c',.int .i64 a',.int .i64 b'].toArray)) h (c==c'&&(a==a'&&b==b')):=by
  obtain ⟨f,g,s,hu,o1,o2,o3,n1,n2,n3,s1,s2,s3,u3,u1,u2,hs⟩:=KeyCT.spec (P:=P) (t:=t)
  unfold Op.equalIn
  refine Reads.bind (jai hu).reads ?_
  refine Reads.bind Reads.program' ?_
  simp only [hs,gx,if_false,pure_bind]
  rw [←Array.forIn_toList];simp only [xD,xS,n1,n2,n3,ne_eq,not_false_eq_true,if_true,o1,o2,o3,bind_assoc]
  refine Reads.bind (jaM (v:= .bool c) rfl) (Reads.bind (jaM (v:= .bool c') rfl) (Reads.bind (jqq (dd+1) u3 c c') ?_))
  cases h1:(c==c')
  · simp only [Gk,if_true,pure_bind,Vl];exact Reads.pure _
  · simp only [Gt,gx,if_false,pure_bind,vm,bind_assoc]
    refine Reads.bind (jaM (v:= .int .i64 a) rfl) (Reads.bind (jaM (v:= .int .i64 a') rfl) (Reads.bind (jds (dd+1) u2 a a') ?_))
    cases h2:(a==a')
    · simp only [Gk,if_true,pure_bind,Vl];exact Reads.pure _
    · simp only [Gt,gx,if_false,pure_bind,vm,bind_assoc]
      refine Reads.bind (jaM (v:= .int .i64 b) rfl) (Reads.bind (jaM (v:= .int .i64 b') rfl) (Reads.bind (jds (dd+1) u1 b b') ?_))
      cases h3:(b==b')
      · simp only [Gk,if_true,pure_bind];exact Reads.pure _
      · simp only [Gt,gx,if_false,pure_bind];exact Reads.pure _
end
section
variable {P:Program} {m:Md P B} {g:Option (Nat×Bool)}
theorem k_eqlC {x:Operand} {b a' b':Int} {c c':Bool} (ho:ops[i]?=some ⟨d,.binOp .eql t x y u,ty,pos,af,g⟩) (hw:Wt ops l g) [kh:KHeap kd S h H] [ex:OpV l x (.agg [.bool c,.int .i64 a,.int .i64 b].toArray)] [ey:OpV l y (.agg [.bool c',.int .i64 a',.int .i64 b'].toArray)] [KeyCT P t]
    (hg:P.eqGuardType P.depth t=false) [pt:PutV l d (.bool true) l'] [pf:PutV l d (.bool false) l''] (yes:c=c'∧a=a'∧b=b'→RegK m S ops r l' h C) (no: ¬(c=c'∧a=a'∧b=b')→RegK m S ops r l'' h C):RegK m S ops ((i,kd)::r) l h C:=by
  have he:=jii (P:=P) (B:=B) (h:=H) 9997 (t:=t) c c' a b a' b'
  by_cases hx:c=c'∧a=a'∧b=b'
  · have e2:(c==c'&&(a==a'&&b==b'))=true:=by simp [hx]
    rw [e2] at he
    exact jjR ho hw hg he (yes hx)
  · have e2:(c==c'&&(a==a'&&b==b'))=false:=by simpa using hx
    rw [e2] at he
    exact jjR ho hw hg he (no hx)
end
def jcN:List Ce→Nat→List MapEntry
  |[],_=>[]
  |c::r,b=>⟨ceV c,.int .i64 (b:Int),b⟩::jcN r (b+1)
def jgw (l:List Ce):Obj:= .map (jcN l 0).toArray l.length
def jiN (c:Ce):List Ce→Nat→Option (Nat×Int)
  |[],_=>none
  |e::r,i=>if e=c then some (i,(i:Int)) else jiN c r (i+1)
theorem jeQ: ∀(l:List Ce) (b:Nat),(jcN l b).length=l.length
  |[],_=>rfl
  |_::r,b=>by simp [jcN,jeQ r]
theorem jho: ∀(l r:List Ce) (b:Nat),jcN (l++r) b=jcN l b++jcN r (b+l.length)
  |[],r,b=>by simp [jcN]
  |e::l,r,b=>by simp [jcN,jho l r (b+1),VA,vv 1]
theorem jgk (c:Ce): ∀(l:List Ce) (i:Nat),jiN c l i=if l.findIdx (fun x=>decide (x=c))<l.length then some (i+l.findIdx (fun x=>decide (x=c)),((i+l.findIdx (fun x=>decide (x=c)):Nat):Int)) else none
  |[],i=>by simp [jiN]
  |e::r,i=>by
    unfold jiN
    rw [List.findIdx_cons];by_cases h:e=c
    · rw [if_pos h];simp [h]
    · rw [if_neg h,jgk c r (i+1)];simp only [decide_eq_false h,cond_false,gY,Nat.add_lt_add_iff_right]
      split
      · rw [show i+1+r.findIdx (fun x=>decide (x=c))=i+(r.findIdx (fun x=>decide (x=c))+1) by omega]
      · rfl
section
variable {P:Program} {m:Md P B} {g:Option (Nat×Bool)}
theorem jeG (dd:Nat) {e:Bool} [KeyCT P t] (c:Bool) (a b:Int):Reads P B (Instr.checkKey e (dd+2) t (.agg [.bool c,.int .i64 a,.int .i64 b].toArray)) h ():=by
  obtain ⟨f,g,s,hu,o1,o2,o3,n1,n2,n3,s1,s2,s3,u3,u1,u2,hs⟩:=KeyCT.spec (P:=P) (t:=t)
  have one: ∀(t:TypeId) (n:Int),P.underlying t=some (.int .i64)→Reads P B (Instr.checkKey e (dd+1) t (.int .i64 n)) h ():=fun t n ht=>by
    unfold Instr.checkKey
    refine Reads.bind (jai ht).reads ?_
    exact Reads.pure _
  have oneb: ∀(t:TypeId) (n:Bool),P.underlying t=some .bool→Reads P B (Instr.checkKey e (dd+1) t (.bool n)) h ():=fun t n ht=>by
    unfold Instr.checkKey
    refine Reads.bind (jai ht).reads ?_
    exact Reads.pure _
  unfold Instr.checkKey
  refine Reads.bind (jai hu).reads ?_
  dsimp only
  rw [←Array.forIn_toList];simp only [xD,xS,n1,n2,n3,ne_eq,not_false_eq_true,if_true,o1,o2,o3,bind_assoc,pure_bind]
  refine Reads.bind (jaM (v:= .bool c) rfl) (Reads.bind (oneb _ _ u3) ?_)
  refine Reads.bind (jaM (v:= .int .i64 a) rfl) (Reads.bind (one _ _ u2) ?_)
  refine Reads.bind (jaM (v:= .int .i64 b) rfl) (Reads.bind (one _ _ u1) ?_)
  exact Reads.pure _
theorem jml {e c:Ce}:(c.butt==e.butt&&(c.line==e.line&&c.st==e.st))=true↔e=c:=by
  obtain ⟨e1,e2,e3⟩:=e
  obtain ⟨c1,c2,c3⟩:=c
  simp only [gK,beq_iff_eq,Ce.mk.injEq]
  constructor
  · rintro ⟨rfl,rfl,rfl⟩;exact ⟨rfl,rfl,rfl⟩
  · rintro ⟨rfl,rfl,rfl⟩;exact ⟨rfl,rfl,rfl⟩
theorem jha {t:TypeId} [KeyCT P t] (c:Ce): ∀(l:List Ce) (b:Nat),Reads P B (Instr.findAsking t (ceV c) (jcN l b) b) h ((jiN c l b).map fun p=>(p.1,.int .i64 p.2))
  |[],_=>Reads.pure _
  |e::r,b=>by
    unfold jcN Instr.findAsking jiN
    refine Reads.bind (jii 9997 c.butt e.butt c.line c.st e.line e.st) ?_
    by_cases hk:e=c
    · rw [if_pos hk,if_pos (jml.2 hk)];exact Reads.pure _
    · rw [if_neg hk,if_neg (fun y=>hk (jml.1 y))];exact jha c r (b+1)
theorem jfu [KeyCT P t] (c:Ce) (l:List Ce):Reads P B (Instr.findKey t (ceV c) (jcN l 0)) h ((jiN c l 0).map fun p=>(p.1,.int .i64 p.2)):=by
  obtain ⟨f,g,s,hu,_⟩:=KeyCT.spec (P:=P) (t:=t)
  unfold Instr.findKey
  refine Reads.bind (jai hu).reads ?_
  cases l with
  |nil=>exact Reads.pure _
  |cons e r=>
    show Reads P B (match Instr.findNow (.struct #[f,g,s]) (ceV c) (jcN (e::r) 0) 0 with|some r=>pure r|none=>_) h _
    have:Instr.findNow (.struct #[f,g,s]) (ceV c) (jcN (e::r) 0) 0=none:=by
      unfold jcN Instr.findNow
      simp [Instr.sameNow]
    rw [this];exact jha c _ _
theorem k_mkmapC (ho:ops[i]?=some ⟨d,.makeMap t none,ty,pos,af,g⟩) (hw:Wt ops l g) (n: ∀q,RegK m S ops r (put l d (.map (some q))) (h++[⟨true,q,jgw []⟩]) C):RegK m S ops ((i,.free)::r) l h C:=jrb ho hw n
def jda (l:List Ce) (c:Ce):Option Int:=(jiN c l 0).map (·.2)
theorem jlS {t k e:Nat} {x:Operand} {rw:Bool} {c:Ce} {cs:List Ce} (ht:P.underlying t=some (.map k e)) (ho:ops[i]?=some ⟨d,.lookup t x y false,ty,pos,af,g⟩) (hw:Wt ops l g) [KHeap kd S h H] [ex:OpV l x (.map (some q))] [ey:OpV l y (.agg [.bool c.butt,.int .i64 c.line,.int .i64 c.st].toArray)]
    [hq:Has H q rw (jgw cs)] [KeyCT P k] [ZeroT P e (.int .i64 0)] [PutV l d (.int .i64 ((jda cs c).getD 0)) l'] (n:RegK m S ops r l' h C):RegK m S ops ((i,kd)::r) l h C:=
  RegK.rd (v:= .int .i64 ((jda cs c).getD 0)) ho hw (by
    simp only [execOp,ex.eq,ey.eq]
    refine Reads.value ?_
    unfold Instr.lookup
    refine Reads.bind (jai ht).reads ?_
    dsimp only
    refine Reads.bind (jbs hq.mem rfl) ?_
    dsimp only [jgw]
    refine Reads.bind (Reads.pure _) ?_
    refine Reads.bind (jeG 9998 c.butt c.line c.st) ?_
    refine Reads.bind (jfu c cs) ?_
    unfold jda
    cases jiN c cs 0 with
    |none=>exact Reads.bind reads_zero (Reads.pure _)
    |some p=>exact Reads.pure _) n
theorem jo8 {t k e:Nat} {x:Operand} {rw:Bool} {c:Ce} {cs:List Ce} (ht:P.underlying t=some (.map k e)) (ho:ops[i]?=some ⟨d,.lookup t x y true,ty,pos,af,g⟩) (hw:Wt ops l g) [KHeap kd S h H] [ex:OpV l x (.map (some q))] [ey:OpV l y (.agg [.bool c.butt,.int .i64 c.line,.int .i64 c.st].toArray)]
    [hq:Has H q rw (jgw cs)] [KeyCT P k] [ZeroT P e (.int .i64 0)] (n:RegK m S ops r (put l d (.tuple [.int .i64 ((jda cs c).getD 0),.bool (jda cs c).isSome].toArray)) h C):RegK m S ops ((i,kd)::r) l h C:=
  haveI:PutV l d (.tuple [.int .i64 ((jda cs c).getD 0),.bool (jda cs c).isSome].toArray) (put l d (.tuple [.int .i64 ((jda cs c).getD 0),.bool (jda cs c).isSome].toArray)):=⟨rfl⟩
  RegK.rd (v:= .tuple [.int .i64 ((jda cs c).getD 0),.bool (jda cs c).isSome].toArray) ho hw (by
    simp only [execOp,ex.eq,ey.eq]
    refine Reads.value ?_
    unfold Instr.lookup
    refine Reads.bind (jai ht).reads ?_
    dsimp only
    refine Reads.bind (jbs hq.mem rfl) ?_
    dsimp only [jgw]
    refine Reads.bind (Reads.pure _) ?_
    refine Reads.bind (jeG 9998 c.butt c.line c.st) ?_
    refine Reads.bind (jfu c cs) ?_
    unfold jda
    cases jiN c cs 0 with
    |none=>exact Reads.bind reads_zero (Reads.pure _)
    |some p=>exact Reads.pure _) n
def jo3 (cs:List Ce) (c:Ce):Obj:= .map ((jcN cs 0).toArray.push ⟨ceV c,.int .i64 0,cs.length⟩) (cs.length+1)
theorem jrC {cs:List Ce} {c:Ce} (hn:c∉cs):jiN c cs 0=none:=by
  rw [jgk,if_neg];intro hlt
  have:=List.findIdx_getElem (w:=hlt)
  exact hn (by have e:=of_decide_eq_true this;rw [←e];exact Gn _)
theorem jmV {t k e:Nat} {x:Operand} {rw:Bool} {c:Ce} {cs:List Ce} (ht:P.underlying t=some (.map k e)) (ho:ops[i]?=some ⟨d,.mapEntry t x y,ty,pos,af,g⟩) (hw:Wt ops l g) [ks:KSub kd S h'] [ex:OpV l x (.map (some q))] [ey:OpV l y (.agg [.bool c.butt,.int .i64 c.line,.int .i64 c.st].toArray)]
    (hn:c∉cs) [hq:Has h q rw (jgw cs)] [KeyCT P k] [ZeroT P e (.int .i64 0)] [u:Upd h q (jo3 cs c) h'] (n:RegK m S ops r (put l d (.tuple [.int .i64 0,.int .i64 (cs.length:Int)].toArray)) h' C):RegK m S ops ((i,kd)::r) l h C:=by
  obtain ⟨o1,h1,h2,e1,e2⟩:=u.ex
  have hkd:kd= .keep∨kd= .free:=ks.eq.imp (·.1) id
  have hsub:kd= .free∨S.Sublist h':=ks.eq.elim (fun x=> .inr x.2) .inl
  refine RegK.ke hkd ho hw ?_
  refine jgy hq.mem ⟨o1,h1,h2,e1,rfl⟩ ?_
  simp only [execOp,ex.eq,ey.eq]
  refine Tri.bind ?_
  unfold Instr.mapEntry
  refine Tri.bind ((jai ht).reads.tri ?_)
  refine Tri.bind ((jbs (o:=jgw cs) (rw:=true) zS rfl).tri ?_)
  refine Tri.bind ((jeG 9998 c.butt c.line c.st).tri ?_)
  refine Tri.bind ((jfu (t:=k) c cs).tri ?_)
  rw [jrC hn];simp only [vl]
  refine Tri.bind (reads_zero.tri ?_)
  refine Tri.bind (jbB rfl rfl ?_)
  refine Tri.pure (Tri.pure ?_)
  show (kd= .free∨S.Sublist (h1++⟨true,q,jo3 cs c⟩::h2))∧RegK m S ops r (put l d (.tuple #[.int .i64 0,.int .i64 (cs.length:Int)])) (h1++⟨true,q,jo3 cs c⟩::h2) C
  rw [←e2];exact ⟨hsub,n⟩
theorem jkN {t:Nat} {x z:Operand} {rw:Bool} {c:Ce} {w:Int} {cs:List Ce} (ho:ops[i]?=some ⟨none,.entryStore t x y z,ty,pos,af,g⟩) (hw:Wt ops l g) [ks:KSub kd S h'] [ex:OpV l x (.map (some q))] [ey:OpV l y (.int .i64 (cs.length:Int))] [ez:OpV l z (.int .i64 w)]
    [hq:Has h q rw (jo3 cs c)] (hwl:w=(cs.length:Int)) [u:Upd h q (jgw (cs++[c])) h'] (n:RegK m S ops r l h' C):RegK m S ops ((i,kd)::r) l h C:=by
  subst hwl
  obtain ⟨o1,h1,h2,e1,e2⟩:=u.ex
  have hkd:kd= .keep∨kd= .free:=ks.eq.imp (·.1) id
  have hsub:kd= .free∨S.Sublist h':=ks.eq.elim (fun x=> .inr x.2) .inl
  refine RegK.ke hkd ho hw ?_
  refine jgy hq.mem ⟨o1,h1,h2,e1,rfl⟩ ?_
  simp only [execOp,ex.eq,ey.eq,ez.eq]
  refine Tri.bind ?_
  unfold Instr.entryStore
  refine Tri.bind ((jbs (o:=jo3 cs c) (rw:=true) zS rfl).tri ?_)
  refine Tri.bind (Tri.pure (a:=(cs.length:Int)) ?_)
  have hb: ∀(l:List Ce) (b:Nat),∀e∈jcN l b,e.born<b+l.length:=by
    intro l
    induction l with
    |nil=>intro b e he;simp [jcN] at he
    |cons a l ih=>
      intro b e he
      rw [jcN,gO] at he
      rcases he with rfl|he
      · simp
      · have:=ih (b+1) e he
        simp only [gY];omega
  have hi':((jcN cs 0).toArray.push ⟨ceV c,.int .i64 0,cs.length⟩).findIdx? (fun e=>(e.born:Int)==(cs.length:Int))=some cs.length:=by
    rw [List.push_toArray,List.findIdx?_toArray,List.findIdx?_append,List.findIdx?_eq_none_iff.2 (fun e he=>by
      have:=hb cs 0 e he
      simp only [beq_eq_false_iff_ne,ne_eq];omega)]
    simp [jeQ]
  simp only [jo3,hi']
  refine jbB rfl rfl ?_
  refine Tri.pure ?_
  have e3:(((jcN cs 0).toArray.push ⟨ceV c,.int .i64 0,cs.length⟩).modify cs.length fun e=>{e with val:= .int .i64 (cs.length:Int)})=(jcN (cs++[c]) 0).toArray:=by
    apply Array.ext_getElem?
    intro j
    rw [Array.getElem?_modify,jho,List.push_toArray,gZ,gZ,Gv,Gv,jeQ];by_cases e:cs.length=j
    · subst e;simp [jcN]
    · rw [if_neg e];split
      · rfl
      · rename_i hh
        rw [gl zN,gl (by simp [jcN];omega)]
  rw [e3];have:(Obj.map (jcN (cs++[c]) 0).toArray (cs.length+1))=jgw (cs++[c]):=by simp [jgw]
  show (kd= .free∨S.Sublist (h1++⟨true,q,Obj.map (jcN (cs++[c]) 0).toArray (cs.length+1)⟩::h2))∧RegK m S ops r _ (h1++⟨true,q,Obj.map (jcN (cs++[c]) 0).toArray (cs.length+1)⟩::h2) C
  rw [this,←e2];exact ⟨hsub,n⟩
end
end Go.Lo
namespace Go.Lo
structure Cd where
  st:Int
  butt:Bool
  lat:Int
  can:List Int
  deriving DecidableEq,Inhabited
abbrev Bo:=List (Option Int)
def riL (la lc ma mc:Int):Bool:=decide (la=lc)||(decide (ma≤mc)==decide (la<lc))||decide (ma=mc)
def riX (la lc ma mc:Int):Bool:=if mc<la then decide (ma≥lc) else decide (mc=la)||decide (ma≤lc)
def riC (a c:Cd) (ma mc:Int):Bool:=
  if a.st≠c.st then true
  else if a.butt=c.butt then riL a.lat c.lat ma mc
  else if a.butt then riX c.lat a.lat mc ma
  else riX a.lat c.lat ma mc
theorem jmJ:riL la lc ma mc=true↔la=lc∨(la<lc∧ma≤mc)∨(lc<la∧mc≤ma):=by
  unfold riL
  by_cases h1:la=lc<;>by_cases h2:la<lc<;>by_cases h3:ma≤mc<;>by_cases h4:ma=mc<;>simp [h1,h2,h3,h4]<;>omega
theorem riX_iff:riX la lc ma mc=true↔(mc<la→lc≤ma)∧(la<mc→ma≤lc):=by
  unfold riX
  by_cases h1:mc<la
  · rw [if_pos h1];simp;omega
  · rw [if_neg h1];simp;omega
theorem riL_comm:riL la lc ma mc=riL lc la mc ma:=by
  rw [xE,jmJ,jmJ];omega
theorem je1 {a c:Cd} {m n:Int}:riC a c m n=riC c a n m:=by
  unfold riC
  by_cases h1:a.st=c.st
  · rw [if_neg (show¬(a.st≠c.st) from fun h=>h h1),if_neg (show¬(c.st≠a.st) from fun h=>h h1.symm)];by_cases h2:a.butt=c.butt
    · rw [if_pos h2,if_pos h2.symm];exact riL_comm
    · rw [if_neg h2,if_neg (show¬(c.butt=a.butt) from fun e=>h2 e.symm)];cases ha:a.butt<;>cases hc:c.butt<;>simp_all
  · rw [if_pos h1,if_pos fun e=>h1 e.symm]
def jaE (d:Cd) (v:Int):List Cd→Bo→Bool
  |e::D,some u::x=>riC d e v u&&jaE d v D x
  |_::D,none::x=>jaE d v D x
  |_,_=>true
def okA:List Cd→Bo→Bool
  |[],[]=>true
  |d::D,some v::x=>decide (v∈d.can)&&jaE d v D x&&okA D x
  |_::D,none::x=>okA D x
  |_,_=>false
def jgI (x:Bo):Nat:=x.countP (·.isNone)
def jbu:List Cd→Nat→List Bo
  |[],_=>[[]]
  |d::D,0=>d.can.flatMap fun v=>((jbu D 0).filter (jaE d v D)).map (some v:: ·)
  |d::D,w+1=>(d.can.flatMap fun v=>((jbu D (w+1)).filter (jaE d v D)).map (some v:: ·))++(jbu D w).map (none:: ·)
def jgL (D:List Cd):Nat→List Bo
  |0=>[]
  |w+1=>(jbu D w).map (none:: ·)
theorem jci {d:Cd} {D:List Cd} {w:Nat}:jbu (d::D) w=(d.can.flatMap fun v=>((jbu D w).filter (jaE d v D)).map (some v:: ·))++jgL D w:=by
  cases w with
  |zero=>simp [jbu,jgL]
  |succ w=>rfl
theorem je7 {w:Nat}:jbu [] w=[[]]:=by cases w<;>rfl
@[simp] theorem nones_nil:jgI []=0:=rfl
@[simp] theorem nones_some {v:Int} {x:Bo}:jgI (some v::x)=jgI x:=by simp [jgI]
@[simp] theorem nones_none {x:Bo}:jgI (none::x)=jgI x+1:=by simp [jgI]
theorem jbq: ∀{D:List Cd} {w:Nat} {x:Bo},x∈jbu D w↔okA D x=true∧jgI x≤w
  |[],w,[]=>by simp [je7,okA]
  |[],w,_::_=>by simp [je7,okA]
  |d::D,w,[]=>by
    simp only [jci,okA,gQ,vd,gP]
    constructor
    · rintro (⟨v,_,y,_,h⟩|h)
      · cases h
      · cases w with
        |zero=>cases h
        |succ w=>simp [jgL] at h
    · rintro ⟨h,_⟩;cases h
  |d::D,w,some v::x=>by
    simp only [jci,okA,gQ,vd,gP,nones_some,gK,decide_eq_true_eq]
    constructor
    · rintro (⟨u,hu,y,hy,h⟩|h)
      · injection h with h1 h2
        injection h1 with h1
        subst h1;subst h2
        rw [gV,jbq] at hy
        exact ⟨⟨⟨hu,hy.2⟩,hy.1.1⟩,hy.1.2⟩
      · cases w with
        |zero=>cases h
        |succ w=>simp [jgL] at h
    · rintro ⟨⟨⟨h1,h2⟩,h3⟩,h4⟩;exact .inl ⟨v,h1,x,by rw [gV,jbq];exact ⟨⟨h3,h4⟩,h2⟩,rfl⟩
  |d::D,w,none::x=>by
    simp only [jci,okA,gQ,vd,gP,nones_none]
    constructor
    · rintro (⟨u,hu,y,hy,h⟩|h)
      · cases h
      · cases w with
        |zero=>cases h
        |succ w=>
          simp only [jgL,gP,Gb,true_and,exists_eq_right,jbq] at h
          exact ⟨h.1,by omega⟩
    · rintro ⟨h1,h2⟩;right
      cases w with
      |zero=>omega
      |succ w=>
        simp only [jgL,gP,Gb,true_and,exists_eq_right,jbq]
        exact ⟨h1,by omega⟩
theorem jcl: ∀{D:List Cd} {x:Bo},okA D x=true→x.length=D.length
  |[],[],_=>rfl
  |[],_::_,h=>by simp [okA] at h
  |_::_,[],h=>by simp [okA] at h
  |d::D,some v::x,h=>by
    simp only [okA,gK] at h
    simp [jcl h.2]
  |d::D,none::x,h=>by
    simp only [okA] at h
    simp [jcl h]
theorem jnc {D:List Cd} {x:Bo} (h:x∈jbu D 0): ∀o∈x,o≠none:=by
  rw [jbq] at h
  intro o ho e
  subst e
  have:0<jgI x:=List.countP_pos_iff.2 ⟨none,ho,rfl⟩
  omega
abbrev dA (D:List Cd) (i:Nat):Cd:=D.getD i default
abbrev xA (x:Bo) (i:Nat):Option Int:=x.getD i none
theorem jcP {d:Cd} {v:Int}: ∀{D:List Cd} {x:Bo},x.length=D.length→(jaE d v D x=true↔ ∀j u,xA x j=some u→riC d (dA D j) v u=true)
  |[],[],_=>by simp [jaE]
  |[],_::_,h=>by simp at h
  |_::_,[],h=>by simp at h
  |e::D,some w::x,h=>by
    simp only [jaE,gK]
    rw [jcP (by simpa using h)];constructor
    · rintro ⟨h1,h2⟩ j u hj;cases j with
      |zero=>
        have:w=u:=by simpa using hj
        subst this;simpa using h1
      |succ j=>simpa using h2 j u (by simpa using hj)
    · intro hh
      exact ⟨by simpa using hh 0 w zS,fun j u hj=>by simpa using hh (j+1) u (by simpa using hj)⟩
  |e::D,none::x,h=>by
    simp only [jaE]
    rw [jcP (by simpa using h)];constructor
    · intro h2 j u hj
      cases j with
      |zero=>simp at hj
      |succ j=>simpa using h2 j u (by simpa using hj)
    · intro hh j u hj
      simpa using hh (j+1) u (by simpa using hj)
theorem jfz: ∀{D:List Cd} {x:Bo},okA D x=true↔x.length=D.length∧(∀i v,xA x i=some v→v∈(dA D i).can)∧ ∀i j v u,i<j→xA x i=some v→xA x j=some u→riC (dA D i) (dA D j) v u=true
  |[],[]=>by simp [okA]
  |[],_::_=>by simp [okA]
  |_::_,[]=>by simp [okA]
  |d::D,some w::x=>by
    simp only [okA,gK,decide_eq_true_eq]
    constructor
    · rintro ⟨⟨h1,h2⟩,h3⟩;have hl:=jcl h3
      rw [jcP hl] at h2
      rw [jfz] at h3
      refine ⟨by simp [hl],fun i v hi=>?_,fun i j v u hij hi hj=>?_⟩
      · cases i with
        |zero=>
          have:w=v:=by simpa using hi
          subst this;simpa using h1
        |succ i=>simpa using h3.2.1 i v (by simpa using hi)
      · cases j with
        |zero=>omega
        |succ j=>
          cases i with
          |zero=>
            have:w=v:=by simpa using hi
            subst this;simpa using h2 j u (by simpa using hj)
          |succ i=>simpa using h3.2.2 i j v u zO (by simpa using hi) (by simpa using hj)
    · rintro ⟨hl,h1,h2⟩;have hl':x.length=D.length:=by simpa using hl
      refine ⟨⟨by simpa using h1 0 w zS,?_⟩,?_⟩
      · rw [jcP hl'];exact fun j u hj=>by simpa using h2 0 (j+1) w u zO zS (by simpa using hj)
      · rw [jfz];exact ⟨hl',fun i v hi=>by simpa using h1 (i+1) v (by simpa using hi),fun i j v u hij hi hj=>by simpa using h2 (i+1) (j+1) v u zO (by simpa using hi) (by simpa using hj)⟩
  |d::D,none::x=>by
    simp only [okA]
    rw [jfz];constructor
    · rintro ⟨hl,h1,h2⟩;refine ⟨by simp [hl],fun i v hi=>?_,fun i j v u hij hi hj=>?_⟩
      · cases i with
        |zero=>simp at hi
        |succ i=>simpa using h1 i v (by simpa using hi)
      · cases j with
        |zero=>omega
        |succ j=>
          cases i with
          |zero=>simp at hi
          |succ i=>simpa using h2 i j v u zO (by simpa using hi) (by simpa using hj)
    · rintro ⟨hl,h1,h2⟩;exact ⟨by simpa using hl,fun i v hi=>by simpa using h1 (i+1) v (by simpa using hi),fun i j v u hij hi hj=>by simpa using h2 (i+1) (j+1) v u zO (by simpa using hi) (by simpa using hj)⟩
def jcE (x:Bo):List Bool:=x.map (·.isNone)
def jfg:List Cd→List Bool→List Bo
  |[],_=>[[]]
  |_::D,true::p=>(jfg D p).map (none:: ·)
  |d::D,false::p=>d.can.flatMap fun v=>((jfg D p).filter (jaE d v D)).map (some v:: ·)
  |d::D,[]=>d.can.flatMap fun v=>((jfg D []).filter (jaE d v D)).map (some v:: ·)
theorem filter_comm' {α:Type} (p q:α→Bool) (l:List α):(l.filter p).filter q=(l.filter q).filter p:=by
  rw [List.filter_filter,List.filter_filter];exact VJ fun x _=>Bool.and_comm ..
theorem jef: ∀{D:List Cd} {w:Nat} {p:List Bool},p.length=D.length→p.count true≤w→(jbu D w).filter (fun x=>decide (jcE x=p))=jfg D p
  |[],w,[],_,_=>by simp [je7,jfg,jcE]
  |[],w,_::_,h,_=>by simp at h
  |_::_,w,[],h,_=>by simp at h
  |d::D,w,false::p,h,hc=>by
    simp only [jci,jfg,GG,VW]
    have e2:List.filter (fun x=>decide (jcE x=false::p)) (jgL D w)=[]:=by
      cases w with
      |zero=>rfl
      |succ w=>
        simp only [jgL,VC,xL,VF]
        intro x _
        simp [jcE]
    rw [e2,gd];congr 1
    funext v
    rw [VC];congr 1
    rw [←jef (D:=D) (w:=w) (p:=p) (by simpa using h) (by simpa using hc),filter_comm'];congr 1
    refine VJ fun x _=>?_
    simp only [jcE,Function.comp,gu,Option.isNone_some,Gb,true_and]
    congr
  |d::D,w,true::p,h,hc=>by
    simp only [jci,jfg,GG,VW]
    have e1:(d.can.flatMap fun v=>List.filter (fun x=>decide (jcE x=true::p)) (((jbu D w).filter (jaE d v D)).map (some v:: ·)))=[]:=by
      rw [List.flatMap_eq_nil_iff];intro v _
      rw [VC,xL,VF];intro x _
      simp [jcE]
    rw [e1,GI];cases w with
    |zero=>simp at hc
    |succ w=>
      simp only [jgL,VC]
      congr 1
      rw [←jef (D:=D) (w:=w) (p:=p) (by simpa using h) (by simp at hc;omega)];refine VJ fun x _=>?_
      simp only [jcE,Function.comp,gu,Option.isNone_none,Gb,true_and]
      congr
theorem jhF {D:List Cd} {p:List Bool} {x:Bo} (hp:p.length=D.length):x∈jfg D p↔okA D x=true∧jcE x=p:=by
  rw [←jef (w:=p.count true) hp (gL _),gV,jbq];simp only [decide_eq_true_eq]
  constructor
  · rintro ⟨⟨h1,_⟩,h2⟩;exact ⟨h1,h2⟩
  · rintro ⟨h1,h2⟩;refine ⟨⟨h1,?_⟩,h2⟩
    rw [←h2];refine Nat.le_of_eq ?_
    unfold jgI jcE
    rw [List.count,Va];exact VK fun o _=>by simp
theorem jqR {x:Bo}:(jcE x).count true=jgI x:=by
  unfold jgI jcE
  rw [List.count,Va];exact VK fun o _=>by simp
theorem jnt {κ:Type} [DecidableEq κ] (c:κ) (n:Nat): ∀{K:List κ},K.Nodup→(K.map fun k=>if c=k then n else 0).sum=if c∈K then n else 0
  |[],_=>by simp
  |k::K,h=>by
    rw [vS] at h
    rw [gu,vL,jnt c n h.2];by_cases hc:c=k
    · subst hc
      rw [if_pos rfl,if_neg h.1,if_pos zS];rfl
    · rw [if_neg hc];by_cases hm:c∈K
      · rw [if_pos hm,if_pos (by simp [hm])];omega
      · rw [if_neg hm,if_neg (by simp [hc,hm])]
theorem jqx {α κ:Type} [DecidableEq α] [DecidableEq κ] (f:α→κ) {K:List κ} (hK:K.Nodup) {l:List α} (h: ∀x∈l,f x∈K):l.Perm (K.flatMap fun k=>l.filter fun x=>decide (f x=k)):=by
  rw [List.perm_iff_count];intro a
  rw [List.count_flatMap];have e:(K.map (List.count a∘fun k=>l.filter fun x=>decide (f x=k)))=K.map fun k=>if f a=k then l.count a else 0:=by
    refine GY fun k _=>?_
    show List.count a (l.filter _)=_
    by_cases hk:f a=k
    · rw [if_pos hk,List.count_filter (by simpa using hk)]
    · rw [if_neg hk,List.count_eq_zero];simp [hk]
  rw [e,jnt _ _ hK];by_cases hm:f a∈K
  · rw [if_pos hm]
  · rw [if_neg hm,List.count_eq_zero];exact fun ha=>hm (h a ha)
theorem jgM {D:List Cd} {w:Nat} {x:Bo} (h:x∈jbu D w):x.length=D.length:=jcl (jbq.1 h).1
def ja8:List Cd→Bo→List Cd→Bo→Bool
  |d::D,some v::x,C,y=>jaE d v C y&&ja8 D x C y
  |_::D,none::x,C,y=>ja8 D x C y
  |_,_,_,_=>true
theorem je6 {C:List Cd} {y:Bo} (hy:y.length=C.length): ∀{D:List Cd} {x:Bo},x.length=D.length→(ja8 D x C y=true↔ ∀i j v u,xA x i=some v→xA y j=some u→riC (dA D i) (dA C j) v u=true)
  |[],[],_=>by simp [ja8]
  |[],_::_,h=>by simp at h
  |_::_,[],h=>by simp at h
  |e::D,some w::x,h=>by
    simp only [ja8,gK]
    rw [jcP hy,je6 hy (by simpa using h)];constructor
    · rintro ⟨h1,h2⟩ i j v u hi hj;cases i with
      |zero=>
        have:w=v:=by simpa using hi
        subst this;simpa using h1 j u hj
      |succ i=>simpa using h2 i j v u (by simpa using hi) hj
    · intro hh
      exact ⟨fun j u hj=>by simpa using hh 0 j w u zS hj,fun i j v u hi hj=>by simpa using hh (i+1) j v u (by simpa using hi) hj⟩
  |e::D,none::x,h=>by
    simp only [ja8]
    rw [je6 hy (by simpa using h)];constructor
    · intro h2 i j v u hi hj
      cases i with
      |zero=>simp at hi
      |succ i=>simpa using h2 i j v u (by simpa using hi) hj
    · intro hh i j v u hi hj
      simpa using hh (i+1) j v u (by simpa using hi) hj
def jbm {α:Type}:List Bool→List α→List α
  |true::p,a::l=>a::jbm p l
  |false::p,_::l=>jbm p l
  |_,_=>[]
theorem jdD {d:Cd} {v:Int}: ∀{p:List Bool} {D:List Cd} {x:Bo},x.length=D.length→jaE d v D x=true→jaE d v (jbm p D) (jbm p x)=true
  |[],D,x,_,_=>by cases D<;>cases x<;>rfl
  |b::p,[],[],_,_=>by cases b<;>rfl
  |_::_,[],_::_,h,_=>by simp at h
  |_::_,_::_,[],h,_=>by simp at h
  |true::p,e::D,some u::x,h,ha=>by
    simp only [jbm,jaE,gK] at ha⊢
    exact ⟨ha.1,jdD (by simpa using h) ha.2⟩
  |false::p,e::D,some u::x,h,ha=>by
    simp only [jbm,jaE,gK] at ha⊢
    exact jdD (by simpa using h) ha.2
  |true::p,e::D,none::x,h,ha=>by
    simp only [jbm,jaE] at ha⊢
    exact jdD (by simpa using h) ha
  |false::p,e::D,none::x,h,ha=>by
    simp only [jbm,jaE] at ha⊢
    exact jdD (by simpa using h) ha
theorem jf0: ∀{p:List Bool} {D:List Cd} {x:Bo},p.length=D.length→okA D x=true→okA (jbm p D) (jbm p x)=true
  |[],[],[],_,_=>rfl
  |[],[],_::_,_,h=>by simp [okA] at h
  |[],_::_,_,h,_=>by simp at h
  |_::_,[],_,h,_=>by simp at h
  |_::_,_::_,[],_,h=>by simp [okA] at h
  |true::p,d::D,some v::x,h,ha=>by
    simp only [okA,gK] at ha
    have hl:=jcl ha.2
    simp only [jbm,okA,gK]
    exact ⟨⟨ha.1.1,jdD hl ha.1.2⟩,jf0 (by simpa using h) ha.2⟩
  |false::p,d::D,some v::x,h,ha=>by
    simp only [okA,gK] at ha
    simp only [jbm]
    exact jf0 (by simpa using h) ha.2
  |true::p,d::D,none::x,h,ha=>by
    simp only [okA] at ha
    simp only [jbm,okA]
    exact jf0 (by simpa using h) ha
  |false::p,d::D,none::x,h,ha=>by
    simp only [okA] at ha
    simp only [jbm]
    exact jf0 (by simpa using h) ha
def jdr:List Bool→Bo→Bo
  |true::p,o::x=>o::jdr p x
  |true::p,[]=>none::jdr p []
  |false::p,x=>none::jdr p x
  |[],_=>[]
theorem jdi {d:Cd} {v:Int}: ∀{p:List Bool} {D:List Cd} {x:Bo},p.length=D.length→x.length=(jbm p D).length→jaE d v D (jdr p x)=jaE d v (jbm p D) x
  |[],[],[],_,_=>rfl
  |[],[],_::_,_,h=>by simp [jbm] at h
  |[],_::_,_,h,_=>by simp at h
  |_::_,[],_,h,_=>by simp at h
  |true::p,e::D,[],_,h=>by simp [jbm] at h
  |true::p,e::D,some u::x,h,hx=>by
    simp only [jdr,jbm,jaE]
    rw [jdi (by simpa using h) (by simpa [jbm] using hx)]
  |true::p,e::D,none::x,h,hx=>by
    simp only [jdr,jbm,jaE]
    rw [jdi (by simpa using h) (by simpa [jbm] using hx)]
  |false::p,e::D,x,h,hx=>by
    simp only [jdr,jbm,jaE]
    rw [jdi (by simpa using h) (by simpa [jbm] using hx)]
theorem je3: ∀{p:List Bool} {D:List Cd} {x:Bo},p.length=D.length→okA (jbm p D) x=true→okA D (jdr p x)=true
  |[],[],[],_,_=>rfl
  |[],[],_::_,_,h=>by simp [jbm,okA] at h
  |[],_::_,_,h,_=>by simp at h
  |_::_,[],_,h,_=>by simp at h
  |true::p,e::D,[],_,h=>by simp [jbm,okA] at h
  |true::p,e::D,some u::x,h,hx=>by
    simp only [jbm,okA,gK] at hx
    have hl:=jcl hx.2
    simp only [jdr,okA,gK]
    exact ⟨⟨hx.1.1,by rw [jdi (by simpa using h) hl];exact hx.1.2⟩,je3 (by simpa using h) hx.2⟩
  |true::p,e::D,none::x,h,hx=>by
    simp only [jbm,okA] at hx
    simp only [jdr,okA]
    exact je3 (by simpa using h) hx
  |false::p,e::D,x,h,hx=>by
    simp only [jbm] at hx
    simp only [jdr,okA]
    exact je3 (by simpa using h) hx
theorem jgF: ∀{p:List Bool} {x:Bo},(∀o∈x,o≠none)→x.length=p.count true→jcE (jdr p x)=p.map (!·)
  |[],x,_,_=>rfl
  |true::p,[],_,h=>by simp at h
  |true::p,some v::x,hx,h=>by
    simp only [jdr,jcE,gu,Option.isNone_some,Gt]
    congr 1
    exact jgF (fun o ho=>hx o (by simp [ho])) (by simpa using h)
  |true::p,none::x,hx,h=>absurd rfl (hx none zS)
  |false::p,x,hx,h=>by
    simp only [jdr,jcE,gu,Option.isNone_none,Gk]
    congr 1
    exact jgF hx (by simpa using h)
theorem jfx {α:Type}: ∀{p:List Bool} {l:List α},p.length=l.length→(jbm p l).length=p.count true
  |[],[],_=>rfl
  |[],_::_,h=>by simp at h
  |_::_,[],h=>by simp at h
  |true::p,a::l,h=>by simp only [jbm,gY];rw [jfx (by simpa using h)];simp
  |false::p,a::l,h=>by simp only [jbm];rw [jfx (by simpa using h)];simp
theorem jim: ∀{p:List Bool} {x:Bo},jcE x=p.map (!·)→ ∀o∈jbm p x,o≠none
  |[],x,h,o,ho=>by cases x<;>simp [jbm] at ho
  |b::p,[],h,o,ho=>by cases b<;>simp [jbm] at ho
  |true::p,a::x,h,o,ho=>by
    simp only [jcE,gu,Gt,Gb] at h
    simp only [jbm,gO] at ho
    rcases ho with rfl|ho
    · intro e;rw [e] at h;simp at h
    · exact jim h.2 o ho
  |false::p,a::x,h,o,ho=>by
    simp only [jcE,gu,Gk,Gb] at h
    simp only [jbm] at ho
    exact jim h.2 o ho
def jbP (D:List Cd):Bool:=!(jbu D 0).isEmpty
theorem joK {D:List Cd}:jbP D=true↔ ∃x,okA D x=true∧ ∀o∈x,o≠none:=by
  unfold jbP
  rw [vO,List.isEmpty_eq_false_iff_exists_mem];constructor
  · rintro ⟨x,hx⟩;exact ⟨x,(jbq.1 hx).1,jnc hx⟩
  · rintro ⟨x,h1,h2⟩;refine ⟨x,jbq.2 ⟨h1,?_⟩⟩
    refine Nat.le_of_eq (xM.2 fun o ho=>?_)
    have:=h2 o ho
    cases o<;>simp_all
theorem jgG {D:List Cd} {p:List Bool} (hp:p.length=D.length):(jfg D (p.map (!·))≠[])↔jbP (jbm p D)=true:=by
  rw [joK];constructor
  · intro h
    obtain ⟨x,hx⟩:=List.exists_mem_of_ne_nil _ h
    rw [jhF (by simpa using hp)] at hx
    exact ⟨jbm p x,jf0 hp hx.1,jim hx.2⟩
  · rintro ⟨y,h1,h2⟩;have:jdr p y∈jfg D (p.map (!·)):=by
      rw [jhF (by simpa using hp)];exact ⟨je3 hp h1,jgF h2 (by rw [jcl h1,jfx hp])⟩
    exact fun e=>by rw [e] at this;cases this
end Go.Lo
