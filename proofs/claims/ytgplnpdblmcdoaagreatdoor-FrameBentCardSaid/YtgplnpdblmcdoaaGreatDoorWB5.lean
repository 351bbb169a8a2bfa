/- A part of the proof of a law: my own separation logic over the machine, and walks of the program. Condition of each theorem: as its statement says. -/
import Derived.Test.YtgplnpdblmcdoaaGreatDoorWB4
import Derived.Conc.LeavingOf
import Derived.Deep.Slices
import Derived.OpenShut
import Derived.Carry
import Derived.LaidMore
import Derived.Stop.Joined
import Derived.Conc.HoldsTime
set_option linter.all false
namespace Go.Lo
open Go.Conc
section
variable {P:Program} {B:Array Obj}
def Md.kidS (P:Program) (B:Array Obj) (Q:ProS) (i:Nat) (s:Q.S) (hg: ¬Q.gone s):Md P B where
  main:=false
  R:=fun K g h=>(∀g' h',K g' h'→CRunS P B Q i 0 s g' h')→CRunS P B Q i 0 s g h
  stop:=fun k c=>c _ _ k
  step:=fun st n c=> .step _ hg st fun g' h' x=>n g' h' x c
  bind:=fun r n c=>r fun g' h' k=>n g' h' k c
  weak:=fun k n c=> .weak k (n c)
theorem Md.kidS.to {Q:ProS} {i:Nat} {s:Q.S} {hg: ¬Q.gone s} {g:Goroutine} {h:Hp} (r:(Md.kidS P B Q i s hg).R (CRunS P B Q i 0 s) g h):((Sy.kid P B Q i).im 0 s h).R g:=r fun _ _ x=>x
theorem Md.kidS.of {Q:ProS} {i:Nat} {s:Q.S} {hg: ¬Q.gone s} {g:Goroutine} {h:Hp} (r:((Sy.kid P B Q i).im 0 s h).R g):(Md.kidS P B Q i s hg).R (CRunS P B Q i 0 s) g h:=(Md.kidS P B Q i s hg).stop (K:=CRunS P B Q i 0 s) r
def Md.mid (P:Program) (B:Array Obj) (Q:ProS) (s:Q.S) (K0:Goroutine→Hp→Prop):Md P B where
  main:=true
  R:=fun K g h=>(∀g' h',K g' h'→MRunS P B K0 (some ⟨Q,0,s⟩) g' h')→MRunS P B K0 (some ⟨Q,0,s⟩) g h
  stop:=fun k c=>c _ _ k
  step:=fun st n c=> .step _ st fun g' h' x=>n g' h' x c
  bind:=fun r n c=>r fun g' h' k=>n g' h' k c
  weak:=fun k n c=> .weak k (n c)
theorem Md.mid.to {Q:ProS} {s:Q.S} {K:Goroutine→Hp→Prop} {g:Goroutine} {h:Hp} (r:(Md.mid P B Q s K).R (MRunS P B K (some ⟨Q,0,s⟩)) g h):((Sy.zero P B Q K).im 0 s h).R g:=r fun _ _ x=>x
theorem Md.mid.of {Q:ProS} {s:Q.S} {K:Goroutine→Hp→Prop} {g:Goroutine} {h:Hp} (r:((Sy.zero P B Q K).im 0 s h).R g):(Md.mid P B Q s K).R (MRunS P B K (some ⟨Q,0,s⟩)) g h:=(Md.mid P B Q s K).stop (K:=MRunS P B K (some ⟨Q,0,s⟩)) r
theorem Sy.weaken {Q:ProS} {Y:Sy P B Q} {d:Nat} {s:Q.S} {h h':Hp} {g:Goroutine} (k:Weak B h h') (n:(Y.im d s h').R g):(Y.im d s h).R g:=Y.weak k n
theorem tot_one {α:Type} (f:α→Nat) (G:Nat→α):tot f G 1=f (G 0):=by
  have:=tot_upd (f:=f) (G:=G) (a:=G 0) (i:=0) (n:=1) (by omega)
  simp [tot]
theorem Meet.start0 (M:Meet) {Pool:Hp} (hP:M.PL [] Pool):M.pro.Inv [M.muC ⟨false,false,false,0⟩ 0,M.wgC 0 0 0] Pool (fun j=>if j=0 then some (.m M.n .idle) else none):=by
  refine ⟨⟨false,false,false,0⟩,0,0,0,0,1,M.n,.idle,[],rfl,⟨rfl,fun j hj r p e=>absurd ((if_neg hj).symm.trans e:(none:Option SS)=some _) (by simp),fun j hj=>(if_neg (show j≠0 by omega):(if j=0 then some (SS.m M.n .idle) else none:Option SS)=none),fun j k l g z e=>?_,?_,?_,?_,by omega,Nat.le_refl _⟩⟩
  · by_cases h:j=0
    · subst h;cases e
    · rw [if_neg h] at e;cases e
  · refine ⟨⟨?_,fun _=>?_,(fun e=>by cases e),fun _ _ _ e=>absurd e (Nat.lt_irrefl 0)⟩,fun j hj=>?_,?_⟩
    · simp [ctsOf,tot_one,pL,LS.cL]
    · simp [ctsOf,tot_one,pL,LS.cT,LS.cK,LS.cR,LS.cH,LS.cQ]
    · obtain rfl:j=0:=by omega
      simp [pL,LS.ok]
    · simp [Phi,tot_one,pL,LS.phi]
  · refine ⟨by omega,?_,?_,fun j hj=>?_⟩
    · simp [wctOf,tot_one,pW,WS.cV]
    · simp [wctOf,tot_one,pW,WFits,WS.cV,WS.c1,WS.c2,WS.c3]
    · simp [hj,pW,WS.kid]
  · have nil: ∀j k l g z,((fun j=>if j=0 then some (.m M.n .idle) else none:Nat→Option SS) j)≠some (.w k l g z):=fun j k l g z e=>by
      by_cases h:j=0
      · subst h;cases e
      · simp only [if_neg h] at e;cases e
    exact ⟨List.nodup_nil,fun k hk=>by simp at hk,fun j k l g z e=>absurd e (nil j k l g z),fun j j' k l g z l' g' z' e=>absurd e (nil j k l g z),fun k hk=>by omega,fun j k g z e=>absurd e (nil j k _ g z),fun _=>hP⟩
end
section
variable {P:Program} {B:Array Obj} {M:Meet} {Y:Sy P B M.pro} {h:Hp}
variable {b:Frame} {l l':List Value} {ds:List Deferred} {k:List Item} {cs:List Frame}
theorem s_skipRet {kn:Nat} {z:List Nat} (hr:b.roundOf=none) (hh:M.hit kn=false) (n:(Y.im 0 (.w kn .fin .on z) h).R (Gret b l ds (.code .ret::k) cs)):(Y.im 0 (.w kn .out .on z) h).R (Gr b l ds (.code .ret::k) cs):=by
  refine Y.syn rfl rfl fun Shp Pool F w inv hF sat=>?_
  have hst:stepG P Y.main (Gr b l ds (.code .ret::k) cs) w= .go (Gret b l ds (.code .ret::k) cs) w ([]:List Event).toArray:=by simp [Gr,Gret,Fr,G,stepG,stepG.exec,hr]
  rw [hst];have hrw:=Meet.rw inv
  obtain ⟨x,sm,v,wt,ws,N,r,p,ks,rfl,I⟩:=inv
  exact .act (o:=some (.w kn .fin .on z)) (SEff.refl hrw) (.inl rfl) rfl zq (fun s' e=>by obtain rfl:=Option.some.inj e;exact Iff.rfl) (fun e=>by cases e)
    ⟨x,sm,v,wt,ws,N,r,p,ks,rfl,I.goL hF .fin (I.lock.skips (I.lt hF) (by rw [hF];rfl)) (.inr hh) (by simp) (by simp)⟩ n
end
section
variable {P:Program} {B:Array Obj} {M:Meet} {K:Goroutine→Hp→Prop}
theorem mid_spawn {ops:Array Oper} {i:Nat} {rest:List Nat} {b:Frame} {l:List Value} {ds:List Deferred} {k:List Item} {cs:List Frame} {x:Operand} {ats:Array TypeId} {ty:TypeId} {pos:String} {af:Array Edge} {f:FuncId} {first cap:Array Value} {h h' hc:Hp} {r:Nat}
    (ho:ops[i]?=some ⟨none,.go ⟨.value x,#[],ats⟩,ty,pos,af,none⟩) [ex:OpV l x (.func (.func f) first cap)] (hr:r+1≤M.n) (k1:Weak B h h') (k2:Weak B h hc) (ap: ∀w,Sat B h w→ApH h' hc)
    (kid: ∀j,j≠0→((Sy.kid P B M.pro j).im 0 (.w (M.n-(r+1)) .out .on []) hc).R (kid0 P {target:= .fn (.func f) cap,args:=first++ #[]}))
    (n:((Sy.zero P B M.pro K).im 0 (.m r .idle) h').R (Gr b l ds (.inRegion ops rest::k) cs)):((Sy.zero P B M.pro K).im 0 (.m (r+1) .adds) h).R (Gr b l ds (.inRegion ops (i::rest)::k) cs):=by
  refine MRunS.spawn (Q:=M.pro) (h':=h') (hc:=hc) (.m r .idle) (.w (M.n-(r+1)) .out .on []) rfl rfl (fun w _=>stepG_spawn0 ho w) k1 k2 ap (fun e=>e) (fun Shp Pool F j hj inv h0 hn=>?_) kid n
  obtain ⟨x,sm,v,wt,ws,N,r',p,ks,rfl,I⟩:=inv
  have e0:=I.f0
  rw [h0] at e0
  have:=Option.some.inj e0
  injection this with e1 e2
  subst e1 e2
  obtain ⟨N',I'⟩:=I.start hj hn (by omega)
  exact ⟨x,sm,v,wt,ws,N',r,.idle,ks,rfl,I'⟩
theorem kidS_enter {Q:ProS} {s:Q.S} {i:Nat} {f:FuncId} {cap args:Array Value} {fn:Func} {body:Code} {n:Nat} {al l:List Value} {h:Hp} (hg: ¬Q.gone s) (hcall:callB P f=true) (hf:P.funcs[f]?=some fn) (hb:fn.body=some body) (hn:fn.ntmps=n) (ha:args++cap=al.toArray) (hl:al++List.replicate (n-al.length) undef=l)
    (t:((Sy.kid P B Q i).im 0 s h).R (Gr (bD f) l [] [.code body] [kidF P])):((Sy.kid P B Q i).im 0 s h).R (kid0 P {target:= .fn (.func f) cap,args:=args}):=by
  refine CRunS.step (fun g' h'=>g'=Gr (bD f) l [] [.code body] [kidF P]∧h'=h) hg ⟨rfl,fun w sw=>?_⟩ (fun g' h' ⟨e1,e2⟩=>by subst e1;subst e2;exact t)
  have hrd:=reads_callF (P:=P) (B:=B) (h:=h) hcall (args++cap)
  obtain ⟨h1,h2⟩:=hrd w sw
  have e:Frame.enter P f (args++cap) .deferred=Fr (bD f) l [] [.code body]:=by
    subst hl
    rw [ha];simp [Frame.enter,hf,hb,hn,Fr,bD,bF]
  refine ⟨_,w,seen P P.funcs.size ((callFunc f (args++cap)).events P w #[]),h,?_,{Stp.refl sw with evs:=fun e he=>h2 e (seen_sub _ _ _ e he)},rfl,rfl⟩
  unfold Gr
  rw [←e];simp [kid0,G,stepG,unwind,callDeferred,invoke,h1,GStep.after,kidF]
end
end Go.Lo
namespace Go.Proofs
open Go.Lo
open Go.Conc (G)
set_option maxRecDepth 100000
set_option synthInstance.maxHeartbeats 1000000
section
variable {P:Program} {B:Array Obj} {m:Md P B} {ops:Array Oper} {l l':List Value} {S h h' H:Hp} {C:List Value→Hp→Prop} {i:Nat} {kd:Kd} {r:List (Nat×Kd)}
  {d:Option Tmp} {ty:TypeId} {pos:String} {af:Array Edge} {g:Option (Nat×Bool)}
theorem k_eqlT {t u:TypeId} {x y:Operand} {a b:Int} {k:IntKind} (ho:ops[i]?=some ⟨d,.binOp .eql t x y u,ty,pos,af,g⟩) (hw:Wt ops l g) [kh:KHeap kd S h H] [ex:OpV l x (.int k a)] [ey:OpV l y (.int k b)] (e:a=b) [pt:PutV l d (.bool true) l'] (q:RegK m S ops r l' h C):RegK m S ops ((i,kd)::r) l h C:=by
  have pq:=pt;rw [←decide_eq_true e] at pq;exact k_eql (l':=l') ho hw q
theorem k_neqF {t u:TypeId} {x y:Operand} {a b:Int} {k:IntKind} (ho:ops[i]?=some ⟨d,.binOp .neq t x y u,ty,pos,af,g⟩) (hw:Wt ops l g) [kh:KHeap kd S h H] [ex:OpV l x (.int k a)] [ey:OpV l y (.int k b)] (e:a=b) [pt:PutV l d (.bool false) l'] (q:RegK m S ops r l' h C):RegK m S ops ((i,kd)::r) l h C:=by
  have pq:=pt;rw [←decide_eq_false (fun h:a≠b=>h e)] at pq;exact k_neq (l':=l') ho hw q
theorem k_remT {t u:TypeId} {x y:Operand} {a b:Int} (ho:ops[i]?=some ⟨d,.binOp .rem t x y u,ty,pos,af,g⟩) (hw:Wt ops l g) [KHeap kd S h H] [ex:OpV l x (.int .i64 a)] [ey:OpV l y (.int .i64 b)] (hb:b≠0) [PutV l d (.int .i64 (a.tmod b)) l'] (q:RegK m S ops r l' h C):RegK m S ops ((i,kd)::r) l h C:=
  RegK.rd (v:= .int .i64 (a.tmod b)) ho hw (reads_int ex.eq ey.eq (by simp) (by
    simp only [binOp,Op.intDiv,if_neg hb]
    rfl)) q
theorem k_neq2F {t u:TypeId} {x y:Operand} {a b a' b':Int} (ho:ops[i]?=some ⟨d,.binOp .neq t x y u,ty,pos,af,g⟩) (hw:Wt ops l g) [kh:KHeap kd S h H] [ex:OpV l x (.agg [.int .i64 a,.int .i64 b].toArray)] [ey:OpV l y (.agg [.int .i64 a',.int .i64 b'].toArray)] [KeyT P t]
    (hg:P.eqGuardType P.depth t=false) (e:a=a'∧b=b') [pf:PutV l d (.bool false) l'] (q:RegK m S ops r l' h C):RegK m S ops ((i,kd)::r) l h C:=by
  have he:=reads_eqK (P:=P) (B:=B) (h:=H) 9998 (t:=t) a b a' b'
  have e2:(a==a'&&b==b')=true:=by simp [e]
  rw [e2] at he
  haveI:PutV l d (.bool !true) l':=pf
  exact k_neqG ho hw hg he q
end
theorem isB_true {p:Prop} {v:Value} (h:IsB p v) (k:p):v= .bool true:=h.elim (fun x=>x.2) fun x=>absurd k x.1
instance hasRo {h:Hp} {b:Nat} {rw:Bool} {o:Obj} [s:Has h b rw o]:Has (ro h) b false o:=⟨List.mem_map.2 ⟨_,s.mem,rfl⟩⟩
instance subRo {a b:Hp} [s:SubH a b]:SubH (ro a) (ro b):=⟨s.sub.map _⟩
theorem getD_all {zs:List Int} {p:Int→Prop} (h: ∀z∈zs,p z) {k:Nat} (hk:k<zs.length):p (zs.getD k 0):=by
  rw [List.getD_eq_getElem?_getD,List.getElem?_eq_getElem hk];exact h _ (List.getElem_mem _)
end Go.Proofs
namespace Go.Lo
open Go.Conc
section
variable {P:Program} {B:Array Obj} {m:Md P B}
theorem top_enter {f:FuncId} {fn:Func} {body:Code} {args l:List Value} {n:Nat} {K:Goroutine→Hp→Prop} {h:Hp} (hf:P.funcs[f]?=some fn) (hb:fn.body=some body) (hn:fn.ntmps=n) (hl:args++List.replicate (n-args.length) undef=l)
    (t:m.R K (Gr (bF f) l [] [.code body] []) h):m.R K (G (Frame.enter P f args.toArray .normal) []) h:=by
  have e:Frame.enter P f args.toArray .normal=Fr (bF f) l [] [.code body]:=by
    subst hl
    simp [Frame.enter,hf,hb,hn,Fr,bF]
  rw [e];exact t
theorem run_top {b:Frame} {l:List Value} {todo:List Item} {K:Value→Hp→Prop} {fn:Func} {rs:List ResultVar} {vs:List Value} {v:Value} {h:Hp} (hk:b.kind= .normal) (hf:P.funcs[b.fn]?=some fn) (hi:P.inits.idxOf? b.fn=none) (hr:fn.results=rs.toArray) [ResL P h l rs vs] [ResV vs v] (k:K v h):
    m.R (AtEnd P B K) (Gret b l [] todo []) h:=by
  refine m.stop ⟨rfl,v,k,fun w sw=>?_⟩
  obtain ⟨h1,h2⟩:=reads_res (P:=P) (B:=B) (h:=h) (l:=l) (vs:=vs) (v:=v) hr w sw
  refine ⟨seen P b.fn ((results fn l.toArray).events P w #[]),?_,fun e he=>h2 e (seen_sub _ _ _ e he)⟩
  simp [Gret,Fr,G,stepG,unwind,doReturn,hf,h1,hk,hi,GStep.after]
end
section
variable {H:Type} {enc:TypeId×Value→H} {P:Program} {w:World} {base:Nat} {sp:Nat→Bool} {held:Bool}
theorem rd_of_cell {a:Addr} {v:Value} {h:Hp} (e:w.cell? a=some v):Rd w.heap h a v:=by
  unfold World.cell? at e
  split at e
  · rename_i c t f hb
    split at e
    · cases e
    · rename_i hs
      exact Rd.base (by simpa using hs) hb e
  · cases e
def intsB (P:Program) (kd:IntKind):Nat→TypeId→Nat→Bool
  |0,_,_=>false
  |dd+1,t,k=>P.cellsOf t==k&&(match P.underlying t with
    |some (.int kk)=>kk==kd&&k==1
    |some (.struct fs)=>(List.range k).all fun i=>(List.range fs.size).any fun j=>match fs[j]? with
      |some f=>decide (f.offset≤i)&&decide (i<f.offset+P.cellsOf f.type)&&intsB P kd dd f.type (P.cellsOf f.type)
      |none=>false
    |_=>false)
theorem intsB_size {kd:IntKind} {dd k:Nat} {t:TypeId} (h:intsB P kd dd t k=true):P.cellsOf t=k:=by
  cases dd with
  |zero=>simp [intsB] at h
  |succ dd=>
    unfold intsB at h
    rw [Bool.and_eq_true] at h
    exact eq_of_beq h.1
theorem trod_cells {kd:IntKind}: ∀(dd:Nat) {t:TypeId} {k fuel:Nat} {cs:List Value} {x:DataW H×List MemPlace},intsB P kd dd t k=true→DataW.trod enc P w base sp held fuel t cs=some x→cs.length=k∧ ∀i,i<k→ ∃n,cs[i]?=some (.int kd n)∧(Lit.int kd n).wf=true
  |0,_,_,_,_,_,hB,_=>by simp [intsB] at hB
  |dd+1,t,k,fuel,cs,x,hB,h=>by
    unfold intsB at hB
    rw [Bool.and_eq_true] at hB
    obtain ⟨hc,hB⟩:=hB
    split at hB
    · rename_i kk hu
      simp only [Bool.and_eq_true,beq_iff_eq] at hB
      obtain ⟨rfl,rfl⟩:=hB
      obtain ⟨n,rfl,_,hw⟩:=DataW.trod_int hu h
      exact ⟨rfl,fun i hi=>⟨n,by rw [show i=0 by omega];rfl,hw⟩⟩
    · rename_i fs hu
      obtain ⟨xs,m,_,_,hl,hxl,hx⟩:=DataW.trod_struct hu h
      rw [beq_iff_eq] at hc
      refine ⟨hl.trans hc,fun i hi=>?_⟩
      obtain ⟨j,hj,hf⟩:=List.any_eq_true.1 (List.all_eq_true.1 hB i (List.mem_range.2 hi))
      split at hf
      · rename_i f hfj
        simp only [Bool.and_eq_true,decide_eq_true_eq] at hf
        obtain ⟨⟨h1,h2⟩,h3⟩:=hf
        have e:=hx j f hfj
        rw [List.getElem?_eq_getElem (by rw [hxl];exact List.mem_range.1 hj)] at e
        obtain ⟨_,hall⟩:=trod_cells dd h3 e
        obtain ⟨n,hn,hw⟩:=hall (i-f.offset) (by omega)
        rw [List.getElem?_take,if_pos (by omega),List.getElem?_drop,show f.offset+(i-f.offset)=i by omega] at hn
        exact ⟨n,hn,hw⟩
      · cases hf
    · cases hB
end
end Go.Lo
namespace Go.Lo
open Go.Conc
section
variable {P:Program} {B:Array Obj} {W:World}
theorem run_lastS {K:Value→Hp→Prop} {Post:Value→World→Prop} {g:Goroutine} {h:Hp} (k:AtEnd P B K g h) (hp: ∀v w,K v h→Sat B h w→(Later W.os w.os∧w.output=W.output∧w.tape=W.tape)→Post v w):
    ∀(old:Nat→Prop) (la wa:Addr) (gs:Array Goroutine) (w:World) (sl:Option (Nat×Nat)) (t:Trace) (Hl:Nat→Hp) (Tf:Nat→TrU) (Dl:Nat→Nat),gs[0]?=some g→Hl 0=h→Cf0 P B W old la wa gs w t Hl Tf Dl→
      ∃(N:Nat) (last:Machine) (tl:Trace) (o:Outcome) (w':World) (t':Trace),runNT P N (crowd gs w sl) t=(.next last,tl)∧runNT P 1 last tl=(.ended o w',t')∧Conc.Good P Post last o w' t':=by
  refine none_loop (fun gs w sl t=> ∃(N:Nat) (last:Machine) (tl:Trace) (o:Outcome) (w':World) (t':Trace),runNT P N (crowd gs w sl) t=(.next last,tl)∧runNT P 1 last tl=(.ended o w',t')∧Conc.Good P Post last o w' t')
    (fun hs ⟨N,last,tl,o,w',t',e1,e2,e3⟩=>⟨N+1,last,tl,o,w',t',runNT_step hs e1,e2,e3⟩) k.1 (fun old la wa gs w w0 sl sl0 t Hl Tf Dl h0 hh c hst=>?_)
  obtain ⟨v,hk,he⟩:=k.2
  obtain ⟨es,hs,hev⟩:=he w (by rw [←hh];exact c.core.sat 0)
  have hlt:0<gs.size:=(Array.getElem?_eq_some_iff.1 h0).1
  obtain ⟨s1,s2,s3⟩:=c.core.shared
  have st:Stp B (Hl 0) (Hl 0) w w es:={Stp.refl (c.core.sat 0) with evs:=by rw [hh];exact hev}
  have hT:=c.core.tj.own (lim':=w.heap.size) (B:=B) rfl hlt (h':=Hl 0) rfl rfl st c.core.sat ⟨(c.core.sat 0).base,fun d hd=>by simp at hd,List.Pairwise.nil⟩ (fun j hj=>c.core.apart j 0 hj) (fun d hd=>by simp at hd) s1 (fun b hb=>s2 b hb 0) (fun x=>x rfl) g.frame.fn g.frame.place
  have hrun:stepT P (crowd gs w0 sl0)=(.ended (.done v) w,MemOp.ofEvents 0 g.frame.fn g.frame.place es):=hst.trans (runT_many_ended h0 hs)
  have hk': ∀(i:Nat) (x:MemOp),(t++MemOp.ofEvents 0 g.frame.fn g.frame.place es)[i]?=some x→x.g≠0→(t++MemOp.ofEvents 0 g.frame.fn g.frame.place es).counts i→Knows (t++MemOp.ofEvents 0 g.frame.fn g.frame.place es) 0 i:=fun i x hx hx0 hct=>by
    rcases getElem?_append_cases hx with ⟨_,hy'⟩|⟨_,hyu⟩
    · exact (c.hk i x hy' hx0 ((counts_old (Array.getElem?_eq_some_iff.1 hy').1).1 hct)).app _
    · obtain ⟨e',_,rfl⟩:=mem_evs hyu
      exact absurd rfl hx0
  refine ⟨0,crowd gs w0 sl0,t,.done v,w,t++MemOp.ofEvents 0 g.frame.fn g.frame.place es,rfl,by simp only [runNT,hrun],v,rfl,hp v _ hk (by rw [←hh];exact c.core.sat 0) c.core.far,hT.clean,TJ.handed hk',⟨fun y hy=>?_,rfl⟩,fun i y hy hi0=>?_⟩
  · have hy':y∈gs.toList.drop 1:=hy
    obtain ⟨j,hj⟩:=List.getElem?_of_mem hy'
    rw [List.getElem?_drop] at hj
    obtain ⟨k,_,q,_⟩:=c.kids (1+j) y (by omega) (by simpa using hj)
    exact ⟨k,q.leaves⟩
  · obtain ⟨k,_,q,_⟩:=c.kids i y hi0 hy
    refine ⟨k,?_⟩
    have:Deaf (t++MemOp.ofEvents 0 g.frame.fn g.frame.place es) i=Dl i:=by
      rw [Deaf_other t (fun x=>hi0 x.symm) _ fun op hop=>by obtain ⟨e',_,rfl⟩:=mem_evs hop;rfl];exact c.deaf i
    show Goroutine.endsWith P _ k y (Deaf (t++MemOp.ofEvents 0 g.frame.fn g.frame.place es) i)=some 0
    rw [this];exact q.hears _
theorem good_starS {K:Value→Hp→Prop} {Post:Value→World→Prop} {g:Goroutine} (r:(Md.starS P W.heap).R (AtEnd P W.heap K) g []) (hp: ∀v h w,K v h→Sat W.heap h w→(Later W.os w.os∧w.output=W.output∧w.tape=W.tape)→Post v w):
    ∃M last o w' t',runNT P (M+1) (solo g W) #[]=(.ended o w',t')∧runN P M (solo g W)= .next last∧step P last= .ended o w'∧Conc.Good P Post last o w' t':=by
  have hK: ∀g h,AtEnd P W.heap K g h→g.status= .running:=fun g h k=>k.1
  have r0:MRunS P W.heap (AtEnd P W.heap K) none g []:=r
  have hone: ∀(i:Nat) x,(#[g]:Array Goroutine)[i]?=some x→i=0∧x=g:=fun i x hx=>by
    have:i<1:=(Array.getElem?_eq_some_iff.1 hx).1
    obtain rfl:i=0:=by omega
    simp at hx
    exact ⟨rfl,hx.symm⟩
  have satN:Sat W.heap [] W:=⟨fun i o h=>h,by simp,List.Pairwise.nil⟩
  have c0:Cf0 P W.heap W (fun _=>False) ⟨0,0,none⟩ ⟨0,0,none⟩ #[g] W #[] (fun _=>[]) (fun _=> .leaf) (fun _=>0):=by
    refine ⟨⟨fun i=>satN,satN,fun i j _ c hc=>by simp at hc,fun i c hc=>by simp at hc,fun c hc=>by simp at hc,fun b hb=>hb.elim,?_,⟨.refl _,rfl,rfl⟩,fun i hi=>rfl,fun i x hx=>?_⟩,fun i=>deaf_none fun op hop=>by simp at hop,rfl,fun i x hi hx=>absurd (hone i x hx).1 hi,fun i x hx=>by simp at hx⟩
    · have:(fun b=>False∨ ∃c∈([]:Hp),c.b=b)=(fun _=>False):=by funext b;simp
      rw [this];exact TJ.zero
    · rw [(hone i x hx).2];exact .runs (r0.running hK)
  obtain ⟨N,g',gs',w',sl',t',Hl',Tf',Dl',old',la',wa',h1,h2,h3,h4⟩:=run_starS hK r0 _ _ _ #[g] W none #[] (fun _=>[]) (fun _=> .leaf) (fun _=>0) (by simp) rfl c0
  obtain ⟨N2,last,tl,o,w'',t'',e1,e2,e3⟩:=run_lastS (Post:=Post) (W:=W) h3 (fun v w hk hs hf=>hp v _ w hk hs hf) old' la' wa' gs' w' sl' t' Hl' Tf' Dl' h2 rfl h4
  have hrun:runNT P (N+N2) (solo g W) #[]=(.next last,tl):=by
    rw [solo_eq_crowd];exact runNT_trans' h1 e1
  refine ⟨N+N2,last,o,w'',t'',runNT_trans' hrun e2,?_,?_,e3⟩
  · rw [←runNT_fst P _ _ #[],hrun]
  · have:(runNT P 1 last tl).1= .ended o w'':=by rw [e2]
    unfold step
    simp only [runNT] at e2
    cases hs:stepT P last with
    |mk s u=>
      rw [hs] at e2
      cases s with
      |next m1=>simp at e2
      |ended o1 w1=>simp only [Prod.mk.injEq,Stepped.ended.injEq] at e2;obtain ⟨⟨rfl,rfl⟩,_⟩:=e2;rfl
end
end Go.Lo
namespace Go.Lo
open Go.Conc
section
variable {P:Program}
theorem law_goodS {W:World} {f:FuncId} {args:Array Value} (r:(Md.starS P W.heap).R (AtEnd P W.heap fun v _=>v= .bool true) (G (Frame.enter P f args .normal) []) []):
    ∃M last o w' t',runNT P (M+1) (solo (G (Frame.enter P f args .normal) []) W) #[]=(.ended o w',t')∧runN P M (solo (G (Frame.enter P f args .normal) []) W)= .next last∧step P last= .ended o w'∧Conc.Good P (fun v w'=>v= .bool true∧ConcM.OsLater W.os w'.os∧RowKit.Below W.heap.size W {w' with os:=W.os}) last o w' t':=
  good_starS r fun v h w hk s ho=>⟨hk,ho.1,rfl,ho.2.2,ho.2.1,s.size,fun k hk=>by
    show w.heap[k]?=_
    rw [Array.getElem?_eq_getElem hk];exact s.base _ _ (Array.getElem?_eq_getElem hk)⟩
end
theorem calm_nought {P:Program} (m:Machine) (h:m.world.tape=fun _ _=>0):({calm:=true}:Assume).holds P m:=by
  simp only [Assume.holds,h]
  exact ⟨by simp,fun _ _ _ _=>rfl,by simp,by simp,by simp⟩
theorem witness_calm {H:Type} {enc:TypeId×Value→H} {f:FuncId} {fn:Func} {C:Checked} {os:Os} {s:ChangeSpec} {conds:List PathCond} {apart:Bool} {X:World→Array Value→Prop} (w0:World) (args:Array Value) (fuel:Nat) (hos:w0.os=os)
    (hsh:(w0.forCall (fun _ _=>0) ⟨#[],args,[]⟩).Shaped C.prog)
    (hok:Input.okWideB C.prog (w0.forCall (fun _ _=>0) ⟨#[],args,[]⟩) f ⟨#[],args,[]⟩=true)
    (hpre:s.preB enc C.prog fn conds apart (w0.forCall (fun _ _=>0) ⟨#[],args,[]⟩).memory args fuel=true)
    (hsz:s.sizedB enc C.prog fn apart (w0.forCall (fun _ _=>0) ⟨#[],args,[]⟩).memory args fuel=true)
    (hx:X (w0.forCall (fun _ _=>0) ⟨#[],args,[]⟩).memory args):
    ∃(w:World) (tape:Tape) (i:Input),w.os=os∧(w.forCall tape i).Shaped C.prog∧i.vars=[]∧Input.okWide C.prog (w.forCall tape i) .any w.heap.size f i∧
      ((s.pre enc C.prog fn conds apart (w.forCall tape i).memory i.args∧X (w.forCall tape i).memory i.args)∧sizedMet enc C.prog fn (OpenSpec.ofChange s) apart (w.forCall tape i).memory i.args)∧({calm:=true}:Assume).holds C.prog (lone (Frame.enter C.prog f i.args .normal) [] (w.forCall tape i)):=
  ⟨w0,fun _ _=>0,⟨#[],args,[]⟩,hos,hsh,(Input.okWide_of_okWideB (base:=0) hok).1,(Input.okWide_of_okWideB hok).2,⟨⟨ChangeSpec.pre_of_preB hpre,hx⟩,sizedMet_of_sizedB hsz⟩,calm_nought _ rfl⟩
theorem returnsInLeavingWide_of_change_time_and {H:Type} {enc:TypeId×Value→H} {a:Assume} {C:Checked} {os:Os} {f:FuncId} {fn:Func} {s:ChangeSpec} {F:Stop.Interp} {conds:List PathCond} {apart fresh handsOn:Bool} {X:World→Array Value→Prop}
    (hX: ∀(w w':World) (args:Array Value),w.heap=w'.heap→X w args→X w' args)
    (own:ownKnob C.prog.godebug=none) (started:os.Started) (hfn:C.prog.funcs[f]?=some fn)
    (witness: ∃(w:World) (tape:Tape) (i:Input),w.os=os∧(w.forCall tape i).Shaped C.prog∧i.vars=[]∧Input.okWide C.prog (w.forCall tape i) .any w.heap.size f i∧
      ((s.pre enc C.prog fn conds apart (w.forCall tape i).memory i.args∧X (w.forCall tape i).memory i.args)∧sizedMet enc C.prog fn (OpenSpec.ofChange s) apart (w.forCall tape i).memory i.args)∧a.holds C.prog (lone (Frame.enter C.prog f i.args .normal) [] (w.forCall tape i)))
    (runs: ∀(W:World) (base:Nat) (args:Array Value) (ds gs:List (DataW H)) (before:List MemPlace),
      (∀(j:Nat) t v,fn.params[j]?=some t→args[j]?=some v→Value.okWide C.prog W .any base t v)→
      DataW.Whole enc C.prog fn.params.toList s.vars apart W args.toList ds gs before→X W args→
      ∃M last o w' t',runNT C.prog (M+1) (solo (G (Frame.enter C.prog f args .normal) []) W) #[]=(.ended o w',t')∧runN C.prog M (solo (G (Frame.enter C.prog f args .normal) []) W)= .next last∧
        step C.prog last= .ended o w'∧Conc.Good C.prog (fun v W'=>s.post enc C.prog fn apart fresh handsOn false W args v {W' with os:=W.os}∧ConcM.OsLater W.os W'.os) last o w' t'):
    ReturnsInLeavingWide a C os f .any (fun w args=>(s.pre enc C.prog fn conds apart w args∧X w args)∧sizedMet enc C.prog fn (OpenSpec.ofChange s) apart w args) ((OpenSpec.ofChange s).postWith enc C.prog fn F (outsideKept [.timePasses]) apart fresh handsOn):=by
  refine returnsInLeavingWide_of_good own started witness ?_
  intro w tape i _ _ _ hok hpre _
  obtain ⟨_,_,_,fn',hfn',_,_,_,_,hval⟩:=hok
  have e:fn'=fn:=Option.some.inj (hfn'.symm.trans hfn)
  subst e
  obtain ⟨⟨⟨ds,gs,before,hw,_⟩,hx⟩,_⟩:=hpre
  have hw':=DataW.Whole.of_heap (w':=w.forCall tape i) (by rfl) hw
  obtain ⟨M,last,o,w',t',h1,h2,h3,h4⟩:=runs (w.forCall tape i) w.heap.size i.args ds gs before hval hw' (hX _ _ _ (by rfl) hx)
  obtain ⟨v,e,hp,r1,r2,r3,r4⟩:=h4
  exact ⟨M,last,o,w',t',h1,h2,h3,v,e,postWith_blind (postWith_of_post hp.1 hp.2),r1,r2,r3,r4⟩
section
variable {H:Type} {enc:TypeId×Value→H} {P:Program} {w:World} {base:Nat} {sp:Nat→Bool} {held:Bool}
def OkCell:Option IntKind→Value→Prop
  |some kd,v=> ∃n,v= .int kd n∧(Lit.int kd n).wf=true
  |none,v=> ∃b,v= .bool b
def leafB (P:Program):Nat→TypeId→List (Option IntKind)→Bool
  |0,_,_=>false
  |dd+1,t,ks=>P.cellsOf t==ks.length&&(match P.underlying t with
    |some (.int kk)=>ks==[some kk]
    |some .bool=>ks==[none]
    |some (.struct fs)=>(List.range ks.length).all fun i=>(List.range fs.size).any fun j=>match fs[j]? with
      |some f=>decide (f.offset≤i)&&decide (i<f.offset+P.cellsOf f.type)&&leafB P dd f.type ((ks.drop f.offset).take (P.cellsOf f.type))
      |none=>false
    |_=>false)
theorem leafB_size {dd:Nat} {t:TypeId} {ks:List (Option IntKind)} (h:leafB P dd t ks=true):P.cellsOf t=ks.length:=by
  cases dd with
  |zero=>simp [leafB] at h
  |succ dd=>
    unfold leafB at h
    rw [Bool.and_eq_true] at h
    exact eq_of_beq h.1
theorem trod_leaf: ∀(dd:Nat) {t:TypeId} {ks:List (Option IntKind)} {fuel:Nat} {cs:List Value} {x:DataW H×List MemPlace},leafB P dd t ks=true→DataW.trod enc P w base sp held fuel t cs=some x→cs.length=ks.length∧ ∀(i:Nat) (k:Option IntKind),ks[i]?=some k→ ∃v,cs[i]?=some v∧OkCell k v
  |0,_,_,_,_,_,hB,_=>by simp [leafB] at hB
  |dd+1,t,ks,fuel,cs,x,hB,h=>by
    unfold leafB at hB
    rw [Bool.and_eq_true] at hB
    obtain ⟨hc,hB⟩:=hB
    split at hB
    · rename_i kk hu
      obtain rfl:=eq_of_beq hB
      obtain ⟨n,rfl,_,hw⟩:=DataW.trod_int hu h
      refine ⟨rfl,fun i k hi=>?_⟩
      have hlt:i<1:=(List.getElem?_eq_some_iff.1 hi).1
      obtain rfl:i=0:=by omega
      obtain rfl:=Option.some.inj hi
      exact ⟨_,rfl,n,rfl,hw⟩
    · rename_i hu
      obtain rfl:=eq_of_beq hB
      obtain ⟨b,rfl,_⟩:=DataW.trod_bool hu h
      refine ⟨rfl,fun i k hi=>?_⟩
      have hlt:i<1:=(List.getElem?_eq_some_iff.1 hi).1
      obtain rfl:i=0:=by omega
      obtain rfl:=Option.some.inj hi
      exact ⟨_,rfl,b,rfl⟩
    · rename_i fs hu
      obtain ⟨xs,m,_,_,hl,hxl,hx⟩:=DataW.trod_struct hu h
      rw [beq_iff_eq] at hc
      refine ⟨hl.trans hc,fun i k hi=>?_⟩
      have hlt:i<ks.length:=(List.getElem?_eq_some_iff.1 hi).1
      obtain ⟨j,hj,hf⟩:=List.any_eq_true.1 (List.all_eq_true.1 hB i (List.mem_range.2 hlt))
      split at hf
      · rename_i f hfj
        simp only [Bool.and_eq_true,decide_eq_true_eq] at hf
        obtain ⟨⟨h1,h2⟩,h3⟩:=hf
        have e:=hx j f hfj
        rw [List.getElem?_eq_getElem (by rw [hxl];exact List.mem_range.1 hj)] at e
        obtain ⟨_,hall⟩:=trod_leaf dd h3 e
        obtain ⟨v,hv,ho⟩:=hall (i-f.offset) k (by
          rw [List.getElem?_take,if_pos (by omega),List.getElem?_drop,show f.offset+(i-f.offset)=i by omega];exact hi)
        rw [List.getElem?_take,if_pos (by omega),List.getElem?_drop,show f.offset+(i-f.offset)=i by omega] at hv
        exact ⟨v,hv,ho⟩
      · cases hf
    · cases hB
theorem slice_leaf {t e:TypeId} {ks:List (Option IntKind)} {fuel:Nat} {cs:List Value} {x:DataW H×List MemPlace} (hu:P.underlying t=some (.slice e)) (hB:leafB P 4 e ks=true) (h:DataW.trod enc P w base sp held fuel t cs=some x) (hs: ∀a n c,cs=[.slice (some a) n c]→a.spot=none):
    ∃(p:Option Addr) (n c:Nat) (V:Nat→Value),cs=[.slice p n c]∧n≤c∧RdS w.heap [] ks.length (.slice p n c) n ((List.range (n*ks.length)).map V)∧ ∀q,q<n*ks.length→ ∀k,ks[q%ks.length]?=some k→OkCell k (V q):=by
  rcases Deep.open_slice hu h with ⟨rfl,_⟩|⟨a,len,cap,m,n,D,Pl,rfl,hb,hl,hm,hmm,_,hx⟩
  · exact ⟨none,0,0,fun _=>undef,rfl,Nat.le_refl _,⟨none,0,rfl,by simp,.inl ⟨rfl,rfl⟩⟩,fun q hq=>by omega⟩
  · have hlm:len≤m:=by rw [hmm];split<;>omega
    have hc:P.cellsOf e=ks.length:=leafB_size hB
    obtain ⟨ab,ao,sx⟩:=a
    obtain rfl:sx=none:=hs _ _ _ rfl
    obtain ⟨V,hV⟩:=Deep.choose_lt (α:=Value) (n:=len*ks.length) (p:=fun q v=>w.cell? ⟨ab,ao+q,none⟩=some v∧ ∀k,ks[q%ks.length]?=some k→OkCell k v) (fun q hq=>by
      have hk:0<ks.length:=by rcases Nat.eq_zero_or_pos ks.length with e0|e0;rw [e0] at hq;simp at hq;exact e0
      have hi:q/ks.length<len:=Nat.div_lt_of_lt_mul (by rw [Nat.mul_comm];exact hq)
      obtain ⟨cs',h1,h2⟩:=hx (q/ks.length) (by omega)
      obtain ⟨_,hlen,hcell⟩:=World.cells?_some h1
      obtain ⟨_,hall⟩:=trod_leaf 4 hB h2
      have hqm:q%ks.length<ks.length:=Nat.mod_lt _ hk
      obtain ⟨v,hz,hw⟩:=hall (q%ks.length) _ (List.getElem?_eq_getElem hqm)
      refine ⟨v,?_,fun k hk'=>?_⟩
      · have:=hcell (q%ks.length) (by rw [hc];exact hqm)
        rw [hz,Addr.add_none,Addr.add_none,hc] at this
        rw [←this];have e:=Nat.div_add_mod q ks.length
        have e2:q/ks.length*ks.length=ks.length*(q/ks.length):=Nat.mul_comm _ _
        congr 2;omega
      · rw [List.getElem?_eq_getElem hqm] at hk'
        obtain rfl:=Option.some.inj hk'
        exact hw)
    refine ⟨some ⟨ab,ao,none⟩,len,cap,V,rfl,hl,⟨_,cap,rfl,by simp,.inr ⟨ab,ao,rfl,fun j hj=>?_⟩⟩,fun q hq=>(hV q hq).2⟩
    have hj':j<len*ks.length:=by simpa using hj
    have:((List.range (len*ks.length)).map V).getD j undef=V j:=by
      rw [List.getD_eq_getElem?_getD,List.getElem?_map,List.getElem?_range hj'];rfl
    rw [this];exact rd_of_cell (hV j hj').1
end
theorem encs_rows {α:Type} {k:Nat} [Enc α k] {V:Nat→Value} {mk:Nat→α}: ∀n,(∀j,j<n→Enc.enc (mk j)=(List.range k).map fun i=>V (j*k+i))→encs ((List.range n).map mk)=(List.range (n*k)).map V
  |0,_=>by simp [encs]
  |n+1,h=>by
    rw [List.range_succ,List.map_append,encs_append,encs_rows n fun j hj=>h j (by omega),Nat.succ_mul,List.range_add,List.map_append];congr 1
    rw [List.map_map];show encs [mk n]=_
    rw [encs,encs,List.append_nil,h n (by omega)];rfl
end Go.Lo
namespace Go.Lo
set_option maxRecDepth 100000
section
variable {H:Type} {enc:TypeId×Value→H} {P:Program} {w:World} {base:Nat} {sp:Nat→Bool} {held:Bool}
theorem slice_open {kd:IntKind} {t e:TypeId} {k fuel:Nat} {cs:List Value} {x:DataW H×List MemPlace} (hu:P.underlying t=some (.slice e)) (hB:intsB P kd 3 e k=true) (h:DataW.trod enc P w base sp held fuel t cs=some x) (hs: ∀a n c,cs=[.slice (some a) n c]→a.spot=none):
    ∃(p:Option Addr) (n c:Nat) (zs:List Int),cs=[.slice p n c]∧n≤c∧zs.length=n*k∧RdS w.heap [] k (.slice p n c) n (zs.map (Value.int kd))∧ ∀z∈zs,(Lit.int kd z).wf=true:=by
  rcases Deep.open_slice hu h with ⟨rfl,_⟩|⟨a,len,cap,m,n,D,Pl,rfl,hb,hl,hm,hmm,_,hx⟩
  · exact ⟨none,0,0,[],rfl,Nat.le_refl _,by simp,⟨none,0,rfl,by simp,.inl ⟨rfl,rfl⟩⟩,fun z hz=>by simp at hz⟩
  · have hlm:len≤m:=by rw [hmm];split<;>omega
    have hc:P.cellsOf e=k:=intsB_size hB
    obtain ⟨ab,ao,sx⟩:=a
    obtain rfl:sx=none:=hs _ _ _ rfl
    obtain ⟨V,hV⟩:=Deep.choose_lt (α:=Int) (n:=len*k) (p:=fun q z=>w.cell? ⟨ab,ao+q,none⟩=some (.int kd z)∧(Lit.int kd z).wf=true) (fun q hq=>by
      have hk:0<k:=by rcases Nat.eq_zero_or_pos k with e0|e0;subst e0;simp at hq;exact e0
      have hi:q/k<len:=Nat.div_lt_of_lt_mul (by rw [Nat.mul_comm];exact hq)
      obtain ⟨cs',h1,h2⟩:=hx (q/k) (by omega)
      obtain ⟨_,hlen,hcell⟩:=World.cells?_some h1
      obtain ⟨_,hall⟩:=trod_cells 3 hB h2
      obtain ⟨z,hz,hw⟩:=hall (q%k) (Nat.mod_lt _ hk)
      refine ⟨z,?_,hw⟩
      have:=hcell (q%k) (by rw [hc];exact Nat.mod_lt _ hk)
      rw [hz,Addr.add_none,Addr.add_none,hc] at this
      rw [←this];have e:=Nat.div_add_mod q k
      have e2:q/k*k=k*(q/k):=Nat.mul_comm _ _
      congr 2;omega)
    refine ⟨some ⟨ab,ao,none⟩,len,cap,(List.range (len*k)).map V,rfl,hl,by simp,⟨_,cap,rfl,by simp,.inr ⟨ab,ao,rfl,fun j hj=>?_⟩⟩,fun z hz=>?_⟩
    · have hj':j<len*k:=by simpa using hj
      have:(((List.range (len*k)).map V).map (Value.int kd)).getD j undef= .int kd (V j):=by
        rw [List.getD_eq_getElem?_getD,List.getElem?_map,List.getElem?_map,List.getElem?_range hj'];rfl
      rw [this];exact rd_of_cell (hV j hj').1
    · obtain ⟨q,hq,rfl⟩:=List.mem_map.1 hz
      exact (hV q (List.mem_range.1 hq)).2
theorem spot_of {r:Reach} {b0:Nat} {t e:TypeId} {v:Value} (hu:P.underlying t=some (.slice e)) (h:Cell.okWide P w r b0 t v): ∀a n c,[v]=[.slice (some a) n c]→a.spot=none:=fun a n c e1=>by
  obtain rfl:=List.head_eq_of_cons_eq e1
  unfold Cell.okWide at h
  rw [hu] at h
  simp only [Cell.ok,hu] at h
  exact h.2.2.2.1
end
end Go.Lo
namespace Go.Proofs
open Go.Lo
set_option maxRecDepth 100000
section
variable {H:Type} {enc:TypeId×Value→H} {w:World} {sp:Nat→Bool} {held:Bool}
theorem int_arg {r:Reach} {b0:Nat} {t:TypeId} {kd:IntKind} {v:Value} {d:DataW H} {ps:List MemPlace} (ht: Tryz.prog.underlying t=some (.int kd)) (hv:Value.okWide Tryz.prog w r b0 t v) (h:DataW.Trod enc Tryz.prog w 0 sp held t v d ps):
    ∃n,v= .int kd n∧(Lit.int kd n).wf=true:=by
  obtain ⟨n,e,_,_,hw⟩:=ChangeShapes.open_int ht hv h
  exact ⟨n,e,hw⟩
theorem nat_arg {n M:Int} {kd:IntKind} {v:Value} (e:v= .int kd n∧(Lit.int kd n).wf=true) (h:(Lit.int kd n).wf=true→0≤n∧n≤M): ∃z:Nat,v= .int kd (z:Int)∧(z:Int)≤M:=by
  obtain ⟨h0,h1⟩:=h e.2
  exact ⟨n.toNat,by rw [e.1,Int.toNat_of_nonneg h0],by rw [Int.toNat_of_nonneg h0];exact h1⟩
theorem u16_arg {r:Reach} {b0:Nat} {v:Value} {d:DataW H} {ps:List MemPlace} (hv:Value.okWide Tryz.prog w r b0 60 v) (h:DataW.Trod enc Tryz.prog w 0 sp held 60 v d ps): ∃z:Nat,v= .int .u16 (z:Int)∧z≤65535:=by
  obtain ⟨n,e⟩:=int_arg (kd:= .u16) (by kernel_rfl) hv h
  obtain ⟨z,e,hz⟩:=nat_arg (M:=65535) e (fun hw=>by simp [Lit.wf,IntKind.min,IntKind.max,IntKind.signed,IntKind.bits] at hw;omega)
  exact ⟨z,e,by omega⟩
theorem u8_arg {r:Reach} {b0:Nat} {v:Value} {d:DataW H} {ps:List MemPlace} (hv:Value.okWide Tryz.prog w r b0 5 v) (h:DataW.Trod enc Tryz.prog w 0 sp held 5 v d ps): ∃z:Nat,v= .int .u8 (z:Int)∧z≤255:=by
  obtain ⟨n,e⟩:=int_arg (kd:= .u8) (by kernel_rfl) hv h
  obtain ⟨z,e,hz⟩:=nat_arg (M:=255) e (fun hw=>by simp [Lit.wf,IntKind.min,IntKind.max,IntKind.signed,IntKind.bits] at hw;omega)
  exact ⟨z,e,by omega⟩
theorem ints_arg {r:Reach} {b0:Nat} {v:Value} {d:DataW H} {ps:List MemPlace} (hv:Value.okWide Tryz.prog w r b0 34 v) (h:DataW.Trod enc Tryz.prog w 0 sp held 34 v d ps):
    ∃p n c xs,v= .slice p n c∧RdS w.heap [] 1 (.slice p n c) n (ints xs)∧ ∀x∈xs,(Lit.int .i64 x).wf=true:=by
  have hu: Tryz.prog.underlying 34=some (.slice 3):=by kernel_rfl
  have hv':Cell.okWide Tryz.prog w r b0 34 v:=by
    unfold Value.okWide at hv
    rw [hu] at hv
    exact hv
  obtain ⟨fuel,h⟩:=h
  have hsl:v.cells.toList=[v]:=by
    unfold Cell.okWide at hv'
    rw [hu] at hv'
    cases v<;>first|rfl|(simp [Cell.ok,hu] at hv')
  rw [hsl] at h
  obtain ⟨p,n,c,zs,e,_,_,rd,hw⟩:=slice_open hu (by kernel_rfl) h (spot_of hu hv')
  exact ⟨p,n,c,zs,List.head_eq_of_cons_eq e,rd,hw⟩
theorem nums_arg {r:Reach} {b0:Nat} {t e:TypeId} {kd:IntKind} {v:Value} {d:DataW H} {ps:List MemPlace} (hu: Tryz.prog.underlying t=some (.slice e)) (hB:intsB Tryz.prog kd 3 e 1=true) (hv:Value.okWide Tryz.prog w r b0 t v) (h:DataW.Trod enc Tryz.prog w 0 sp held t v d ps):
    ∃(p:Option Addr) (n c:Nat) (xs:List Int),v= .slice p n c∧RdS w.heap [] 1 (.slice p n c) n (xs.map (Value.int kd))∧ ∀x∈xs,(Lit.int kd x).wf=true:=by
  have hv':Cell.okWide Tryz.prog w r b0 t v:=by
    unfold Value.okWide at hv
    rw [hu] at hv
    exact hv
  obtain ⟨fuel,h⟩:=h
  have hsl:v.cells.toList=[v]:=by
    unfold Cell.okWide at hv'
    rw [hu] at hv'
    cases v<;>first|rfl|(simp [Cell.ok,hu] at hv')
  rw [hsl] at h
  obtain ⟨p,n,c,zs,e,_,_,rd,hw⟩:=slice_open hu hB h (spot_of hu hv')
  exact ⟨p,n,c,zs,List.head_eq_of_cons_eq e,rd,hw⟩
theorem picks_arg {r:Reach} {b0:Nat} {v:Value} {d:DataW H} {ps:List MemPlace} (hv:Value.okWide Tryz.prog w r b0 27 v) (h:DataW.Trod enc Tryz.prog w 0 sp held 27 v d ps):
    ∃(p:Option Addr) (n c:Nat) (xs:List Int),v= .slice p n c∧RdS w.heap [] 1 (.slice p n c) n (xs.map (Value.int .u16))∧ ∀x∈xs,0≤x∧x≤65535:=by
  obtain ⟨p,n,c,xs,e,rd,hw⟩:=nums_arg (e:=60) (kd:= .u16) (by kernel_rfl) (by kernel_rfl) hv h
  exact ⟨p,n,c,xs,e,rd,fun x hx=>by have:=hw x hx;simp [Lit.wf,IntKind.min,IntKind.max,IntKind.signed,IntKind.bits] at this;omega⟩
theorem trodAll_cons {P:Program} {base:Nat} {t:TypeId} {ts:List TypeId} {vs:List Value} {ds:List (DataW H)} {ps:List MemPlace} (h:DataW.TrodAll enc P w base sp held (t::ts) vs ds ps):
    ∃v vr d dr p q,vs=v::vr∧ds=d::dr∧ps=p++q∧DataW.Trod enc P w base sp held t v d p∧DataW.TrodAll enc P w base sp held ts vr dr q:=by
  cases vs with
  |nil=>cases ds<;>exact absurd h id
  |cons v vr=>
    cases ds with
    |nil=>exact absurd h id
    |cons d dr=>
      obtain ⟨p,q,h1,h2,e⟩:=h
      exact ⟨v,vr,d,dr,p,q,rfl,rfl,e,h1,h2⟩
theorem trodAll_end {P:Program} {base:Nat} {vs:List Value} {ds:List (DataW H)} {ps:List MemPlace} (h:DataW.TrodAll enc P w base sp held [] vs ds ps):vs=[]∧ds=[]∧ps=[]:=by
  cases vs with
  |nil=>
    cases ds with
    |nil=>exact ⟨rfl,rfl,h⟩
    |cons d dr=>exact absurd h id
  |cons v vr=>cases ds<;>exact absurd h id
theorem trodAll_more {P:Program} {base:Nat} {t:TypeId} {ts:List TypeId} {v:Value} {vs:List Value} {d:DataW H} {ds:List (DataW H)} {p q:List MemPlace} (h:DataW.Trod enc P w base sp held t v d p) (k:DataW.TrodAll enc P w base sp held ts vs ds q):DataW.TrodAll enc P w base sp held (t::ts) (v::vs) (d::ds) (p++q):=⟨p,q,h,k,rfl⟩
def toI:Value→Int| .int _ n=>n|_=>0
def toB:Value→Bool| .bool b=>b|_=>false
theorem ok_i64 {v:Value} (h:OkCell (some .i64) v):v= .int .i64 (toI v):=by obtain ⟨n,rfl,_⟩:=h;rfl
theorem ok_bool {v:Value} (h:OkCell none v):v= .bool (toB v):=by obtain ⟨b,rfl⟩:=h;rfl
theorem rows_at {ks:List (Option IntKind)} {n:Nat} {V:Nat→Value} (h: ∀q,q<n*ks.length→ ∀k,ks[q%ks.length]?=some k→OkCell k (V q)) {j i:Nat} (hj:j<n) (hi:i<ks.length):OkCell ks[i] (V (j*ks.length+i)):=by
  have hm:(j*ks.length+i)%ks.length=i:=by rw [Nat.mul_comm,Nat.mul_add_mod,Nat.mod_eq_of_lt hi]
  refine h _ ?_ _ (by rw [hm];exact List.getElem?_eq_getElem hi)
  have:=Nat.mul_le_mul_right ks.length (show j+1≤n by omega)
  rw [Nat.succ_mul] at this;omega
theorem pts_of {n:Nat} {V:Nat→Value} (h: ∀q,q<n*3→ ∀k,[some IntKind.i64,some .i64,some .i64][q%3]?=some k→OkCell k (V q)):encs ((List.range n).map fun j=>(⟨toI (V (j*3)),toI (V (j*3+1)),toI (V (j*3+2))⟩:Pt))=(List.range (n*3)).map V:=
  encs_rows n fun j hj=>by
    have r: ∀i,(hi:i<3)→V (j*3+i)= .int .i64 (toI (V (j*3+i))):=fun i hi=>ok_i64 (by
      have:=rows_at (ks:=[some IntKind.i64,some .i64,some .i64]) h hj hi
      match i,hi with
      |0,_=>exact this
      |1,_=>exact this
      |2,_=>exact this)
    show [Value.int .i64 _,.int .i64 _,.int .i64 _]=[V (j*3+0),V (j*3+1),V (j*3+2)]
    rw [r 0 (by omega),r 1 (by omega),r 2 (by omega)];rfl
theorem tps_of {n:Nat} {V:Nat→Value} (h: ∀q,q<n*4→ ∀k,[some IntKind.i64,some .i64,some .i64,some .i64][q%4]?=some k→OkCell k (V q)):encs ((List.range n).map fun j=>(⟨toI (V (j*4)),toI (V (j*4+1)),toI (V (j*4+2)),toI (V (j*4+3))⟩:Tp))=(List.range (n*4)).map V:=
  encs_rows n fun j hj=>by
    have r: ∀i,(hi:i<4)→V (j*4+i)= .int .i64 (toI (V (j*4+i))):=fun i hi=>ok_i64 (by
      have:=rows_at (ks:=[some IntKind.i64,some .i64,some .i64,some .i64]) h hj hi
      match i,hi with
      |0,_=>exact this
      |1,_=>exact this
      |2,_=>exact this
      |3,_=>exact this)
    show [Value.int .i64 _,.int .i64 _,.int .i64 _,.int .i64 _]=[V (j*4+0),V (j*4+1),V (j*4+2),V (j*4+3)]
    rw [r 0 (by omega),r 1 (by omega),r 2 (by omega),r 3 (by omega)];rfl
theorem sks_of {n:Nat} {V:Nat→Value} (h: ∀q,q<n*3→ ∀k,[some IntKind.i64,some .i64,none][q%3]?=some k→OkCell k (V q)):encs ((List.range n).map fun j=>(⟨toI (V (j*3)),toI (V (j*3+1)),toB (V (j*3+2))⟩:Sk))=(List.range (n*3)).map V:=
  encs_rows n fun j hj=>by
    have r0:V (j*3+0)= .int .i64 (toI (V (j*3+0))):=ok_i64 (rows_at (ks:=[some IntKind.i64,some .i64,none]) h hj (show 0<3 by omega))
    have r1:V (j*3+1)= .int .i64 (toI (V (j*3+1))):=ok_i64 (rows_at (ks:=[some IntKind.i64,some .i64,none]) h hj (show 1<3 by omega))
    have r2:V (j*3+2)= .bool (toB (V (j*3+2))):=ok_bool (rows_at (ks:=[some IntKind.i64,some .i64,none]) h hj (show 2<3 by omega))
    show [Value.int .i64 _,.int .i64 _,.bool _]=[V (j*3+0),V (j*3+1),V (j*3+2)]
    rw [r0,r1,r2];rfl
theorem book_arg {r:Reach} {b0:Nat} {v:Value} {d:DataW H} {ps:List MemPlace} (hv:Value.okWide Tryz.prog w r b0 26 v) (h:DataW.Trod enc Tryz.prog w 0 sp held 26 v d ps):
    ∃b pp np cp pt nt ct pk nk ck,v=fbV b pp np cp pt nt ct pk nk ck∧np≤cp∧nt≤ct∧nk≤ck∧RdS w.heap [] 3 (.slice pp np cp) np (encs b.pts)∧RdS w.heap [] 4 (.slice pt nt ct) nt (encs b.tapes)∧RdS w.heap [] 3 (.slice pk nk ck) nk (encs b.sticks)∧In64 b.plank:=by
  obtain ⟨fs,hu,hfs⟩: ∃fs,Tryz.prog.underlying 26=some (.struct fs)∧fs.toList.map (fun f=>(f.offset,f.type))=[(0,3),(1,22),(2,23),(3,24)]:=⟨_,Tryz.underlying26,by kernel_rfl⟩
  have hct: Tryz.prog.cellTypes Tryz.prog.depth 26=some [3,22,23,24]:=by kernel_rfl
  have h3: Tryz.prog.underlying 3=some (.int .i64):=by kernel_rfl
  have h22: Tryz.prog.underlying 22=some (.slice 32):=by kernel_rfl
  have h23: Tryz.prog.underlying 23=some (.slice 89):=by kernel_rfl
  have h24: Tryz.prog.underlying 24=some (.slice 50):=by kernel_rfl
  unfold Value.okWide at hv
  rw [hu] at hv
  obtain ⟨cs,rfl,hsz,ts,hts,_,hall⟩:=hv
  rw [hct] at hts
  obtain rfl:=Option.some.inj hts
  obtain ⟨fuel,h⟩:=h
  obtain ⟨xs,m,_,_,hl,hxl,hx⟩:=DataW.trod_struct hu h
  have hl4:cs.size=4:=hsz.trans (by kernel_rfl)
  obtain ⟨cl⟩:=cs
  have hl4':cl.length=4:=hl4
  obtain ⟨c0,c1,c2,c3,rfl⟩: ∃c0 c1 c2 c3,cl=[c0,c1,c2,c3]:=by
    match cl,hl4' with
    |[c0,c1,c2,c3],_=>exact ⟨_,_,_,_,rfl⟩
  obtain ⟨f0,f1,f2,f3,rfl⟩: ∃f0 f1 f2 f3,fs= #[f0,f1,f2,f3]:=by
    obtain ⟨fl⟩:=fs
    have hlen:fl.length=4:=by simpa using congrArg List.length hfs
    match fl,hlen with
    |[f0,f1,f2,f3],_=>exact ⟨_,_,_,_,rfl⟩
  simp only [List.map_cons,List.map_nil,List.cons.injEq,Prod.mk.injEq,and_true] at hfs
  obtain ⟨⟨o0,t0⟩,⟨o1,t1⟩,⟨o2,t2⟩,o3,t3⟩:=hfs
  have s3: Tryz.prog.cellsOf 3=1:=by kernel_rfl
  have s22: Tryz.prog.cellsOf 22=1:=by kernel_rfl
  have s23: Tryz.prog.cellsOf 23=1:=by kernel_rfl
  have s24: Tryz.prog.cellsOf 24=1:=by kernel_rfl
  have go: ∀i,i<4→ ∃y,xs[i]?=some y:=fun i hi=>⟨_,List.getElem?_eq_getElem (by rw [hxl];exact hi)⟩
  obtain ⟨y0,e0⟩:=go 0 (by omega);obtain ⟨y1,e1⟩:=go 1 (by omega);obtain ⟨y2,e2⟩:=go 2 (by omega);obtain ⟨y3,e3⟩:=go 3 (by omega)
  have g0:=(hx 0 f0 rfl).trans e0
  have g1:=(hx 1 f1 rfl).trans e1
  have g2:=(hx 2 f2 rfl).trans e2
  have g3:=(hx 3 f3 rfl).trans e3
  rw [t0,o0,s3] at g0
  rw [t1,o1,s22] at g1
  rw [t2,o2,s23] at g2
  rw [t3,o3,s24] at g3
  obtain ⟨n0,q0,_,w0⟩:=DataW.trod_int h3 g0
  obtain rfl:=List.head_eq_of_cons_eq (show [c0]=[Value.int .i64 n0] from q0)
  obtain ⟨u1,hu1,k1⟩:=hall 1 c1 rfl
  obtain ⟨u2,hu2,k2⟩:=hall 2 c2 rfl
  obtain ⟨u3,hu3,k3⟩:=hall 3 c3 rfl
  obtain rfl:22=u1:=Option.some.inj hu1
  obtain rfl:23=u2:=Option.some.inj hu2
  obtain rfl:24=u3:=Option.some.inj hu3
  obtain ⟨pp,np,cp,V1,em,hcp,rdp,hp⟩:=slice_leaf (ks:=[some IntKind.i64,some .i64,some .i64]) (cs:=[c1]) h22 (by kernel_rfl) g1 (spot_of h22 k1)
  obtain ⟨pt,nt,ct,V2,er,hct',rdt,ht⟩:=slice_leaf (ks:=[some IntKind.i64,some .i64,some .i64,some .i64]) (cs:=[c2]) h23 (by kernel_rfl) g2 (spot_of h23 k2)
  obtain ⟨pk,nk,ck,V3,es,hck,rdk,hk⟩:=slice_leaf (ks:=[some IntKind.i64,some .i64,none]) (cs:=[c3]) h24 (by kernel_rfl) g3 (spot_of h24 k3)
  obtain rfl:=List.head_eq_of_cons_eq em
  obtain rfl:=List.head_eq_of_cons_eq er
  obtain rfl:=List.head_eq_of_cons_eq es
  have rp:RdS w.heap [] 3 (.slice pp np cp) np ((List.range (np*3)).map V1):=rdp
  have rt:RdS w.heap [] 4 (.slice pt nt ct) nt ((List.range (nt*4)).map V2):=rdt
  have rk:RdS w.heap [] 3 (.slice pk nk ck) nk ((List.range (nk*3)).map V3):=rdk
  rw [←pts_of hp] at rp
  rw [←tps_of ht] at rt
  rw [←sks_of hk] at rk
  exact ⟨⟨n0,_,_,_⟩,pp,np,cp,pt,nt,ct,pk,nk,ck,rfl,hcp,hct',hck,rp,rt,rk,by
    simp [Lit.wf,IntKind.min,IntKind.max,IntKind.signed,IntKind.bits] at w0
    show In64 n0
    unfold In64;omega⟩
end
end Go.Proofs
namespace Go.Lo
abbrev vw4 (U:Nat→Value) (i:Nat) (r:List Value):List Value:=U i::U (i+1)::U (i+2)::U (i+3)::r
abbrev vw5 (U:Nat→Value) (i:Nat) (r:List Value):List Value:=U i::U (i+1)::U (i+2)::U (i+3)::U (i+4)::r
abbrev vw6 (U:Nat→Value) (i:Nat) (r:List Value):List Value:=U i::U (i+1)::U (i+2)::U (i+3)::U (i+4)::U (i+5)::r
abbrev vw7 (U:Nat→Value) (i:Nat) (r:List Value):List Value:=U i::U (i+1)::U (i+2)::U (i+3)::U (i+4)::U (i+5)::U (i+6)::r
abbrev vw8 (U:Nat→Value) (i:Nat) (r:List Value):List Value:=U i::U (i+1)::U (i+2)::U (i+3)::U (i+4)::U (i+5)::U (i+6)::U (i+7)::r
abbrev vw10 (U:Nat→Value) (i:Nat) (r:List Value):List Value:=U i::U (i+1)::U (i+2)::U (i+3)::U (i+4)::U (i+5)::U (i+6)::U (i+7)::U (i+8)::U (i+9)::r
abbrev vw11 (U:Nat→Value) (i:Nat) (r:List Value):List Value:=U i::U (i+1)::U (i+2)::U (i+3)::U (i+4)::U (i+5)::U (i+6)::U (i+7)::U (i+8)::U (i+9)::U (i+10)::r
abbrev vw13 (U:Nat→Value) (i:Nat) (r:List Value):List Value:=U i::U (i+1)::U (i+2)::U (i+3)::U (i+4)::U (i+5)::U (i+6)::U (i+7)::U (i+8)::U (i+9)::U (i+10)::U (i+11)::U (i+12)::r
abbrev vw14 (U:Nat→Value) (i:Nat) (r:List Value):List Value:=U i::U (i+1)::U (i+2)::U (i+3)::U (i+4)::U (i+5)::U (i+6)::U (i+7)::U (i+8)::U (i+9)::U (i+10)::U (i+11)::U (i+12)::U (i+13)::r
abbrev vw15 (U:Nat→Value) (i:Nat) (r:List Value):List Value:=U i::U (i+1)::U (i+2)::U (i+3)::U (i+4)::U (i+5)::U (i+6)::U (i+7)::U (i+8)::U (i+9)::U (i+10)::U (i+11)::U (i+12)::U (i+13)::U (i+14)::r
abbrev vw16 (U:Nat→Value) (i:Nat) (r:List Value):List Value:=U i::U (i+1)::U (i+2)::U (i+3)::U (i+4)::U (i+5)::U (i+6)::U (i+7)::U (i+8)::U (i+9)::U (i+10)::U (i+11)::U (i+12)::U (i+13)::U (i+14)::U (i+15)::r
abbrev vw17 (U:Nat→Value) (i:Nat) (r:List Value):List Value:=U i::U (i+1)::U (i+2)::U (i+3)::U (i+4)::U (i+5)::U (i+6)::U (i+7)::U (i+8)::U (i+9)::U (i+10)::U (i+11)::U (i+12)::U (i+13)::U (i+14)::U (i+15)::U (i+16)::r
abbrev vw18 (U:Nat→Value) (i:Nat) (r:List Value):List Value:=U i::U (i+1)::U (i+2)::U (i+3)::U (i+4)::U (i+5)::U (i+6)::U (i+7)::U (i+8)::U (i+9)::U (i+10)::U (i+11)::U (i+12)::U (i+13)::U (i+14)::U (i+15)::U (i+16)::U (i+17)::r
abbrev vw20 (U:Nat→Value) (i:Nat) (r:List Value):List Value:=U i::U (i+1)::U (i+2)::U (i+3)::U (i+4)::U (i+5)::U (i+6)::U (i+7)::U (i+8)::U (i+9)::U (i+10)::U (i+11)::U (i+12)::U (i+13)::U (i+14)::U (i+15)::U (i+16)::U (i+17)::U (i+18)::U (i+19)::r
abbrev vw21 (U:Nat→Value) (i:Nat) (r:List Value):List Value:=U i::U (i+1)::U (i+2)::U (i+3)::U (i+4)::U (i+5)::U (i+6)::U (i+7)::U (i+8)::U (i+9)::U (i+10)::U (i+11)::U (i+12)::U (i+13)::U (i+14)::U (i+15)::U (i+16)::U (i+17)::U (i+18)::U (i+19)::U (i+20)::r
abbrev vw23 (U:Nat→Value) (i:Nat) (r:List Value):List Value:=U i::U (i+1)::U (i+2)::U (i+3)::U (i+4)::U (i+5)::U (i+6)::U (i+7)::U (i+8)::U (i+9)::U (i+10)::U (i+11)::U (i+12)::U (i+13)::U (i+14)::U (i+15)::U (i+16)::U (i+17)::U (i+18)::U (i+19)::U (i+20)::U (i+21)::U (i+22)::r
abbrev vw24 (U:Nat→Value) (i:Nat) (r:List Value):List Value:=U i::U (i+1)::U (i+2)::U (i+3)::U (i+4)::U (i+5)::U (i+6)::U (i+7)::U (i+8)::U (i+9)::U (i+10)::U (i+11)::U (i+12)::U (i+13)::U (i+14)::U (i+15)::U (i+16)::U (i+17)::U (i+18)::U (i+19)::U (i+20)::U (i+21)::U (i+22)::U (i+23)::r
abbrev vw25 (U:Nat→Value) (i:Nat) (r:List Value):List Value:=U i::U (i+1)::U (i+2)::U (i+3)::U (i+4)::U (i+5)::U (i+6)::U (i+7)::U (i+8)::U (i+9)::U (i+10)::U (i+11)::U (i+12)::U (i+13)::U (i+14)::U (i+15)::U (i+16)::U (i+17)::U (i+18)::U (i+19)::U (i+20)::U (i+21)::U (i+22)::U (i+23)::U (i+24)::r
abbrev vw26 (U:Nat→Value) (i:Nat) (r:List Value):List Value:=U i::U (i+1)::U (i+2)::U (i+3)::U (i+4)::U (i+5)::U (i+6)::U (i+7)::U (i+8)::U (i+9)::U (i+10)::U (i+11)::U (i+12)::U (i+13)::U (i+14)::U (i+15)::U (i+16)::U (i+17)::U (i+18)::U (i+19)::U (i+20)::U (i+21)::U (i+22)::U (i+23)::U (i+24)::U (i+25)::r
abbrev vw27 (U:Nat→Value) (i:Nat) (r:List Value):List Value:=U i::U (i+1)::U (i+2)::U (i+3)::U (i+4)::U (i+5)::U (i+6)::U (i+7)::U (i+8)::U (i+9)::U (i+10)::U (i+11)::U (i+12)::U (i+13)::U (i+14)::U (i+15)::U (i+16)::U (i+17)::U (i+18)::U (i+19)::U (i+20)::U (i+21)::U (i+22)::U (i+23)::U (i+24)::U (i+25)::U (i+26)::r
abbrev vw30 (U:Nat→Value) (i:Nat) (r:List Value):List Value:=U i::U (i+1)::U (i+2)::U (i+3)::U (i+4)::U (i+5)::U (i+6)::U (i+7)::U (i+8)::U (i+9)::U (i+10)::U (i+11)::U (i+12)::U (i+13)::U (i+14)::U (i+15)::U (i+16)::U (i+17)::U (i+18)::U (i+19)::U (i+20)::U (i+21)::U (i+22)::U (i+23)::U (i+24)::U (i+25)::U (i+26)::U (i+27)::U (i+28)::U (i+29)::r
abbrev vw31 (U:Nat→Value) (i:Nat) (r:List Value):List Value:=U i::U (i+1)::U (i+2)::U (i+3)::U (i+4)::U (i+5)::U (i+6)::U (i+7)::U (i+8)::U (i+9)::U (i+10)::U (i+11)::U (i+12)::U (i+13)::U (i+14)::U (i+15)::U (i+16)::U (i+17)::U (i+18)::U (i+19)::U (i+20)::U (i+21)::U (i+22)::U (i+23)::U (i+24)::U (i+25)::U (i+26)::U (i+27)::U (i+28)::U (i+29)::U (i+30)::r
abbrev vw32 (U:Nat→Value) (i:Nat) (r:List Value):List Value:=U i::U (i+1)::U (i+2)::U (i+3)::U (i+4)::U (i+5)::U (i+6)::U (i+7)::U (i+8)::U (i+9)::U (i+10)::U (i+11)::U (i+12)::U (i+13)::U (i+14)::U (i+15)::U (i+16)::U (i+17)::U (i+18)::U (i+19)::U (i+20)::U (i+21)::U (i+22)::U (i+23)::U (i+24)::U (i+25)::U (i+26)::U (i+27)::U (i+28)::U (i+29)::U (i+30)::U (i+31)::r
abbrev vw34 (U:Nat→Value) (i:Nat) (r:List Value):List Value:=U i::U (i+1)::U (i+2)::U (i+3)::U (i+4)::U (i+5)::U (i+6)::U (i+7)::U (i+8)::U (i+9)::U (i+10)::U (i+11)::U (i+12)::U (i+13)::U (i+14)::U (i+15)::U (i+16)::U (i+17)::U (i+18)::U (i+19)::U (i+20)::U (i+21)::U (i+22)::U (i+23)::U (i+24)::U (i+25)::U (i+26)::U (i+27)::U (i+28)::U (i+29)::U (i+30)::U (i+31)::U (i+32)::U (i+33)::r
abbrev vw38 (U:Nat→Value) (i:Nat) (r:List Value):List Value:=U i::U (i+1)::U (i+2)::U (i+3)::U (i+4)::U (i+5)::U (i+6)::U (i+7)::U (i+8)::U (i+9)::U (i+10)::U (i+11)::U (i+12)::U (i+13)::U (i+14)::U (i+15)::U (i+16)::U (i+17)::U (i+18)::U (i+19)::U (i+20)::U (i+21)::U (i+22)::U (i+23)::U (i+24)::U (i+25)::U (i+26)::U (i+27)::U (i+28)::U (i+29)::U (i+30)::U (i+31)::U (i+32)::U (i+33)::U (i+34)::U (i+35)::U (i+36)::U (i+37)::r
abbrev vw40 (U:Nat→Value) (i:Nat) (r:List Value):List Value:=U i::U (i+1)::U (i+2)::U (i+3)::U (i+4)::U (i+5)::U (i+6)::U (i+7)::U (i+8)::U (i+9)::U (i+10)::U (i+11)::U (i+12)::U (i+13)::U (i+14)::U (i+15)::U (i+16)::U (i+17)::U (i+18)::U (i+19)::U (i+20)::U (i+21)::U (i+22)::U (i+23)::U (i+24)::U (i+25)::U (i+26)::U (i+27)::U (i+28)::U (i+29)::U (i+30)::U (i+31)::U (i+32)::U (i+33)::U (i+34)::U (i+35)::U (i+36)::U (i+37)::U (i+38)::U (i+39)::r
abbrev vw41 (U:Nat→Value) (i:Nat) (r:List Value):List Value:=U i::U (i+1)::U (i+2)::U (i+3)::U (i+4)::U (i+5)::U (i+6)::U (i+7)::U (i+8)::U (i+9)::U (i+10)::U (i+11)::U (i+12)::U (i+13)::U (i+14)::U (i+15)::U (i+16)::U (i+17)::U (i+18)::U (i+19)::U (i+20)::U (i+21)::U (i+22)::U (i+23)::U (i+24)::U (i+25)::U (i+26)::U (i+27)::U (i+28)::U (i+29)::U (i+30)::U (i+31)::U (i+32)::U (i+33)::U (i+34)::U (i+35)::U (i+36)::U (i+37)::U (i+38)::U (i+39)::U (i+40)::r
abbrev vw42 (U:Nat→Value) (i:Nat) (r:List Value):List Value:=U i::U (i+1)::U (i+2)::U (i+3)::U (i+4)::U (i+5)::U (i+6)::U (i+7)::U (i+8)::U (i+9)::U (i+10)::U (i+11)::U (i+12)::U (i+13)::U (i+14)::U (i+15)::U (i+16)::U (i+17)::U (i+18)::U (i+19)::U (i+20)::U (i+21)::U (i+22)::U (i+23)::U (i+24)::U (i+25)::U (i+26)::U (i+27)::U (i+28)::U (i+29)::U (i+30)::U (i+31)::U (i+32)::U (i+33)::U (i+34)::U (i+35)::U (i+36)::U (i+37)::U (i+38)::U (i+39)::U (i+40)::U (i+41)::r
abbrev vw45 (U:Nat→Value) (i:Nat) (r:List Value):List Value:=U i::U (i+1)::U (i+2)::U (i+3)::U (i+4)::U (i+5)::U (i+6)::U (i+7)::U (i+8)::U (i+9)::U (i+10)::U (i+11)::U (i+12)::U (i+13)::U (i+14)::U (i+15)::U (i+16)::U (i+17)::U (i+18)::U (i+19)::U (i+20)::U (i+21)::U (i+22)::U (i+23)::U (i+24)::U (i+25)::U (i+26)::U (i+27)::U (i+28)::U (i+29)::U (i+30)::U (i+31)::U (i+32)::U (i+33)::U (i+34)::U (i+35)::U (i+36)::U (i+37)::U (i+38)::U (i+39)::U (i+40)::U (i+41)::U (i+42)::U (i+43)::U (i+44)::r
abbrev vw46 (U:Nat→Value) (i:Nat) (r:List Value):List Value:=U i::U (i+1)::U (i+2)::U (i+3)::U (i+4)::U (i+5)::U (i+6)::U (i+7)::U (i+8)::U (i+9)::U (i+10)::U (i+11)::U (i+12)::U (i+13)::U (i+14)::U (i+15)::U (i+16)::U (i+17)::U (i+18)::U (i+19)::U (i+20)::U (i+21)::U (i+22)::U (i+23)::U (i+24)::U (i+25)::U (i+26)::U (i+27)::U (i+28)::U (i+29)::U (i+30)::U (i+31)::U (i+32)::U (i+33)::U (i+34)::U (i+35)::U (i+36)::U (i+37)::U (i+38)::U (i+39)::U (i+40)::U (i+41)::U (i+42)::U (i+43)::U (i+44)::U (i+45)::r
abbrev vw48 (U:Nat→Value) (i:Nat) (r:List Value):List Value:=U i::U (i+1)::U (i+2)::U (i+3)::U (i+4)::U (i+5)::U (i+6)::U (i+7)::U (i+8)::U (i+9)::U (i+10)::U (i+11)::U (i+12)::U (i+13)::U (i+14)::U (i+15)::U (i+16)::U (i+17)::U (i+18)::U (i+19)::U (i+20)::U (i+21)::U (i+22)::U (i+23)::U (i+24)::U (i+25)::U (i+26)::U (i+27)::U (i+28)::U (i+29)::U (i+30)::U (i+31)::U (i+32)::U (i+33)::U (i+34)::U (i+35)::U (i+36)::U (i+37)::U (i+38)::U (i+39)::U (i+40)::U (i+41)::U (i+42)::U (i+43)::U (i+44)::U (i+45)::U (i+46)::U (i+47)::r
abbrev vw50 (U:Nat→Value) (i:Nat) (r:List Value):List Value:=U i::U (i+1)::U (i+2)::U (i+3)::U (i+4)::U (i+5)::U (i+6)::U (i+7)::U (i+8)::U (i+9)::U (i+10)::U (i+11)::U (i+12)::U (i+13)::U (i+14)::U (i+15)::U (i+16)::U (i+17)::U (i+18)::U (i+19)::U (i+20)::U (i+21)::U (i+22)::U (i+23)::U (i+24)::U (i+25)::U (i+26)::U (i+27)::U (i+28)::U (i+29)::U (i+30)::U (i+31)::U (i+32)::U (i+33)::U (i+34)::U (i+35)::U (i+36)::U (i+37)::U (i+38)::U (i+39)::U (i+40)::U (i+41)::U (i+42)::U (i+43)::U (i+44)::U (i+45)::U (i+46)::U (i+47)::U (i+48)::U (i+49)::r
abbrev vw54 (U:Nat→Value) (i:Nat) (r:List Value):List Value:=U i::U (i+1)::U (i+2)::U (i+3)::U (i+4)::U (i+5)::U (i+6)::U (i+7)::U (i+8)::U (i+9)::U (i+10)::U (i+11)::U (i+12)::U (i+13)::U (i+14)::U (i+15)::U (i+16)::U (i+17)::U (i+18)::U (i+19)::U (i+20)::U (i+21)::U (i+22)::U (i+23)::U (i+24)::U (i+25)::U (i+26)::U (i+27)::U (i+28)::U (i+29)::U (i+30)::U (i+31)::U (i+32)::U (i+33)::U (i+34)::U (i+35)::U (i+36)::U (i+37)::U (i+38)::U (i+39)::U (i+40)::U (i+41)::U (i+42)::U (i+43)::U (i+44)::U (i+45)::U (i+46)::U (i+47)::U (i+48)::U (i+49)::U (i+50)::U (i+51)::U (i+52)::U (i+53)::r
abbrev vw55 (U:Nat→Value) (i:Nat) (r:List Value):List Value:=U i::U (i+1)::U (i+2)::U (i+3)::U (i+4)::U (i+5)::U (i+6)::U (i+7)::U (i+8)::U (i+9)::U (i+10)::U (i+11)::U (i+12)::U (i+13)::U (i+14)::U (i+15)::U (i+16)::U (i+17)::U (i+18)::U (i+19)::U (i+20)::U (i+21)::U (i+22)::U (i+23)::U (i+24)::U (i+25)::U (i+26)::U (i+27)::U (i+28)::U (i+29)::U (i+30)::U (i+31)::U (i+32)::U (i+33)::U (i+34)::U (i+35)::U (i+36)::U (i+37)::U (i+38)::U (i+39)::U (i+40)::U (i+41)::U (i+42)::U (i+43)::U (i+44)::U (i+45)::U (i+46)::U (i+47)::U (i+48)::U (i+49)::U (i+50)::U (i+51)::U (i+52)::U (i+53)::U (i+54)::r
abbrev vw57 (U:Nat→Value) (i:Nat) (r:List Value):List Value:=U i::U (i+1)::U (i+2)::U (i+3)::U (i+4)::U (i+5)::U (i+6)::U (i+7)::U (i+8)::U (i+9)::U (i+10)::U (i+11)::U (i+12)::U (i+13)::U (i+14)::U (i+15)::U (i+16)::U (i+17)::U (i+18)::U (i+19)::U (i+20)::U (i+21)::U (i+22)::U (i+23)::U (i+24)::U (i+25)::U (i+26)::U (i+27)::U (i+28)::U (i+29)::U (i+30)::U (i+31)::U (i+32)::U (i+33)::U (i+34)::U (i+35)::U (i+36)::U (i+37)::U (i+38)::U (i+39)::U (i+40)::U (i+41)::U (i+42)::U (i+43)::U (i+44)::U (i+45)::U (i+46)::U (i+47)::U (i+48)::U (i+49)::U (i+50)::U (i+51)::U (i+52)::U (i+53)::U (i+54)::U (i+55)::U (i+56)::r
abbrev vw61 (U:Nat→Value) (i:Nat) (r:List Value):List Value:=U i::U (i+1)::U (i+2)::U (i+3)::U (i+4)::U (i+5)::U (i+6)::U (i+7)::U (i+8)::U (i+9)::U (i+10)::U (i+11)::U (i+12)::U (i+13)::U (i+14)::U (i+15)::U (i+16)::U (i+17)::U (i+18)::U (i+19)::U (i+20)::U (i+21)::U (i+22)::U (i+23)::U (i+24)::U (i+25)::U (i+26)::U (i+27)::U (i+28)::U (i+29)::U (i+30)::U (i+31)::U (i+32)::U (i+33)::U (i+34)::U (i+35)::U (i+36)::U (i+37)::U (i+38)::U (i+39)::U (i+40)::U (i+41)::U (i+42)::U (i+43)::U (i+44)::U (i+45)::U (i+46)::U (i+47)::U (i+48)::U (i+49)::U (i+50)::U (i+51)::U (i+52)::U (i+53)::U (i+54)::U (i+55)::U (i+56)::U (i+57)::U (i+58)::U (i+59)::U (i+60)::r
abbrev vw67 (U:Nat→Value) (i:Nat) (r:List Value):List Value:=U i::U (i+1)::U (i+2)::U (i+3)::U (i+4)::U (i+5)::U (i+6)::U (i+7)::U (i+8)::U (i+9)::U (i+10)::U (i+11)::U (i+12)::U (i+13)::U (i+14)::U (i+15)::U (i+16)::U (i+17)::U (i+18)::U (i+19)::U (i+20)::U (i+21)::U (i+22)::U (i+23)::U (i+24)::U (i+25)::U (i+26)::U (i+27)::U (i+28)::U (i+29)::U (i+30)::U (i+31)::U (i+32)::U (i+33)::U (i+34)::U (i+35)::U (i+36)::U (i+37)::U (i+38)::U (i+39)::U (i+40)::U (i+41)::U (i+42)::U (i+43)::U (i+44)::U (i+45)::U (i+46)::U (i+47)::U (i+48)::U (i+49)::U (i+50)::U (i+51)::U (i+52)::U (i+53)::U (i+54)::U (i+55)::U (i+56)::U (i+57)::U (i+58)::U (i+59)::U (i+60)::U (i+61)::U (i+62)::U (i+63)::U (i+64)::U (i+65)::U (i+66)::r
abbrev vw68 (U:Nat→Value) (i:Nat) (r:List Value):List Value:=U i::U (i+1)::U (i+2)::U (i+3)::U (i+4)::U (i+5)::U (i+6)::U (i+7)::U (i+8)::U (i+9)::U (i+10)::U (i+11)::U (i+12)::U (i+13)::U (i+14)::U (i+15)::U (i+16)::U (i+17)::U (i+18)::U (i+19)::U (i+20)::U (i+21)::U (i+22)::U (i+23)::U (i+24)::U (i+25)::U (i+26)::U (i+27)::U (i+28)::U (i+29)::U (i+30)::U (i+31)::U (i+32)::U (i+33)::U (i+34)::U (i+35)::U (i+36)::U (i+37)::U (i+38)::U (i+39)::U (i+40)::U (i+41)::U (i+42)::U (i+43)::U (i+44)::U (i+45)::U (i+46)::U (i+47)::U (i+48)::U (i+49)::U (i+50)::U (i+51)::U (i+52)::U (i+53)::U (i+54)::U (i+55)::U (i+56)::U (i+57)::U (i+58)::U (i+59)::U (i+60)::U (i+61)::U (i+62)::U (i+63)::U (i+64)::U (i+65)::U (i+66)::U (i+67)::r
abbrev vw73 (U:Nat→Value) (i:Nat) (r:List Value):List Value:=U i::U (i+1)::U (i+2)::U (i+3)::U (i+4)::U (i+5)::U (i+6)::U (i+7)::U (i+8)::U (i+9)::U (i+10)::U (i+11)::U (i+12)::U (i+13)::U (i+14)::U (i+15)::U (i+16)::U (i+17)::U (i+18)::U (i+19)::U (i+20)::U (i+21)::U (i+22)::U (i+23)::U (i+24)::U (i+25)::U (i+26)::U (i+27)::U (i+28)::U (i+29)::U (i+30)::U (i+31)::U (i+32)::U (i+33)::U (i+34)::U (i+35)::U (i+36)::U (i+37)::U (i+38)::U (i+39)::U (i+40)::U (i+41)::U (i+42)::U (i+43)::U (i+44)::U (i+45)::U (i+46)::U (i+47)::U (i+48)::U (i+49)::U (i+50)::U (i+51)::U (i+52)::U (i+53)::U (i+54)::U (i+55)::U (i+56)::U (i+57)::U (i+58)::U (i+59)::U (i+60)::U (i+61)::U (i+62)::U (i+63)::U (i+64)::U (i+65)::U (i+66)::U (i+67)::U (i+68)::U (i+69)::U (i+70)::U (i+71)::U (i+72)::r
abbrev vw83 (U:Nat→Value) (i:Nat) (r:List Value):List Value:=U i::U (i+1)::U (i+2)::U (i+3)::U (i+4)::U (i+5)::U (i+6)::U (i+7)::U (i+8)::U (i+9)::U (i+10)::U (i+11)::U (i+12)::U (i+13)::U (i+14)::U (i+15)::U (i+16)::U (i+17)::U (i+18)::U (i+19)::U (i+20)::U (i+21)::U (i+22)::U (i+23)::U (i+24)::U (i+25)::U (i+26)::U (i+27)::U (i+28)::U (i+29)::U (i+30)::U (i+31)::U (i+32)::U (i+33)::U (i+34)::U (i+35)::U (i+36)::U (i+37)::U (i+38)::U (i+39)::U (i+40)::U (i+41)::U (i+42)::U (i+43)::U (i+44)::U (i+45)::U (i+46)::U (i+47)::U (i+48)::U (i+49)::U (i+50)::U (i+51)::U (i+52)::U (i+53)::U (i+54)::U (i+55)::U (i+56)::U (i+57)::U (i+58)::U (i+59)::U (i+60)::U (i+61)::U (i+62)::U (i+63)::U (i+64)::U (i+65)::U (i+66)::U (i+67)::U (i+68)::U (i+69)::U (i+70)::U (i+71)::U (i+72)::U (i+73)::U (i+74)::U (i+75)::U (i+76)::U (i+77)::U (i+78)::U (i+79)::U (i+80)::U (i+81)::U (i+82)::r
abbrev vw100 (U:Nat→Value) (i:Nat) (r:List Value):List Value:=U i::U (i+1)::U (i+2)::U (i+3)::U (i+4)::U (i+5)::U (i+6)::U (i+7)::U (i+8)::U (i+9)::U (i+10)::U (i+11)::U (i+12)::U (i+13)::U (i+14)::U (i+15)::U (i+16)::U (i+17)::U (i+18)::U (i+19)::U (i+20)::U (i+21)::U (i+22)::U (i+23)::U (i+24)::U (i+25)::U (i+26)::U (i+27)::U (i+28)::U (i+29)::U (i+30)::U (i+31)::U (i+32)::U (i+33)::U (i+34)::U (i+35)::U (i+36)::U (i+37)::U (i+38)::U (i+39)::U (i+40)::U (i+41)::U (i+42)::U (i+43)::U (i+44)::U (i+45)::U (i+46)::U (i+47)::U (i+48)::U (i+49)::U (i+50)::U (i+51)::U (i+52)::U (i+53)::U (i+54)::U (i+55)::U (i+56)::U (i+57)::U (i+58)::U (i+59)::U (i+60)::U (i+61)::U (i+62)::U (i+63)::U (i+64)::U (i+65)::U (i+66)::U (i+67)::U (i+68)::U (i+69)::U (i+70)::U (i+71)::U (i+72)::U (i+73)::U (i+74)::U (i+75)::U (i+76)::U (i+77)::U (i+78)::U (i+79)::U (i+80)::U (i+81)::U (i+82)::U (i+83)::U (i+84)::U (i+85)::U (i+86)::U (i+87)::U (i+88)::U (i+89)::U (i+90)::U (i+91)::U (i+92)::U (i+93)::U (i+94)::U (i+95)::U (i+96)::U (i+97)::U (i+98)::U (i+99)::r
abbrev vw105 (U:Nat→Value) (i:Nat) (r:List Value):List Value:=U i::U (i+1)::U (i+2)::U (i+3)::U (i+4)::U (i+5)::U (i+6)::U (i+7)::U (i+8)::U (i+9)::U (i+10)::U (i+11)::U (i+12)::U (i+13)::U (i+14)::U (i+15)::U (i+16)::U (i+17)::U (i+18)::U (i+19)::U (i+20)::U (i+21)::U (i+22)::U (i+23)::U (i+24)::U (i+25)::U (i+26)::U (i+27)::U (i+28)::U (i+29)::U (i+30)::U (i+31)::U (i+32)::U (i+33)::U (i+34)::U (i+35)::U (i+36)::U (i+37)::U (i+38)::U (i+39)::U (i+40)::U (i+41)::U (i+42)::U (i+43)::U (i+44)::U (i+45)::U (i+46)::U (i+47)::U (i+48)::U (i+49)::U (i+50)::U (i+51)::U (i+52)::U (i+53)::U (i+54)::U (i+55)::U (i+56)::U (i+57)::U (i+58)::U (i+59)::U (i+60)::U (i+61)::U (i+62)::U (i+63)::U (i+64)::U (i+65)::U (i+66)::U (i+67)::U (i+68)::U (i+69)::U (i+70)::U (i+71)::U (i+72)::U (i+73)::U (i+74)::U (i+75)::U (i+76)::U (i+77)::U (i+78)::U (i+79)::U (i+80)::U (i+81)::U (i+82)::U (i+83)::U (i+84)::U (i+85)::U (i+86)::U (i+87)::U (i+88)::U (i+89)::U (i+90)::U (i+91)::U (i+92)::U (i+93)::U (i+94)::U (i+95)::U (i+96)::U (i+97)::U (i+98)::U (i+99)::U (i+100)::U (i+101)::U (i+102)::U (i+103)::U (i+104)::r
abbrev vw107 (U:Nat→Value) (i:Nat) (r:List Value):List Value:=U i::U (i+1)::U (i+2)::U (i+3)::U (i+4)::U (i+5)::U (i+6)::U (i+7)::U (i+8)::U (i+9)::U (i+10)::U (i+11)::U (i+12)::U (i+13)::U (i+14)::U (i+15)::U (i+16)::U (i+17)::U (i+18)::U (i+19)::U (i+20)::U (i+21)::U (i+22)::U (i+23)::U (i+24)::U (i+25)::U (i+26)::U (i+27)::U (i+28)::U (i+29)::U (i+30)::U (i+31)::U (i+32)::U (i+33)::U (i+34)::U (i+35)::U (i+36)::U (i+37)::U (i+38)::U (i+39)::U (i+40)::U (i+41)::U (i+42)::U (i+43)::U (i+44)::U (i+45)::U (i+46)::U (i+47)::U (i+48)::U (i+49)::U (i+50)::U (i+51)::U (i+52)::U (i+53)::U (i+54)::U (i+55)::U (i+56)::U (i+57)::U (i+58)::U (i+59)::U (i+60)::U (i+61)::U (i+62)::U (i+63)::U (i+64)::U (i+65)::U (i+66)::U (i+67)::U (i+68)::U (i+69)::U (i+70)::U (i+71)::U (i+72)::U (i+73)::U (i+74)::U (i+75)::U (i+76)::U (i+77)::U (i+78)::U (i+79)::U (i+80)::U (i+81)::U (i+82)::U (i+83)::U (i+84)::U (i+85)::U (i+86)::U (i+87)::U (i+88)::U (i+89)::U (i+90)::U (i+91)::U (i+92)::U (i+93)::U (i+94)::U (i+95)::U (i+96)::U (i+97)::U (i+98)::U (i+99)::U (i+100)::U (i+101)::U (i+102)::U (i+103)::U (i+104)::U (i+105)::U (i+106)::r
abbrev vw117 (U:Nat→Value) (i:Nat) (r:List Value):List Value:=U i::U (i+1)::U (i+2)::U (i+3)::U (i+4)::U (i+5)::U (i+6)::U (i+7)::U (i+8)::U (i+9)::U (i+10)::U (i+11)::U (i+12)::U (i+13)::U (i+14)::U (i+15)::U (i+16)::U (i+17)::U (i+18)::U (i+19)::U (i+20)::U (i+21)::U (i+22)::U (i+23)::U (i+24)::U (i+25)::U (i+26)::U (i+27)::U (i+28)::U (i+29)::U (i+30)::U (i+31)::U (i+32)::U (i+33)::U (i+34)::U (i+35)::U (i+36)::U (i+37)::U (i+38)::U (i+39)::U (i+40)::U (i+41)::U (i+42)::U (i+43)::U (i+44)::U (i+45)::U (i+46)::U (i+47)::U (i+48)::U (i+49)::U (i+50)::U (i+51)::U (i+52)::U (i+53)::U (i+54)::U (i+55)::U (i+56)::U (i+57)::U (i+58)::U (i+59)::U (i+60)::U (i+61)::U (i+62)::U (i+63)::U (i+64)::U (i+65)::U (i+66)::U (i+67)::U (i+68)::U (i+69)::U (i+70)::U (i+71)::U (i+72)::U (i+73)::U (i+74)::U (i+75)::U (i+76)::U (i+77)::U (i+78)::U (i+79)::U (i+80)::U (i+81)::U (i+82)::U (i+83)::U (i+84)::U (i+85)::U (i+86)::U (i+87)::U (i+88)::U (i+89)::U (i+90)::U (i+91)::U (i+92)::U (i+93)::U (i+94)::U (i+95)::U (i+96)::U (i+97)::U (i+98)::U (i+99)::U (i+100)::U (i+101)::U (i+102)::U (i+103)::U (i+104)::U (i+105)::U (i+106)::U (i+107)::U (i+108)::U (i+109)::U (i+110)::U (i+111)::U (i+112)::U (i+113)::U (i+114)::U (i+115)::U (i+116)::r
abbrev vw121 (U:Nat→Value) (i:Nat) (r:List Value):List Value:=U i::U (i+1)::U (i+2)::U (i+3)::U (i+4)::U (i+5)::U (i+6)::U (i+7)::U (i+8)::U (i+9)::U (i+10)::U (i+11)::U (i+12)::U (i+13)::U (i+14)::U (i+15)::U (i+16)::U (i+17)::U (i+18)::U (i+19)::U (i+20)::U (i+21)::U (i+22)::U (i+23)::U (i+24)::U (i+25)::U (i+26)::U (i+27)::U (i+28)::U (i+29)::U (i+30)::U (i+31)::U (i+32)::U (i+33)::U (i+34)::U (i+35)::U (i+36)::U (i+37)::U (i+38)::U (i+39)::U (i+40)::U (i+41)::U (i+42)::U (i+43)::U (i+44)::U (i+45)::U (i+46)::U (i+47)::U (i+48)::U (i+49)::U (i+50)::U (i+51)::U (i+52)::U (i+53)::U (i+54)::U (i+55)::U (i+56)::U (i+57)::U (i+58)::U (i+59)::U (i+60)::U (i+61)::U (i+62)::U (i+63)::U (i+64)::U (i+65)::U (i+66)::U (i+67)::U (i+68)::U (i+69)::U (i+70)::U (i+71)::U (i+72)::U (i+73)::U (i+74)::U (i+75)::U (i+76)::U (i+77)::U (i+78)::U (i+79)::U (i+80)::U (i+81)::U (i+82)::U (i+83)::U (i+84)::U (i+85)::U (i+86)::U (i+87)::U (i+88)::U (i+89)::U (i+90)::U (i+91)::U (i+92)::U (i+93)::U (i+94)::U (i+95)::U (i+96)::U (i+97)::U (i+98)::U (i+99)::U (i+100)::U (i+101)::U (i+102)::U (i+103)::U (i+104)::U (i+105)::U (i+106)::U (i+107)::U (i+108)::U (i+109)::U (i+110)::U (i+111)::U (i+112)::U (i+113)::U (i+114)::U (i+115)::U (i+116)::U (i+117)::U (i+118)::U (i+119)::U (i+120)::r
abbrev vw122 (U:Nat→Value) (i:Nat) (r:List Value):List Value:=U i::U (i+1)::U (i+2)::U (i+3)::U (i+4)::U (i+5)::U (i+6)::U (i+7)::U (i+8)::U (i+9)::U (i+10)::U (i+11)::U (i+12)::U (i+13)::U (i+14)::U (i+15)::U (i+16)::U (i+17)::U (i+18)::U (i+19)::U (i+20)::U (i+21)::U (i+22)::U (i+23)::U (i+24)::U (i+25)::U (i+26)::U (i+27)::U (i+28)::U (i+29)::U (i+30)::U (i+31)::U (i+32)::U (i+33)::U (i+34)::U (i+35)::U (i+36)::U (i+37)::U (i+38)::U (i+39)::U (i+40)::U (i+41)::U (i+42)::U (i+43)::U (i+44)::U (i+45)::U (i+46)::U (i+47)::U (i+48)::U (i+49)::U (i+50)::U (i+51)::U (i+52)::U (i+53)::U (i+54)::U (i+55)::U (i+56)::U (i+57)::U (i+58)::U (i+59)::U (i+60)::U (i+61)::U (i+62)::U (i+63)::U (i+64)::U (i+65)::U (i+66)::U (i+67)::U (i+68)::U (i+69)::U (i+70)::U (i+71)::U (i+72)::U (i+73)::U (i+74)::U (i+75)::U (i+76)::U (i+77)::U (i+78)::U (i+79)::U (i+80)::U (i+81)::U (i+82)::U (i+83)::U (i+84)::U (i+85)::U (i+86)::U (i+87)::U (i+88)::U (i+89)::U (i+90)::U (i+91)::U (i+92)::U (i+93)::U (i+94)::U (i+95)::U (i+96)::U (i+97)::U (i+98)::U (i+99)::U (i+100)::U (i+101)::U (i+102)::U (i+103)::U (i+104)::U (i+105)::U (i+106)::U (i+107)::U (i+108)::U (i+109)::U (i+110)::U (i+111)::U (i+112)::U (i+113)::U (i+114)::U (i+115)::U (i+116)::U (i+117)::U (i+118)::U (i+119)::U (i+120)::U (i+121)::r
abbrev vw123 (U:Nat→Value) (i:Nat) (r:List Value):List Value:=U i::U (i+1)::U (i+2)::U (i+3)::U (i+4)::U (i+5)::U (i+6)::U (i+7)::U (i+8)::U (i+9)::U (i+10)::U (i+11)::U (i+12)::U (i+13)::U (i+14)::U (i+15)::U (i+16)::U (i+17)::U (i+18)::U (i+19)::U (i+20)::U (i+21)::U (i+22)::U (i+23)::U (i+24)::U (i+25)::U (i+26)::U (i+27)::U (i+28)::U (i+29)::U (i+30)::U (i+31)::U (i+32)::U (i+33)::U (i+34)::U (i+35)::U (i+36)::U (i+37)::U (i+38)::U (i+39)::U (i+40)::U (i+41)::U (i+42)::U (i+43)::U (i+44)::U (i+45)::U (i+46)::U (i+47)::U (i+48)::U (i+49)::U (i+50)::U (i+51)::U (i+52)::U (i+53)::U (i+54)::U (i+55)::U (i+56)::U (i+57)::U (i+58)::U (i+59)::U (i+60)::U (i+61)::U (i+62)::U (i+63)::U (i+64)::U (i+65)::U (i+66)::U (i+67)::U (i+68)::U (i+69)::U (i+70)::U (i+71)::U (i+72)::U (i+73)::U (i+74)::U (i+75)::U (i+76)::U (i+77)::U (i+78)::U (i+79)::U (i+80)::U (i+81)::U (i+82)::U (i+83)::U (i+84)::U (i+85)::U (i+86)::U (i+87)::U (i+88)::U (i+89)::U (i+90)::U (i+91)::U (i+92)::U (i+93)::U (i+94)::U (i+95)::U (i+96)::U (i+97)::U (i+98)::U (i+99)::U (i+100)::U (i+101)::U (i+102)::U (i+103)::U (i+104)::U (i+105)::U (i+106)::U (i+107)::U (i+108)::U (i+109)::U (i+110)::U (i+111)::U (i+112)::U (i+113)::U (i+114)::U (i+115)::U (i+116)::U (i+117)::U (i+118)::U (i+119)::U (i+120)::U (i+121)::U (i+122)::r
abbrev vw124 (U:Nat→Value) (i:Nat) (r:List Value):List Value:=U i::U (i+1)::U (i+2)::U (i+3)::U (i+4)::U (i+5)::U (i+6)::U (i+7)::U (i+8)::U (i+9)::U (i+10)::U (i+11)::U (i+12)::U (i+13)::U (i+14)::U (i+15)::U (i+16)::U (i+17)::U (i+18)::U (i+19)::U (i+20)::U (i+21)::U (i+22)::U (i+23)::U (i+24)::U (i+25)::U (i+26)::U (i+27)::U (i+28)::U (i+29)::U (i+30)::U (i+31)::U (i+32)::U (i+33)::U (i+34)::U (i+35)::U (i+36)::U (i+37)::U (i+38)::U (i+39)::U (i+40)::U (i+41)::U (i+42)::U (i+43)::U (i+44)::U (i+45)::U (i+46)::U (i+47)::U (i+48)::U (i+49)::U (i+50)::U (i+51)::U (i+52)::U (i+53)::U (i+54)::U (i+55)::U (i+56)::U (i+57)::U (i+58)::U (i+59)::U (i+60)::U (i+61)::U (i+62)::U (i+63)::U (i+64)::U (i+65)::U (i+66)::U (i+67)::U (i+68)::U (i+69)::U (i+70)::U (i+71)::U (i+72)::U (i+73)::U (i+74)::U (i+75)::U (i+76)::U (i+77)::U (i+78)::U (i+79)::U (i+80)::U (i+81)::U (i+82)::U (i+83)::U (i+84)::U (i+85)::U (i+86)::U (i+87)::U (i+88)::U (i+89)::U (i+90)::U (i+91)::U (i+92)::U (i+93)::U (i+94)::U (i+95)::U (i+96)::U (i+97)::U (i+98)::U (i+99)::U (i+100)::U (i+101)::U (i+102)::U (i+103)::U (i+104)::U (i+105)::U (i+106)::U (i+107)::U (i+108)::U (i+109)::U (i+110)::U (i+111)::U (i+112)::U (i+113)::U (i+114)::U (i+115)::U (i+116)::U (i+117)::U (i+118)::U (i+119)::U (i+120)::U (i+121)::U (i+122)::U (i+123)::r
abbrev vw129 (U:Nat→Value) (i:Nat) (r:List Value):List Value:=U i::U (i+1)::U (i+2)::U (i+3)::U (i+4)::U (i+5)::U (i+6)::U (i+7)::U (i+8)::U (i+9)::U (i+10)::U (i+11)::U (i+12)::U (i+13)::U (i+14)::U (i+15)::U (i+16)::U (i+17)::U (i+18)::U (i+19)::U (i+20)::U (i+21)::U (i+22)::U (i+23)::U (i+24)::U (i+25)::U (i+26)::U (i+27)::U (i+28)::U (i+29)::U (i+30)::U (i+31)::U (i+32)::U (i+33)::U (i+34)::U (i+35)::U (i+36)::U (i+37)::U (i+38)::U (i+39)::U (i+40)::U (i+41)::U (i+42)::U (i+43)::U (i+44)::U (i+45)::U (i+46)::U (i+47)::U (i+48)::U (i+49)::U (i+50)::U (i+51)::U (i+52)::U (i+53)::U (i+54)::U (i+55)::U (i+56)::U (i+57)::U (i+58)::U (i+59)::U (i+60)::U (i+61)::U (i+62)::U (i+63)::U (i+64)::U (i+65)::U (i+66)::U (i+67)::U (i+68)::U (i+69)::U (i+70)::U (i+71)::U (i+72)::U (i+73)::U (i+74)::U (i+75)::U (i+76)::U (i+77)::U (i+78)::U (i+79)::U (i+80)::U (i+81)::U (i+82)::U (i+83)::U (i+84)::U (i+85)::U (i+86)::U (i+87)::U (i+88)::U (i+89)::U (i+90)::U (i+91)::U (i+92)::U (i+93)::U (i+94)::U (i+95)::U (i+96)::U (i+97)::U (i+98)::U (i+99)::U (i+100)::U (i+101)::U (i+102)::U (i+103)::U (i+104)::U (i+105)::U (i+106)::U (i+107)::U (i+108)::U (i+109)::U (i+110)::U (i+111)::U (i+112)::U (i+113)::U (i+114)::U (i+115)::U (i+116)::U (i+117)::U (i+118)::U (i+119)::U (i+120)::U (i+121)::U (i+122)::U (i+123)::U (i+124)::U (i+125)::U (i+126)::U (i+127)::U (i+128)::r
abbrev vw131 (U:Nat→Value) (i:Nat) (r:List Value):List Value:=U i::U (i+1)::U (i+2)::U (i+3)::U (i+4)::U (i+5)::U (i+6)::U (i+7)::U (i+8)::U (i+9)::U (i+10)::U (i+11)::U (i+12)::U (i+13)::U (i+14)::U (i+15)::U (i+16)::U (i+17)::U (i+18)::U (i+19)::U (i+20)::U (i+21)::U (i+22)::U (i+23)::U (i+24)::U (i+25)::U (i+26)::U (i+27)::U (i+28)::U (i+29)::U (i+30)::U (i+31)::U (i+32)::U (i+33)::U (i+34)::U (i+35)::U (i+36)::U (i+37)::U (i+38)::U (i+39)::U (i+40)::U (i+41)::U (i+42)::U (i+43)::U (i+44)::U (i+45)::U (i+46)::U (i+47)::U (i+48)::U (i+49)::U (i+50)::U (i+51)::U (i+52)::U (i+53)::U (i+54)::U (i+55)::U (i+56)::U (i+57)::U (i+58)::U (i+59)::U (i+60)::U (i+61)::U (i+62)::U (i+63)::U (i+64)::U (i+65)::U (i+66)::U (i+67)::U (i+68)::U (i+69)::U (i+70)::U (i+71)::U (i+72)::U (i+73)::U (i+74)::U (i+75)::U (i+76)::U (i+77)::U (i+78)::U (i+79)::U (i+80)::U (i+81)::U (i+82)::U (i+83)::U (i+84)::U (i+85)::U (i+86)::U (i+87)::U (i+88)::U (i+89)::U (i+90)::U (i+91)::U (i+92)::U (i+93)::U (i+94)::U (i+95)::U (i+96)::U (i+97)::U (i+98)::U (i+99)::U (i+100)::U (i+101)::U (i+102)::U (i+103)::U (i+104)::U (i+105)::U (i+106)::U (i+107)::U (i+108)::U (i+109)::U (i+110)::U (i+111)::U (i+112)::U (i+113)::U (i+114)::U (i+115)::U (i+116)::U (i+117)::U (i+118)::U (i+119)::U (i+120)::U (i+121)::U (i+122)::U (i+123)::U (i+124)::U (i+125)::U (i+126)::U (i+127)::U (i+128)::U (i+129)::U (i+130)::r
abbrev vw132 (U:Nat→Value) (i:Nat) (r:List Value):List Value:=U i::U (i+1)::U (i+2)::U (i+3)::U (i+4)::U (i+5)::U (i+6)::U (i+7)::U (i+8)::U (i+9)::U (i+10)::U (i+11)::U (i+12)::U (i+13)::U (i+14)::U (i+15)::U (i+16)::U (i+17)::U (i+18)::U (i+19)::U (i+20)::U (i+21)::U (i+22)::U (i+23)::U (i+24)::U (i+25)::U (i+26)::U (i+27)::U (i+28)::U (i+29)::U (i+30)::U (i+31)::U (i+32)::U (i+33)::U (i+34)::U (i+35)::U (i+36)::U (i+37)::U (i+38)::U (i+39)::U (i+40)::U (i+41)::U (i+42)::U (i+43)::U (i+44)::U (i+45)::U (i+46)::U (i+47)::U (i+48)::U (i+49)::U (i+50)::U (i+51)::U (i+52)::U (i+53)::U (i+54)::U (i+55)::U (i+56)::U (i+57)::U (i+58)::U (i+59)::U (i+60)::U (i+61)::U (i+62)::U (i+63)::U (i+64)::U (i+65)::U (i+66)::U (i+67)::U (i+68)::U (i+69)::U (i+70)::U (i+71)::U (i+72)::U (i+73)::U (i+74)::U (i+75)::U (i+76)::U (i+77)::U (i+78)::U (i+79)::U (i+80)::U (i+81)::U (i+82)::U (i+83)::U (i+84)::U (i+85)::U (i+86)::U (i+87)::U (i+88)::U (i+89)::U (i+90)::U (i+91)::U (i+92)::U (i+93)::U (i+94)::U (i+95)::U (i+96)::U (i+97)::U (i+98)::U (i+99)::U (i+100)::U (i+101)::U (i+102)::U (i+103)::U (i+104)::U (i+105)::U (i+106)::U (i+107)::U (i+108)::U (i+109)::U (i+110)::U (i+111)::U (i+112)::U (i+113)::U (i+114)::U (i+115)::U (i+116)::U (i+117)::U (i+118)::U (i+119)::U (i+120)::U (i+121)::U (i+122)::U (i+123)::U (i+124)::U (i+125)::U (i+126)::U (i+127)::U (i+128)::U (i+129)::U (i+130)::U (i+131)::r
abbrev vw135 (U:Nat→Value) (i:Nat) (r:List Value):List Value:=U i::U (i+1)::U (i+2)::U (i+3)::U (i+4)::U (i+5)::U (i+6)::U (i+7)::U (i+8)::U (i+9)::U (i+10)::U (i+11)::U (i+12)::U (i+13)::U (i+14)::U (i+15)::U (i+16)::U (i+17)::U (i+18)::U (i+19)::U (i+20)::U (i+21)::U (i+22)::U (i+23)::U (i+24)::U (i+25)::U (i+26)::U (i+27)::U (i+28)::U (i+29)::U (i+30)::U (i+31)::U (i+32)::U (i+33)::U (i+34)::U (i+35)::U (i+36)::U (i+37)::U (i+38)::U (i+39)::U (i+40)::U (i+41)::U (i+42)::U (i+43)::U (i+44)::U (i+45)::U (i+46)::U (i+47)::U (i+48)::U (i+49)::U (i+50)::U (i+51)::U (i+52)::U (i+53)::U (i+54)::U (i+55)::U (i+56)::U (i+57)::U (i+58)::U (i+59)::U (i+60)::U (i+61)::U (i+62)::U (i+63)::U (i+64)::U (i+65)::U (i+66)::U (i+67)::U (i+68)::U (i+69)::U (i+70)::U (i+71)::U (i+72)::U (i+73)::U (i+74)::U (i+75)::U (i+76)::U (i+77)::U (i+78)::U (i+79)::U (i+80)::U (i+81)::U (i+82)::U (i+83)::U (i+84)::U (i+85)::U (i+86)::U (i+87)::U (i+88)::U (i+89)::U (i+90)::U (i+91)::U (i+92)::U (i+93)::U (i+94)::U (i+95)::U (i+96)::U (i+97)::U (i+98)::U (i+99)::U (i+100)::U (i+101)::U (i+102)::U (i+103)::U (i+104)::U (i+105)::U (i+106)::U (i+107)::U (i+108)::U (i+109)::U (i+110)::U (i+111)::U (i+112)::U (i+113)::U (i+114)::U (i+115)::U (i+116)::U (i+117)::U (i+118)::U (i+119)::U (i+120)::U (i+121)::U (i+122)::U (i+123)::U (i+124)::U (i+125)::U (i+126)::U (i+127)::U (i+128)::U (i+129)::U (i+130)::U (i+131)::U (i+132)::U (i+133)::U (i+134)::r
abbrev vw138 (U:Nat→Value) (i:Nat) (r:List Value):List Value:=U i::U (i+1)::U (i+2)::U (i+3)::U (i+4)::U (i+5)::U (i+6)::U (i+7)::U (i+8)::U (i+9)::U (i+10)::U (i+11)::U (i+12)::U (i+13)::U (i+14)::U (i+15)::U (i+16)::U (i+17)::U (i+18)::U (i+19)::U (i+20)::U (i+21)::U (i+22)::U (i+23)::U (i+24)::U (i+25)::U (i+26)::U (i+27)::U (i+28)::U (i+29)::U (i+30)::U (i+31)::U (i+32)::U (i+33)::U (i+34)::U (i+35)::U (i+36)::U (i+37)::U (i+38)::U (i+39)::U (i+40)::U (i+41)::U (i+42)::U (i+43)::U (i+44)::U (i+45)::U (i+46)::U (i+47)::U (i+48)::U (i+49)::U (i+50)::U (i+51)::U (i+52)::U (i+53)::U (i+54)::U (i+55)::U (i+56)::U (i+57)::U (i+58)::U (i+59)::U (i+60)::U (i+61)::U (i+62)::U (i+63)::U (i+64)::U (i+65)::U (i+66)::U (i+67)::U (i+68)::U (i+69)::U (i+70)::U (i+71)::U (i+72)::U (i+73)::U (i+74)::U (i+75)::U (i+76)::U (i+77)::U (i+78)::U (i+79)::U (i+80)::U (i+81)::U (i+82)::U (i+83)::U (i+84)::U (i+85)::U (i+86)::U (i+87)::U (i+88)::U (i+89)::U (i+90)::U (i+91)::U (i+92)::U (i+93)::U (i+94)::U (i+95)::U (i+96)::U (i+97)::U (i+98)::U (i+99)::U (i+100)::U (i+101)::U (i+102)::U (i+103)::U (i+104)::U (i+105)::U (i+106)::U (i+107)::U (i+108)::U (i+109)::U (i+110)::U (i+111)::U (i+112)::U (i+113)::U (i+114)::U (i+115)::U (i+116)::U (i+117)::U (i+118)::U (i+119)::U (i+120)::U (i+121)::U (i+122)::U (i+123)::U (i+124)::U (i+125)::U (i+126)::U (i+127)::U (i+128)::U (i+129)::U (i+130)::U (i+131)::U (i+132)::U (i+133)::U (i+134)::U (i+135)::U (i+136)::U (i+137)::r
abbrev vw156 (U:Nat→Value) (i:Nat) (r:List Value):List Value:=U i::U (i+1)::U (i+2)::U (i+3)::U (i+4)::U (i+5)::U (i+6)::U (i+7)::U (i+8)::U (i+9)::U (i+10)::U (i+11)::U (i+12)::U (i+13)::U (i+14)::U (i+15)::U (i+16)::U (i+17)::U (i+18)::U (i+19)::U (i+20)::U (i+21)::U (i+22)::U (i+23)::U (i+24)::U (i+25)::U (i+26)::U (i+27)::U (i+28)::U (i+29)::U (i+30)::U (i+31)::U (i+32)::U (i+33)::U (i+34)::U (i+35)::U (i+36)::U (i+37)::U (i+38)::U (i+39)::U (i+40)::U (i+41)::U (i+42)::U (i+43)::U (i+44)::U (i+45)::U (i+46)::U (i+47)::U (i+48)::U (i+49)::U (i+50)::U (i+51)::U (i+52)::U (i+53)::U (i+54)::U (i+55)::U (i+56)::U (i+57)::U (i+58)::U (i+59)::U (i+60)::U (i+61)::U (i+62)::U (i+63)::U (i+64)::U (i+65)::U (i+66)::U (i+67)::U (i+68)::U (i+69)::U (i+70)::U (i+71)::U (i+72)::U (i+73)::U (i+74)::U (i+75)::U (i+76)::U (i+77)::U (i+78)::U (i+79)::U (i+80)::U (i+81)::U (i+82)::U (i+83)::U (i+84)::U (i+85)::U (i+86)::U (i+87)::U (i+88)::U (i+89)::U (i+90)::U (i+91)::U (i+92)::U (i+93)::U (i+94)::U (i+95)::U (i+96)::U (i+97)::U (i+98)::U (i+99)::U (i+100)::U (i+101)::U (i+102)::U (i+103)::U (i+104)::U (i+105)::U (i+106)::U (i+107)::U (i+108)::U (i+109)::U (i+110)::U (i+111)::U (i+112)::U (i+113)::U (i+114)::U (i+115)::U (i+116)::U (i+117)::U (i+118)::U (i+119)::U (i+120)::U (i+121)::U (i+122)::U (i+123)::U (i+124)::U (i+125)::U (i+126)::U (i+127)::U (i+128)::U (i+129)::U (i+130)::U (i+131)::U (i+132)::U (i+133)::U (i+134)::U (i+135)::U (i+136)::U (i+137)::U (i+138)::U (i+139)::U (i+140)::U (i+141)::U (i+142)::U (i+143)::U (i+144)::U (i+145)::U (i+146)::U (i+147)::U (i+148)::U (i+149)::U (i+150)::U (i+151)::U (i+152)::U (i+153)::U (i+154)::U (i+155)::r
end Go.Lo
namespace Go.Lo
open Go.Conc (G)
structure Wr (B:Prop):Prop where
  g:B
section
variable {A B:Prop}
theorem d0 (b:B) (h:Wr B→A:=by intro x;refine aq rfl ?_;refine run_ret rfl ?_;exact x.g):A:=h ⟨b⟩
theorem d1 (b:B) (h:Wr B→A:=by intro x;refine i_region rfl ?_;refine i_mv rfl zq ?_;exact x.g):A:=h ⟨b⟩
theorem d2 (b:B) (h:Wr B→A:=by intro x;(first|refine k_fa0 rfl zq ?_|refine k_fa rfl zq ?_);refine k_ldh rfl zq ?_;exact x.g):A:=h ⟨b⟩
theorem d3 (b:B) (h:Wr B→A:=by intro x;refine mq rfl ?_;refine mq rfl ?_;exact x.g):A:=h ⟨b⟩
theorem d4 (b:B) (h:Wr B→A:=by intro x;refine mq rfl ?_;refine k_add rfl zq (by unfold In64;omega) ?_;exact x.g):A:=h ⟨b⟩
theorem d5 (b:B) (h:Wr B→A:=by intro x;refine k_off rfl rfl ?_;refine k_off rfl rfl ?_;exact x.g):A:=h ⟨b⟩
theorem d6 (b:B) (h:Wr B→A:=by intro x;refine run_no ?_;refine run_skip ?_;exact x.g):A:=h ⟨b⟩
theorem d7 (b:B) (h:Wr B→A:=by intro x;refine k_nil ?_;refine run_yes ?_;exact x.g):A:=h ⟨b⟩
theorem d8 (b:B) (h:Wr B→A:=by intro x;(first|refine k_fa0 rfl zq ?_|refine k_fa rfl zq ?_);(first|refine k_fa0 rfl zq ?_|refine k_fa rfl zq ?_);exact x.g):A:=h ⟨b⟩
theorem d9 (b:B) (h:Wr B→A:=by intro x;refine i_as rfl zq ?_;refine i_region_end ?_;exact x.g):A:=h ⟨b⟩
theorem d10 (b:B) (h:Wr B→A:=by intro x;refine i_nilCheck rfl zq ?_;(first|refine i_fa0 rfl zq ?_|refine i_fa rfl zq ?_);exact x.g):A:=h ⟨b⟩
theorem d11 (b:B) (h:Wr B→A:=by intro x;refine d3 ?_;refine k_ixs rfl zq (by first|rfl|assumption) (by omega) (by omega) ?_;exact x.g):A:=h ⟨b⟩
theorem d12 (b:B) (h:Wr B→A:=by intro x;refine aq rfl ?_;refine run_seq ?_;exact x.g):A:=h ⟨b⟩
theorem d13 (b:B) (h:Wr B→A:=by intro x;refine k_nil ?_;refine d6 ?_;exact x.g):A:=h ⟨b⟩
theorem d14 (b:B) (h:Wr B→A:=by intro x;refine i_seq ?_;refine d1 ?_;exact x.g):A:=h ⟨b⟩
theorem d15 (b:B) (h:Wr B→A:=by intro x;refine i_region_end ?_;refine i_else ?_;exact x.g):A:=h ⟨b⟩
theorem d16 (b:B) (h:Wr B→A:=by intro x;refine i_off rfl rfl ?_;refine i_off rfl rfl ?_;exact x.g):A:=h ⟨b⟩
theorem d17 (b:B) (h:Wr B→A:=by intro x;refine k_ext0 rfl zq ?_;refine k_ext1 rfl zq ?_;exact x.g):A:=h ⟨b⟩
theorem d18 (b:B) (h:Wr B→A:=by intro x;refine k_ixs rfl zq (by first|rfl|assumption) (by omega) (by omega) ?_;(first|refine k_fa0 rfl zq ?_|refine k_fa rfl zq ?_);exact x.g):A:=h ⟨b⟩
theorem d19 (b:B) (h:Wr B→A:=by intro x;refine rs2 ?_;refine mq rfl ?_;exact x.g):A:=h ⟨b⟩
theorem d20 (b:B) (h:Wr B→A:=by intro x;refine k_st1 rfl zq ?_;refine k_ixs rfl zq (by first|rfl|assumption) (by omega) (by omega) ?_;exact x.g):A:=h ⟨b⟩
theorem d21 (b:B) (h:Wr B→A:=by intro x;refine run_no ?_;refine run_exit rfl ?_;exact x.g):A:=h ⟨b⟩
theorem d22 (b:B) (h:Wr B→A:=by intro x;refine k_mv rfl rfl ?_;refine k_ixs rfl rfl (by first|rfl|assumption) (by omega) (by omega) ?_;exact x.g):A:=h ⟨b⟩
theorem d23 (b:B) (h:Wr B→A:=by intro x;refine mq rfl ?_;refine k_mv rfl rfl ?_;exact x.g):A:=h ⟨b⟩
theorem d24 (b:B) (h:Wr B→A:=by intro x;refine k_nil ?_;refine run_seq ?_;exact x.g):A:=h ⟨b⟩
theorem d25 (b:B) (h:Wr B→A:=by intro x;(first|refine k_fa0 rfl rfl ?_|refine k_fa rfl rfl ?_);refine k_ldh rfl rfl ?_;exact x.g):A:=h ⟨b⟩
theorem d26 (b:B) (h:Wr B→A:=by intro x;refine d3 ?_;refine k_sub rfl zq (by unfold In64;omega) ?_;exact x.g):A:=h ⟨b⟩
theorem d27 (b:B) (h:Wr B→A:=by intro x;refine k_as rfl zq ?_;refine d0 ?_;exact x.g):A:=h ⟨b⟩
theorem d28 (b:B) (h:Wr B→A:=by intro x;(first|refine k_fa0 rfl zq ?_|refine k_fa rfl zq ?_);refine d2 ?_;exact x.g):A:=h ⟨b⟩
theorem d29 (b:B) (h:Wr B→A:=by intro x;refine k_add rfl zq (by unfold In64;omega) ?_;refine mq rfl ?_;exact x.g):A:=h ⟨b⟩
theorem d30 (b:B) (h:Wr B→A:=by intro x;refine i_seq ?_;refine d14 ?_;exact x.g):A:=h ⟨b⟩
theorem d31 (b:B) (h:Wr B→A:=by intro x;refine d15 ?_;refine i_skip ?_;exact x.g):A:=h ⟨b⟩
theorem d32 (b:B) (h:Wr B→A:=by intro x;refine run_seq ?_;refine run_block ?_;exact x.g):A:=h ⟨b⟩
theorem d33 (b:B) (h:Wr B→A:=by intro x;refine d4 ?_;refine k_ixs rfl zq (by first|rfl|assumption) (by omega) (by omega) ?_;exact x.g):A:=h ⟨b⟩
theorem d34 (b:B) (h:Wr B→A:=by intro x;refine i_region_end ?_;refine i_if ?_;exact x.g):A:=h ⟨b⟩
theorem d35 (b:B) (h:Wr B→A:=by intro x;refine k_neqF rfl rfl (by decide) ?_;refine k_pickF rfl zq ?_;exact x.g):A:=h ⟨b⟩
theorem d36 (b:B) (h:Wr B→A:=by intro x;refine mq rfl ?_;refine k_sub rfl zq (by unfold In64;omega) ?_;exact x.g):A:=h ⟨b⟩
theorem d37 (b:B) (h:Wr B→A:=by intro x;refine rs1 ?_;refine d0 ?_;exact x.g):A:=h ⟨b⟩
theorem d38 (b:B) (h:Wr B→A:=by intro x;refine d13 ?_;refine run_seq ?_;exact x.g):A:=h ⟨b⟩
theorem d39 (b:B) (h:Wr B→A:=by intro x;refine mq rfl ?_;refine k_ixs rfl zq (by first|rfl|assumption) (by omega) (by omega) ?_;exact x.g):A:=h ⟨b⟩
theorem d40 (b:B) (h:Wr B→A:=by intro x;refine k_put ?_;refine k_notT rfl zq ?_;exact x.g):A:=h ⟨b⟩
theorem d41 (b:B) (h:Wr B→A:=by intro x;refine k_put ?_;refine k_notF rfl zq ?_;exact x.g):A:=h ⟨b⟩
theorem d42 (b:B) (h:Wr B→A:=by intro x;refine mq rfl ?_;refine d17 ?_;exact x.g):A:=h ⟨b⟩
theorem d43 (b:B) (h:Wr B→A:=by intro x;refine i_mv rfl zq ?_;refine d16 ?_;exact x.g):A:=h ⟨b⟩
theorem d44 (b:B) (h:Wr B→A:=by intro x;refine rs3 ?_;refine mq rfl ?_;exact x.g):A:=h ⟨b⟩
theorem d45 (b:B) (h:Wr B→A:=by intro x;refine aq rfl ?_;refine run_inBlock ?_;exact x.g):A:=h ⟨b⟩
theorem d46 (b:B) (h:Wr B→A:=by intro x;refine run_skip ?_;refine d32 ?_;exact x.g):A:=h ⟨b⟩
theorem d47 (b:B) (h:Wr B→A:=by intro x;refine k_as rfl zq ?_;refine aq rfl ?_;exact x.g):A:=h ⟨b⟩
theorem d48 (b:B) (h:Wr B→A:=by intro x;refine k_stA rfl zq rfl ?_;refine k_nil ?_;exact x.g):A:=h ⟨b⟩
theorem d49 (b:B) (h:Wr B→A:=by intro x;refine i_seq ?_;refine i_region rfl ?_;exact x.g):A:=h ⟨b⟩
theorem d50 (b:B) (h:Wr B→A:=by intro x;(first|refine k_fa0 rfl zq ?_|refine k_fa rfl zq ?_);refine k_st1 rfl zq ?_;exact x.g):A:=h ⟨b⟩
theorem d51 (b:B) (h:Wr B→A:=by intro x;refine i_pickF rfl zq ?_;refine d31 ?_;exact x.g):A:=h ⟨b⟩
theorem d52 (b:B) (h:Wr B→A:=by intro x;refine mq rfl ?_;refine d5 ?_;exact x.g):A:=h ⟨b⟩
theorem d53 (b:B) (h:Wr B→A:=by intro x;refine aq rfl ?_;refine run_block ?_;exact x.g):A:=h ⟨b⟩
theorem d54 (b:B) (h:Wr B→A:=by intro x;refine k_mul rfl zq (by unfold In64;omega) ?_;refine k_add rfl zq (by unfold In64;omega) ?_;exact x.g):A:=h ⟨b⟩
theorem d55 (b:B) (h:Wr B→A:=by intro x;refine d26 ?_;refine k_ixs rfl zq (by first|rfl|assumption) (by omega) (by omega) ?_;exact x.g):A:=h ⟨b⟩
theorem d56 (b:B) (h:Wr B→A:=by intro x;refine aq rfl ?_;refine run_yes ?_;exact x.g):A:=h ⟨b⟩
theorem d57 (b:B) (h:Wr B→A:=by intro x;refine i_mv rfl zq ?_;refine i_mv rfl rfl ?_;exact x.g):A:=h ⟨b⟩
theorem d58 (b:B) (h:Wr B→A:=by intro x;refine d7 ?_;refine d37 ?_;exact x.g):A:=h ⟨b⟩
theorem d59 (b:B) (h:Wr B→A:=by intro x;refine d4 ?_;refine aq rfl ?_;exact x.g):A:=h ⟨b⟩
theorem d60 (b:B) (h:Wr B→A:=by intro x;(first|refine k_fa0 rfl zq ?_|refine k_fa rfl zq ?_);refine k_ldA rfl zq ?_;exact x.g):A:=h ⟨b⟩
theorem d61 (b:B) (h:Wr B→A:=by intro x;refine k_nil ?_;refine run_block ?_;exact x.g):A:=h ⟨b⟩
theorem d62 (b:B) (h:Wr B→A:=by intro x;refine run_inBlock ?_;refine rr3 ?_;exact x.g):A:=h ⟨b⟩
theorem d63 (b:B) (h:Wr B→A:=by intro x;refine k_off rfl rfl ?_;refine k_pickF rfl zq ?_;exact x.g):A:=h ⟨b⟩
theorem d64 (b:B) (h:Wr B→A:=by intro x;refine k_ldA rfl zq ?_;refine k_ldh rfl zq ?_;exact x.g):A:=h ⟨b⟩
theorem d65 (b:B) (h:Wr B→A:=by intro x;refine rs4 ?_;refine d3 ?_;exact x.g):A:=h ⟨b⟩
theorem d66 (b:B) (h:Wr B→A:=by intro x;refine k_put ?_;refine aq rfl ?_;exact x.g):A:=h ⟨b⟩
theorem d67 (b:B) (h:Wr B→A:=by intro x;refine k_nil ?_;refine d21 ?_;exact x.g):A:=h ⟨b⟩
theorem d68 (b:B) (h:Wr B→A:=by intro x;refine d52 ?_;refine d5 ?_;exact x.g):A:=h ⟨b⟩
theorem d69 (b:B) (h:Wr B→A:=by intro x;refine rs1 ?_;refine d12 ?_;exact x.g):A:=h ⟨b⟩
theorem d70 (b:B) (h:Wr B→A:=by intro x;refine k_len rfl zq ?_;refine mq rfl ?_;exact x.g):A:=h ⟨b⟩
theorem d71 (b:B) (h:Wr B→A:=by intro x;refine k_ldA rfl zq ?_;refine mq rfl ?_;exact x.g):A:=h ⟨b⟩
theorem d72 (b:B) (h:Wr B→A:=by intro x;refine k_stA rfl zq rfl ?_;refine d0 ?_;exact x.g):A:=h ⟨b⟩
theorem d73 (b:B) (h:Wr B→A:=by intro x;refine k_len rfl zq ?_;refine k_sub rfl zq (by unfold In64;omega) ?_;exact x.g):A:=h ⟨b⟩
theorem d74 (b:B) (h:Wr B→A:=by intro x;refine k_st1 rfl zq ?_;refine k_nil ?_;exact x.g):A:=h ⟨b⟩
theorem d75 (b:B) (h:Wr B→A:=by intro x;refine k_pickT rfl zq ?_;refine k_nil ?_;exact x.g):A:=h ⟨b⟩
theorem d76 (b:B) (h:Wr B→A:=by intro x;refine d14 ?_;refine d10 ?_;exact x.g):A:=h ⟨b⟩
theorem d77 (b:B) (h:Wr B→A:=by intro x;refine d29 ?_;refine k_nil ?_;exact x.g):A:=h ⟨b⟩
theorem d78 (b:B) (h:Wr B→A:=by intro x;refine k_put ?_;refine d42 ?_;exact x.g):A:=h ⟨b⟩
theorem d79 (b:B) (h:Wr B→A:=by intro x;refine d9 ?_;refine d30 ?_;exact x.g):A:=h ⟨b⟩
theorem d80 (b:B) (h:Wr B→A:=by intro x;refine k_sub rfl rfl (by unfold In64;omega) ?_;refine k_ixs rfl rfl (by first|rfl|assumption) (by omega) (by omega) ?_;exact x.g):A:=h ⟨b⟩
theorem d81 (b:B) (h:Wr B→A:=by intro x;refine k_ldh rfl zq ?_;refine k_ldh rfl zq ?_;exact x.g):A:=h ⟨b⟩
theorem d82 (b:B) (h:Wr B→A:=by intro x;refine k_pickT rfl zq ?_;refine d0 ?_;exact x.g):A:=h ⟨b⟩
theorem d83 (b:B) (h:Wr B→A:=by intro x;refine rs1 ?_;refine aq rfl ?_;exact x.g):A:=h ⟨b⟩
theorem d84 (b:B) (h:Wr B→A:=by intro x;refine rr2 ?_;refine d77 ?_;exact x.g):A:=h ⟨b⟩
theorem d85 (b:B) (h:Wr B→A:=by intro x;refine k_put ?_;refine k_notT rfl rfl ?_;exact x.g):A:=h ⟨b⟩
theorem d86 (b:B) (h:Wr B→A:=by intro x;refine d24 ?_;refine run_yes ?_;exact x.g):A:=h ⟨b⟩
theorem d87 (b:B) (h:Wr B→A:=by intro x;refine d44 ?_;refine d27 ?_;exact x.g):A:=h ⟨b⟩
theorem d88 (b:B) (h:Wr B→A:=by intro x;refine d12 ?_;refine d19 ?_;exact x.g):A:=h ⟨b⟩
theorem d89 (b:B) (h:Wr B→A:=by intro x;refine d23 ?_;refine d35 ?_;exact x.g):A:=h ⟨b⟩
theorem d90 (b:B) (h:Wr B→A:=by intro x;refine aq rfl ?_;refine run_no ?_;exact x.g):A:=h ⟨b⟩
theorem d91 (b:B) (h:Wr B→A:=by intro x;refine run_inBlock ?_;refine d84 ?_;exact x.g):A:=h ⟨b⟩
theorem d92 (b:B) (h:Wr B→A:=by intro x;refine run_seq ?_;refine run_seq ?_;exact x.g):A:=h ⟨b⟩
theorem d93 (b:B) (h:Wr B→A:=by intro x;refine d48 ?_;refine run_ret rfl ?_;exact x.g):A:=h ⟨b⟩
theorem d94 (b:B) (h:Wr B→A:=by intro x;refine d7 ?_;refine d46 ?_;exact x.g):A:=h ⟨b⟩
theorem d95 (b:B) (h:Wr B→A:=by intro x;refine d19 ?_;refine d0 ?_;exact x.g):A:=h ⟨b⟩
theorem d96 (b:B) (h:Wr B→A:=by intro x;refine rs3 ?_;refine k_ldA rfl zq ?_;exact x.g):A:=h ⟨b⟩
theorem d97 (b:B) (h:Wr B→A:=by intro x;refine d3 ?_;refine d3 ?_;exact x.g):A:=h ⟨b⟩
theorem d98 (b:B) (h:Wr B→A:=by intro x;refine i_pickT rfl zq ?_;refine d34 ?_;exact x.g):A:=h ⟨b⟩
theorem d99 (b:B) (h:Wr B→A:=by intro x;refine k_as rfl zq ?_;refine d12 ?_;exact x.g):A:=h ⟨b⟩
theorem d100 (b:B) (h:Wr B→A:=by intro x;refine k_put ?_;refine k_notF rfl rfl ?_;exact x.g):A:=h ⟨b⟩
theorem d101 (b:B) (h:Wr B→A:=by intro x;refine d43 ?_;refine i_off rfl rfl ?_;exact x.g):A:=h ⟨b⟩
theorem d102 (b:B) (h:Wr B→A:=by intro x;refine i_region_end ?_;refine i_end rfl ?_;exact x.g):A:=h ⟨b⟩
theorem d103 (b:B) (h:Wr B→A:=by intro x;refine run_skip ?_;refine run_block ?_;exact x.g):A:=h ⟨b⟩
theorem d104 (b:B) (h:Wr B→A:=by intro x;refine d86 ?_;refine d46 ?_;exact x.g):A:=h ⟨b⟩
theorem d105 (b:B) (h:Wr B→A:=by intro x;refine d24 ?_;refine d21 ?_;exact x.g):A:=h ⟨b⟩
theorem d106 (b:B) (h:Wr B→A:=by intro x;refine d2 ?_;refine k_len rfl zq ?_;exact x.g):A:=h ⟨b⟩
theorem d107 (b:B) (h:Wr B→A:=by intro x;refine d2 ?_;refine k_fun rfl zq ?_;exact x.g):A:=h ⟨b⟩
theorem d108 (b:B) (h:Wr B→A:=by intro x;refine d76 ?_;refine i_mv rfl zq ?_;exact x.g):A:=h ⟨b⟩
theorem d109 (b:B) (h:Wr B→A:=by intro x;refine k_pickF rfl zq ?_;refine d0 ?_;exact x.g):A:=h ⟨b⟩
theorem d110 (b:B) (h:Wr B→A:=by intro x;refine d62 ?_;refine d59 ?_;exact x.g):A:=h ⟨b⟩
theorem d111 (b:B) (h:Wr B→A:=by intro x;refine k_put ?_;refine d0 ?_;exact x.g):A:=h ⟨b⟩
theorem d112 (b:B) (h:Wr B→A:=by intro x;refine d68 ?_;refine d5 ?_;exact x.g):A:=h ⟨b⟩
theorem d113 (b:B) (h:Wr B→A:=by intro x;refine k_bld rfl zq ?_;refine mq rfl ?_;exact x.g):A:=h ⟨b⟩
theorem d114 (b:B) (h:Wr B→A:=by intro x;refine rs2 ?_;refine k_ldA rfl zq ?_;exact x.g):A:=h ⟨b⟩
theorem d115 (b:B) (h:Wr B→A:=by intro x;refine d112 ?_;refine d5 ?_;exact x.g):A:=h ⟨b⟩
theorem d116 (b:B) (h:Wr B→A:=by intro x;refine mq rfl ?_;refine k_ixa rfl zq (by omega) (by omega) ?_;exact x.g):A:=h ⟨b⟩
theorem d117 (b:B) (h:Wr B→A:=by intro x;refine k_eqlT rfl rfl (by decide) ?_;refine k_pickT rfl zq ?_;exact x.g):A:=h ⟨b⟩
theorem d118 (b:B) (h:Wr B→A:=by intro x;refine rs4 ?_;refine mq rfl ?_;exact x.g):A:=h ⟨b⟩
theorem d119 (b:B) (h:Wr B→A:=by intro x;refine mq rfl ?_;(first|refine k_fa0 rfl rfl ?_|refine k_fa rfl rfl ?_);exact x.g):A:=h ⟨b⟩
theorem d120 (b:B) (h:Wr B→A:=by intro x;refine d65 ?_;refine k_len rfl zq ?_;exact x.g):A:=h ⟨b⟩
theorem d121 (b:B) (h:Wr B→A:=by intro x;refine k_add rfl zq (by unfold In64;omega) ?_;refine d0 ?_;exact x.g):A:=h ⟨b⟩
theorem d122 (b:B) (h:Wr B→A:=by intro x;refine d3 ?_;refine d33 ?_;exact x.g):A:=h ⟨b⟩
theorem d123 (b:B) (h:Wr B→A:=by intro x;refine d51 ?_;refine d30 ?_;exact x.g):A:=h ⟨b⟩
theorem d124 (b:B) (h:Wr B→A:=by intro x;refine k_put ?_;refine k_nil ?_;exact x.g):A:=h ⟨b⟩
theorem d125 (b:B) (h:Wr B→A:=by intro x;refine d3 ?_;refine k_ixa rfl zq (by omega) (by omega) ?_;exact x.g):A:=h ⟨b⟩
theorem d126 (b:B) (h:Wr B→A:=by intro x;refine k_pickF rfl zq ?_;refine d13 ?_;exact x.g):A:=h ⟨b⟩
theorem d127 (b:B) (h:Wr B→A:=by intro x;refine d49 ?_;refine d9 ?_;exact x.g):A:=h ⟨b⟩
theorem d128 (b:B) (h:Wr B→A:=by intro x;refine d34 ?_;refine d1 ?_;exact x.g):A:=h ⟨b⟩
theorem d129 (b:B) (h:Wr B→A:=by intro x;refine k_put ?_;refine k_pickT rfl zq ?_;exact x.g):A:=h ⟨b⟩
theorem d130 (b:B) (h:Wr B→A:=by intro x;refine mq rfl ?_;refine k_ldA rfl rfl ?_;exact x.g):A:=h ⟨b⟩
theorem d131 (b:B) (h:Wr B→A:=by intro x;refine k_stA rfl zq rfl ?_;refine d24 ?_;exact x.g):A:=h ⟨b⟩
theorem d132 (b:B) (h:Wr B→A:=by intro x;refine d22 ?_;refine k_mv rfl rfl ?_;exact x.g):A:=h ⟨b⟩
theorem d133 (b:B) (h:Wr B→A:=by intro x;refine k_ldA rfl zq ?_;refine k_bld rfl zq ?_;exact x.g):A:=h ⟨b⟩
theorem d134 (b:B) (h:Wr B→A:=by intro x;refine d7 ?_;refine d87 ?_;exact x.g):A:=h ⟨b⟩
theorem d135 (b:B) (h:Wr B→A:=by intro x;refine rs1 ?_;refine d53 ?_;exact x.g):A:=h ⟨b⟩
theorem d136 (b:B) (h:Wr B→A:=by intro x;refine d70 ?_;refine d61 ?_;exact x.g):A:=h ⟨b⟩
theorem d137 (b:B) (h:Wr B→A:=by intro x;refine d78 ?_;refine d47 ?_;exact x.g):A:=h ⟨b⟩
theorem d138 (b:B) (h:Wr B→A:=by intro x;refine d66 ?_;refine d19 ?_;exact x.g):A:=h ⟨b⟩
theorem d139 (b:B) (h:Wr B→A:=by intro x;refine d2 ?_;refine k_ldA rfl zq ?_;exact x.g):A:=h ⟨b⟩
theorem d140 (b:B) (h:Wr B→A:=by intro x;refine rs5 ?_;refine mq rfl ?_;exact x.g):A:=h ⟨b⟩
theorem d141 (b:B) (h:Wr B→A:=by intro x;refine d9 ?_;refine i_ret rfl ?_;exact x.g):A:=h ⟨b⟩
theorem d142 (b:B) (h:Wr B→A:=by intro x;refine k_pickT rfl zq ?_;refine d58 ?_;exact x.g):A:=h ⟨b⟩
theorem d143 (b:B) (h:Wr B→A:=by intro x;refine d6 ?_;refine run_inBlock ?_;exact x.g):A:=h ⟨b⟩
theorem d144 (b:B) (h:Wr B→A:=by intro x;refine d25 ?_;refine k_sub rfl rfl (by unfold In64;omega) ?_;exact x.g):A:=h ⟨b⟩
theorem d145 (b:B) (h:Wr B→A:=by intro x;refine d50 ?_;refine k_nil ?_;exact x.g):A:=h ⟨b⟩
theorem d146 (b:B) (h:Wr B→A:=by intro x;refine d56 ?_;refine d37 ?_;exact x.g):A:=h ⟨b⟩
theorem d147 (b:B) (h:Wr B→A:=by intro x;refine rs2 ?_;refine d27 ?_;exact x.g):A:=h ⟨b⟩
theorem d148 (b:B) (h:Wr B→A:=by intro x;refine d43 ?_;refine d16 ?_;exact x.g):A:=h ⟨b⟩
theorem d149 (b:B) (h:Wr B→A:=by intro x;refine d28 ?_;refine k_len rfl zq ?_;exact x.g):A:=h ⟨b⟩
theorem d150 (b:B) (h:Wr B→A:=by intro x;refine rs8 ?_;refine k_ldA rfl zq ?_;exact x.g):A:=h ⟨b⟩
end
end Go.Lo
namespace Go.Proofs
open Go.Lo
open Go.Conc (G)
set_option maxRecDepth 100000
set_option synthInstance.maxSize 100000
set_option synthInstance.maxHeartbeats 1000000
set_option maxHeartbeats 4000000
variable {B:Array Obj}
theorem f50_c (m:Md Tryz.prog B) (h:Hp) (x lo hi:Int):FnC m 50 #[.int .i64 x,.int .i64 lo,.int .i64 hi] h fun v h'=>h'=h∧IsB (lo≤x∧x≤hi) v:=by
 refine fn_enter Tryz.func50 rfl rfl (l:=(.int .i64 x)::(.int .i64 lo)::(.int .i64 hi)::uu12) rfl ?_
 intro cf cs K hK
 refine d83 ?_;refine rs9 ?_;refine d3 ?_
 refine k_leqS rfl zq (fun hc=>?_) (fun hc=>?_)
 ·refine d23 ?_;refine k_mv rfl rfl ?_
  refine k_leqS rfl rfl (fun hc=>?_) (fun hc=>?_)
  ·refine d82 ?_
   refine run_res (h) rfl Tryz.func50 rfl weakSub ?_;refine hK _ _ ?_;first|exact ⟨rfl,IsB.yes (by omega)⟩|exact ⟨rfl,IsB.no (by omega)⟩
  ·refine d82 ?_
   refine run_res (h) rfl Tryz.func50 rfl weakSub ?_;refine hK _ _ ?_;first|exact ⟨rfl,IsB.yes (by omega)⟩|exact ⟨rfl,IsB.no (by omega)⟩
 ·refine d52 ?_;refine d63 ?_;refine d0 ?_
  refine run_res (h) rfl Tryz.func50 rfl weakSub ?_;refine hK _ _ ?_;first|exact ⟨rfl,IsB.yes (by omega)⟩|exact ⟨rfl,IsB.no (by omega)⟩
theorem f113_c (m:Md Tryz.prog B) (h:Hp) (a b lo hi:Int):FnC m 113 #[.agg [.int .i64 a,.int .i64 b].toArray,.int .i64 lo,.int .i64 hi] h fun v h'=>h'=h∧IsB (lo≤a∧a≤b∧b≤hi) v:=by
 refine fn_enter Tryz.func113 rfl rfl (l:=(.agg [.int .i64 a,.int .i64 b].toArray)::(.int .i64 lo)::(.int .i64 hi)::uu21) rfl ?_
 intro cf cs K hK
 refine rs2 ?_;refine k_box rfl zq (fun q3=>k_hp (k_put ?_));refine d12 ?_
 refine run_region [(0,.free),(1,.free),(2,.free),(3,.free),(4,.free),(5,.free),(6,.free),(7,.free),(8,.free),(9,.free),(10,.free),(11,.free),(12,.free),(13,.free),(14,.free),(15,.free),(16,.free),(17,.free)] (by kernel_rfl) (by kernel_rfl) ?_;refine mq rfl ?_;refine d2 ?_
 refine k_leqS rfl zq (fun hc=>?_) (fun hc=>?_)
 ·refine mq rfl ?_;refine d25 ?_;refine d25 ?_
  refine k_leqS rfl rfl (fun hc=>?_) (fun hc=>?_)
  ·refine k_pickT rfl zq ?_;refine mq rfl ?_;refine d25 ?_;refine k_mv rfl rfl ?_;refine k_leqS rfl rfl (fun hc=>?_) (fun hc=>?_)
   ·refine d82 ?_
    refine run_res (h) rfl Tryz.func113 rfl weakSub ?_;refine hK _ _ ?_;first|exact ⟨rfl,IsB.yes (by omega)⟩|exact ⟨rfl,IsB.no (by omega)⟩
   ·refine d82 ?_
    refine run_res (h) rfl Tryz.func113 rfl weakSub ?_;refine hK _ _ ?_;first|exact ⟨rfl,IsB.yes (by omega)⟩|exact ⟨rfl,IsB.no (by omega)⟩
  ·refine k_pickT rfl zq ?_;refine d68 ?_;refine d109 ?_;refine run_res (h) rfl Tryz.func113 rfl weakSub ?_;refine hK _ _ ?_;first|exact ⟨rfl,IsB.yes (by omega)⟩|exact ⟨rfl,IsB.no (by omega)⟩
 ·refine d68 ?_;refine d63 ?_;refine d68 ?_;refine d109 ?_
  refine run_res (h) rfl Tryz.func113 rfl weakSub ?_;refine hK _ _ ?_;first|exact ⟨rfl,IsB.yes (by omega)⟩|exact ⟨rfl,IsB.no (by omega)⟩
theorem ext_getD {xs ys:List Int} (hl:xs.length=ys.length) (he: ∀i,i<xs.length→xs.getD i 0=ys.getD i 0):xs=ys:=by
 apply List.ext_getElem hl
 intro i h1 h2
 have:=he i h1
 rw [List.getD_eq_getElem?_getD,List.getElem?_eq_getElem h1,List.getD_eq_getElem?_getD,List.getElem?_eq_getElem h2] at this
 exact this
theorem mem_getD {xs:List Int} {x:Int}:x∈xs↔ ∃i,i<xs.length∧xs.getD i 0=x:=by
 rw [List.mem_iff_getElem];constructor
 ·rintro ⟨i,h,e⟩;exact ⟨i,h,by rw [List.getD_eq_getElem?_getD,List.getElem?_eq_getElem h];exact e⟩
 ·rintro ⟨i,h,e⟩;exact ⟨i,h,by rw [List.getD_eq_getElem?_getD,List.getElem?_eq_getElem h] at e;exact e⟩
def before:List Int→List Int→Bool
 |a::r,b::s=>if a=b then before r s else decide (a<b)
 |[],_::_=>true
 |_,[]=>false
def fewer (xs ys:List Int):Prop:=xs.length<ys.length∨(xs.length=ys.length∧before xs ys=true)
def firsts (n:Nat):List Int:=(List.range n).map fun i:Nat=>(i:Int)
theorem firsts_succ (n:Nat):firsts (n+1)=firsts n++[(n:Int)]:=by simp [firsts,List.range_succ]
theorem f100_c (m:Md Tryz.prog B) (h:Hp) {p p2:Option Addr} {n c n2 c2:Nat} {xs ys:List Int} (rd:RdS B h 1 (.slice p n c) n (ints xs)) (hn:n≤1000000) (rd2:RdS B h 1 (.slice p2 n2 c2) n2 (ints ys)):FnC m 100 #[.slice p n c,.slice p2 n2 c2] h fun v h'=>h'=h∧IsB (xs=ys) v:=by
 have hl:=rd.ilen
 have hl2:=rd2.ilen
 refine fn_enter Tryz.func100 rfl rfl (l:=(.slice p n c)::(.slice p2 n2 c2)::uu24) rfl ?_
 intro cf cs K hK
 refine d69 ?_;refine d140 ?_;refine d70 ?_;refine k_len rfl zq ?_
 refine k_neqS rfl zq (fun hc=>?_) (fun hc=>?_)
 ·refine d58 ?_
  refine run_res (h) rfl Tryz.func100 rfl weakSub ?_;refine hK _ _ ?_;exact ⟨rfl,IsB.no fun e=>by subst e;omega⟩
 ·refine d38 ?_;refine d135 ?_
  refine run_loop (fun nn l h'=> ∃(k:Nat),nn=n-k∧(k≤n)∧(∀i,i<k→xs.getD i 0=ys.getD i 0)∧(∃U:Nat→Value,l=((.slice p n c)::(.slice p2 n2 c2)::(U 2)::(U 3)::(U 4)::(.int .i64 (k:Int))::vw20 U 6 []))∧h=h') _ ⟨0,rfl,by omega,by omega,exU rfl,rfl⟩ ?_;rintro nn l h' ⟨k,rfl,hk,he,⟨U,rfl⟩,rfl⟩ hnext;refine run_seq ?_;refine d120 ?_;refine k_lssS rfl zq (fun hc=>?_) (fun hc=>?_)
  ·refine d94 ?_;refine run_seq ?_
   refine run_draw [(0,.pure),(1,.pure),(2,.pure),(4,.pure),(5,.pure),(6,.pure),(3,.read),(7,.read),(8,.pure)] (by kernel_rfl) (by kernel_rfl) (List.Sublist.refl _) ?_;refine d3 ?_
   obtain ⟨rd_b,rd_o,rfl⟩:=rd.ptr (by omega)
   refine k_ixs rfl zq (by first|rfl|assumption) (by omega) (by omega) ?_;refine d3 ?_;obtain ⟨rd2_b,rd2_o,rfl⟩:=rd2.ptr (by omega)
   refine k_ixs rfl zq (by first|rfl|assumption) (by omega) (by omega) ?_;refine k_ld rfl zq (rd.iat k (by omega) (by omega)) ?_;refine k_ld rfl zq (rd2.iat k (by omega) (by omega)) ?_;refine k_neqS rfl zq (fun hc=>?_) (fun hc=>?_)
   ·refine d58 ?_
    refine run_res (h) rfl Tryz.func100 rfl weakSub ?_;refine hK _ _ ?_;exact ⟨rfl,IsB.no fun e=>by subst e;contradiction⟩
   ·refine d13 ?_;refine d110 ?_
    exact m.weak weakSub (hnext _ _ _ (by omega) ⟨k+1,rfl,by omega,fun i hi=>by
     rcases Nat.lt_or_ge i k with h1|h1
     ·exact he i h1
     ·obtain rfl:i=k:=by omega
      assumption,exU rfl,rfl⟩)
  ·refine d67 ?_;refine d37 ?_
   refine run_res (h) rfl Tryz.func100 rfl weakSub ?_;refine hK _ _ ?_;exact ⟨rfl,IsB.yes (ext_getD (by omega) fun i hi=>he i (by omega))⟩
def mostL (l:List Int):Int:=l.foldl max 0
def spanL (x:Sp):List Int:=(List.range (x.hi-x.lo+1).toNat).map fun i:Nat=>x.lo+(i:Int)
def ext1 (l:List Int) (ns:List Int):List (List Int):=ns.map fun n=>l++[n]
def extL (all:List (List Int)) (x:Sp):List (List Int):=all.flatMap fun l=>ext1 l (spanL x)
def Asc (ys:List Int):Prop:=ys.Pairwise (· < ·)
theorem Asc.eq: ∀{xs ys:List Int},Asc xs→Asc ys→(∀z,z∈xs↔z∈ys)→xs=ys
 |[],[],_,_,_=>rfl
 |[],b::s,_,_,h=>by have:=(h b).2 (by simp);simp at this
 |a::r,[],_,_,h=>by have:=(h a).1 (by simp);simp at this
 |a::r,b::s,h1,h2,h=>by
  unfold Asc at h1 h2
  rw [List.pairwise_cons] at h1 h2
  have hab:a=b:=by
   rcases List.mem_cons.1 ((h a).1 (by simp)) with e|e
   ·exact e
   ·rcases List.mem_cons.1 ((h b).2 (by simp)) with e'|e'
    ·exact e'.symm
    ·have:=h1.1 b e';have:=h2.1 a e;omega
  subst hab
  have:r=s:=Asc.eq h1.2 h2.2 fun z=>by
   constructor
   ·intro hz
    rcases List.mem_cons.1 ((h z).1 (List.mem_cons_of_mem _ hz)) with e|e
    ·have:=h1.1 z hz;omega
    ·exact e
   ·intro hz
    rcases List.mem_cons.1 ((h z).2 (List.mem_cons_of_mem _ hz)) with e|e
    ·have:=h2.1 z hz;omega
    ·exact e
  rw [this]
theorem OwnS.full {t k q n:Nat} {cs:List Value} (hl:cs.length=n*k):OwnS t k (.slice (some ⟨q,0,none⟩) n n) n cs [⟨true,q,.cells cs.toArray t (0,0)⟩]:=by
 have:=OwnS.blk (t:=t) (k:=k) (b:=q) (n:=n) (cap:=n) (cs:=cs) (junk:=[]) hl (by simpa using hl) (Nat.le_refl _)
 simpa using this
def RdI (B:Array Obj) (h:Hp) (w:Value) (xs:List Int):Prop:= ∃p c,w= .slice p xs.length c∧RdS B h 1 (.slice p xs.length c) xs.length (ints xs)
theorem RdI.nil {h:Hp}:RdI B h (.slice none 0 0) []:=⟨none,0,rfl,none,0,rfl,rfl,.inl ⟨rfl,rfl⟩⟩
theorem OwnS.rdI {t:Nat} {w:Value} {n:Nat} {xs:List Int} {new:Hp} (o:OwnS t 1 w n (ints xs) new):RdI B new w xs:=by
 obtain ⟨p,c,rfl,hl⟩:=o.len
 obtain rfl:n=xs.length:=by simpa using hl.symm
 exact ⟨p,c,rfl,o.rd'⟩
def countAt (ll:List (List Int)) (s:Nat) (x:Int):Nat:=(ll.filter fun l=>decide (l.getD s 0=x)).length
theorem countAt_yes (ll:List (List Int)) (s:Nat) (x:Int) (k:Nat) (h:k<ll.length) (hp:(ll.getD k []).getD s 0=x):countAt (ll.take (k+1)) s x=countAt (ll.take k) s x+1:=by
 rw [take_snocL ll k h,countAt,List.filter_append,List.filter_cons,if_pos (decide_eq_true hp),List.length_append];rfl
theorem countAt_no (ll:List (List Int)) (s:Nat) (x:Int) (k:Nat) (h:k<ll.length) (hp:(ll.getD k []).getD s 0≠x):countAt (ll.take (k+1)) s x=countAt (ll.take k) s x:=by
 rw [take_snocL ll k h,countAt,List.filter_append,List.filter_cons,if_neg (by rw [decide_eq_true_iff];exact hp),List.filter_nil,List.append_nil];rfl
def lefts (ll:List (List Int)) (s:Nat):List Int:=ll.map fun l=>(countAt ll s (l.getD s 0):Int)
def leftOf (ll:List (List Int)) (s:Nat):Int:=mostL (lefts ll s)
theorem f153_c (m:Md Tryz.prog B) (h:Hp) {p:Option Addr} {n c:Nat} {xs:List Int} (rd:RdS B h 1 (.slice p n c) n (ints xs)) (hn:n≤100000) {fid:Nat} {fc cp:Array Value} {pr:Nat→Prop} (hcall:callB Tryz.prog fid=true) (hf: ∀i,i<n→ ∀H':Hp,h.Sublist H'→FnC m fid (fc++[Value.int .i64 (xs.getD i 0)].toArray++cp) H' fun v h'=>h'=H'∧IsB (pr i) v):FnC m 153 #[.slice p n c,.func (.func fid) fc cp] h fun v h'=>h'=h∧ ∃j:Int,v= .int .i64 j∧(0≤j↔ ∃i,i<n∧pr i):=by
 refine fn_enter Tryz.func153 rfl rfl (l:=(.slice p n c)::(.func (.func fid) fc cp)::uu17) rfl ?_
 intro cf cs K hK
 refine d69 ?_;refine d44 ?_;refine d136 ?_
 refine run_loop (fun nn l h'=> ∃(k:Nat),nn=n-k∧(k≤n)∧(∀i,i<k→ ¬pr i)∧(∃U:Nat→Value,l=((.slice p n c)::(.func (.func fid) fc cp)::vw5 U 2 ((.int .i64 (n:Int))::(.int .i64 (k:Int))::vw10 U 9 [])))∧h=h') _ ⟨0,rfl,by omega,fun i hi=>by omega,exU rfl,rfl⟩ ?_;rintro nn l h' ⟨k,rfl,hk,he,⟨U,rfl⟩,rfl⟩ hnext;refine rs1 ?_;refine k_lssS rfl zq (fun hc=>?_) (fun hc=>?_)
 ·refine d104 ?_;refine d19 ?_;refine aq rfl ?_;refine rs6 ?_;refine d3 ?_;refine mq rfl ?_
  obtain ⟨rd_b,rd_o,rfl⟩:=rd.ptr (by omega)
  refine k_ixs rfl zq (by first|rfl|assumption) (by omega) (by omega) ?_;refine k_ld rfl zq (rd.iat k (by omega) (by omega)) ?_;refine k_valP (Post:=fun v=>IsB _ v) rfl zq hcall (fun H' hH=>hf k (by omega) H' hH) ?_;rintro v (⟨hc,rfl⟩|⟨hc,rfl⟩)
  ·refine k_put ?_;refine d7 ?_;refine d95 ?_;refine run_res (h) rfl Tryz.func153 rfl weakSub ?_;refine hK _ _ ?_;first
    |exact ⟨rfl,_,rfl,fun _=>⟨k,by omega,hc⟩,fun _=>by omega⟩
    |(refine ⟨rfl,_,rfl,fun e=>absurd e (by decide),?_⟩;rintro ⟨i,h1,h2⟩;exact absurd h2 (he i (by omega)))
  ·refine k_put ?_;refine d13 ?_;refine d91 ?_;exact m.weak weakSub (hnext _ _ _ (by omega) ⟨k+1,rfl,by omega,fun i hi=>by
    rcases Nat.lt_or_ge i k with h1|h1
    ·exact he i h1
    ·obtain rfl:i=k:=by omega
     exact hc,exU rfl,rfl⟩)
 ·refine d105 ?_;refine d37 ?_
  refine run_res (h) rfl Tryz.func153 rfl weakSub ?_;refine hK _ _ ?_;first
   |exact ⟨rfl,_,rfl,fun _=>⟨k,by omega,hc⟩,fun _=>by omega⟩
   |(refine ⟨rfl,_,rfl,fun e=>absurd e (by decide),?_⟩;rintro ⟨i,h1,h2⟩;exact absurd h2 (he i (by omega)))
theorem f101_c (m:Md Tryz.prog B) (h:Hp) {p:Option Addr} {n c:Nat} {xs:List Int} (rd:RdS B h 1 (.slice p n c) n (ints xs)) (hn:n≤100000) {fid:Nat} {fc cp:Array Value} {pr:Nat→Prop} (hcall:callB Tryz.prog fid=true) (hf: ∀i,i<n→ ∀H':Hp,h.Sublist H'→FnC m fid (fc++[Value.int .i64 (xs.getD i 0)].toArray++cp) H' fun v h'=>h'=H'∧IsB (pr i) v):FnC m 101 #[.slice p n c,.func (.func fid) fc cp] h fun v h'=>h'=h∧IsB (∃i,i<n∧pr i) v:=by
 refine fn_enter Tryz.func101 rfl rfl (l:=(.slice p n c)::(.func (.func fid) fc cp)::uu7) rfl ?_
 intro cf cs K hK
 refine d83 ?_;refine rs5 ?_;refine d3 ?_
 refine k_calP (Post:=fun v=> ∃j:Int,v= .int .i64 j∧(0≤j↔ ∃i,i<n∧pr i)) rfl zq (by kernel_rfl) (fun H' hH=>f153_c m H' (rd.keeps (sq hH)) hn hcall (fun i hi K hK=>hf i hi K (SubH.sub.trans (hH.trans hK)))) ?_;rintro v ⟨j,rfl,hj⟩;refine k_put ?_;refine k_geqS rfl zq (fun hc=>?_) (fun hc=>?_)
 ·refine d0 ?_
  refine run_res (h) rfl Tryz.func101 rfl weakSub ?_;refine hK _ _ ?_;first|exact ⟨rfl,IsB.yes (hj.1 (by assumption))⟩|exact ⟨rfl,IsB.no (fun e=>absurd (hj.2 e) (by omega))⟩
 ·refine d0 ?_
  refine run_res (h) rfl Tryz.func101 rfl weakSub ?_;refine hK _ _ ?_;first|exact ⟨rfl,IsB.yes (hj.1 (by assumption))⟩|exact ⟨rfl,IsB.no (fun e=>absurd (hj.2 e) (by omega))⟩
theorem take_set {ln:List Int} {i:Nat} {n:Int} (h:i<ln.length):(ln.set i n).take (i+1)=ln.take i++[n]:=by
 rw [List.take_succ_eq_append_getElem (by simpa using h)];simp [List.take_set_of_le]
theorem f183_c (m:Md Tryz.prog B) (h:Hp) (x:Int):FnC m 183 #[.int .i64 x] h fun v h'=>h'=h∧v= .bool false:=by
 refine fn_enter Tryz.func183 rfl rfl (l:=[.int .i64 x,undef,undef,undef,undef,undef]) rfl ?_
 intro cf cs K hK
 refine d83 ?_;refine d65 ?_;refine k_neq rfl zq ?_;refine d0 ?_
 refine run_res (h) rfl Tryz.func183 rfl weakSub ?_;refine hK _ _ ?_;exact ⟨rfl,by simp⟩
theorem f166_c (m:Md Tryz.prog B) (h:Hp) (x y:Int):FnC m 166 #[.int .i64 x,.int .i64 y] h fun v h'=>h'=h∧IsB (x<y) v:=by
 refine fn_enter Tryz.func166 rfl rfl (l:=(.int .i64 x)::(.int .i64 y)::uu15) rfl ?_
 intro cf cs K hK
 refine d69 ?_
 refine run_region [(0,.free),(1,.free),(2,.free),(3,.free),(4,.free),(5,.free),(6,.free),(7,.free),(8,.free),(9,.free),(10,.free),(11,.free),(12,.free)] (by kernel_rfl) (by kernel_rfl) ?_;refine mq rfl ?_
 refine k_calP (Post:=fun v=>v=_) rfl zq (by kernel_rfl) (fun H' hH=>f183_c m H' _) ?_;rintro v rfl;refine k_put ?_;refine d52 ?_;refine d63 ?_;refine d23 ?_;refine k_mv rfl rfl ?_;refine k_lssS rfl rfl (fun hc=>?_) (fun hc=>?_)
 ·refine d109 ?_
  refine run_res (h) rfl Tryz.func166 rfl weakSub ?_;refine hK _ _ ?_;first|exact ⟨rfl,IsB.yes (by assumption)⟩|exact ⟨rfl,IsB.no (by omega)⟩
 ·refine d109 ?_
  refine run_res (h) rfl Tryz.func166 rfl weakSub ?_;refine hK _ _ ?_;first|exact ⟨rfl,IsB.yes (by assumption)⟩|exact ⟨rfl,IsB.no (by omega)⟩
def Ins (ys:List Int) (a i j:Nat):Prop:=(∀p q,a≤p→p<q→q≤i→p≠j→q≠j→ys.getD p 0≤ys.getD q 0)∧(∀q,j<q→q≤i→ys.getD j 0≤ys.getD q 0)
theorem Ins.start {ys:List Int} {a i:Nat} (h:SortR ys a i):Ins ys a i i:=⟨fun p q h1 h2 h3 h4 h5=>h p q h1 h2 (by omega),fun q h1 h2=>by omega⟩
theorem Ins.stop {ys:List Int} {a i j:Nat} (h:Ins ys a i j) (hj:j=a∨(a<j∧ys.getD (j-1) 0≤ys.getD j 0)) (haj:a≤j) (hji:j≤i):SortR ys a (i+1):=fun p q h1 h2 h3=>by
 by_cases e1:p=j
 ·subst e1
  exact h.2 q h2 (by omega)
 ·by_cases e2:q=j
  ·subst e2
   rcases hj with hj|⟨hj,hle⟩
   ·omega
   ·by_cases e3:p=q-1
    ·subst e3
     exact hle
    ·have:=h.1 p (q-1) h1 (by omega) (by omega) e1 (by omega)
     omega
  ·exact h.1 p q h1 h2 (by omega) e1 e2
theorem Ins.step {ys:List Int} {a i j:Nat} (h:Ins ys a i j) (haj:a<j) (hji:j≤i) (hi:i<ys.length) (hlt:ys.getD j 0<ys.getD (j-1) 0):Ins (swapL ys j (j-1)) a i (j-1):=by
 have g: ∀k,(swapL ys j (j-1)).getD k 0=if k=j-1 then ys.getD j 0 else if k=j then ys.getD (j-1) 0 else ys.getD k 0:=fun k=>swapL_getD (by omega) (by omega)
 refine ⟨fun p q h1 h2 h3 h4 h5=>?_,fun q h1 h2=>?_⟩
 ·rw [g,g,if_neg h4,if_neg h5];by_cases e1:p=j
  ·subst e1
   rw [if_pos rfl,if_neg (by omega)];exact h.1 (p-1) q (by omega) (by omega) h3 (by omega) (by omega)
  ·rw [if_neg e1];by_cases e2:q=j
   ·subst e2
    rw [if_pos rfl];exact h.1 p (q-1) h1 (by omega) (by omega) e1 (by omega)
   ·rw [if_neg e2];exact h.1 p q h1 h2 h3 e1 e2
 ·rw [g,g,if_pos rfl,if_neg (by omega)];by_cases e2:q=j
  ·subst e2
   rw [if_pos rfl];omega
  ·rw [if_neg e2];exact h.2 q (by omega) h2
theorem swapL_at {ys:List Int} {i j:Nat}:(ys.set i (ys.getD j 0)).set j (ys.getD i 0)=swapL ys i j:=rfl
theorem f160_c (m:Md Tryz.prog B) (h:Hp) {bk n c:Nat} {xs:List Int} {junk:List Value} (hl:xs.length=n) (hn:n≤100000) (a b:Nat) (hab:a≤b) (hb:b≤n):FnC m 160 #[.slice (some ⟨bk,0,none⟩) n c,.int .i64 (a:Int),.int .i64 (b:Int)] (h++[blkC bk xs junk]) fun v h'=>v= .tuple [].toArray∧ ∃ys,h'=h++[blkC bk ys junk]∧Sw a b xs ys∧SortR ys a b:=by
 refine fn_enter Tryz.func160 rfl rfl (l:=(.slice (some ⟨bk,0,none⟩) n c)::(.int .i64 (a:Int))::(.int .i64 (b:Int))::uu46) rfl ?_
 intro cf cs K hK
 refine rs3 ?_;refine d4 ?_;refine d53 ?_;refine run_loop (fun nn l h'=> ∃(i:Nat) (ys:List Int),nn=b-i∧(a+1≤i)∧(i≤max (a+1) b)∧(Sw a b xs ys)∧(SortR ys a i)∧(∃U:Nat→Value,l=((.slice (some ⟨bk,0,none⟩) n c)::(.int .i64 (a:Int))::(.int .i64 (b:Int))::(U 3)::(U 4)::(U 5)::(.int .i64 (i:Int))::vw42 U 7 []))∧h++[blkC bk ys junk]=h') _ ⟨a+1,xs,rfl,by omega,by omega,.refl _,fun p q h1 h2 h3=>by omega,exU rfl,rfl⟩ ?_;rintro nn l h' ⟨i,ys,rfl,hi1,hi2,hsw,hso,⟨U,rfl⟩,rfl⟩ hnext1;have hyl:=hsw.length
 refine run_seq ?_;refine rs3 ?_;refine d3 ?_;refine k_lssS rfl zq (fun hc=>?_) (fun hc=>?_)
 ·refine d94 ?_;refine d19 ?_;refine d53 ?_
  refine run_loop (fun nn l h'=> ∃(j:Nat) (zs:List Int),nn=j+1∧(a≤j)∧(j≤i)∧(Sw a b xs zs)∧(Ins zs a i j)∧(∃U:Nat→Value,l=((.slice (some ⟨bk,0,none⟩) n c)::(.int .i64 (a:Int))::(.int .i64 (b:Int))::(U 3)::(U 4)::(U 5)::(.int .i64 (i:Int))::(.int .i64 (j:Int))::vw41 U 8 []))∧h++[blkC bk zs junk]=h') _ ⟨i,ys,rfl,by omega,by omega,hsw,Ins.start hso,exU rfl,rfl⟩ ?_;rintro nn l h' ⟨j,zs,rfl,hj1,hj2,hzw,hin,⟨U,rfl⟩,rfl⟩ hnext2;have hzl:=hzw.length
  refine d92 ?_
  refine run_draw [(0,.pure),(1,.pure),(2,.pure),(3,.pure),(4,.pure),(5,.pure),(6,.pure),(8,.pure),(9,.pure),(10,.pure),(11,.pure),(7,.read),(12,.read),(13,.keep),(14,.pure)] (by kernel_rfl) (by kernel_rfl) (List.Sublist.refl _) ?_;refine d3 ?_
  refine k_gtrS rfl zq (fun hc=>?_) (fun hc=>?_)
  ·refine d23 ?_;refine d132 ?_;refine k_mv rfl rfl ?_;refine d80 ?_
   refine k_ld rfl rfl (rd_blkI j rfl (by omega)) ?_;refine k_ld rfl rfl (rd_blkI (j-1) (by omega) (by omega)) ?_;refine k_calP (Post:=fun v=>IsB _ v) rfl rfl (by kernel_rfl) (fun H' hH=>f166_c m H' _ _) ?_;rintro v (⟨hc,rfl⟩|⟨hc,rfl⟩)
   ·refine d129 ?_;refine d94 ?_
    refine run_draw [(0,.pure),(1,.pure),(2,.pure),(3,.pure),(4,.pure),(5,.pure),(6,.pure),(7,.pure),(8,.pure),(10,.pure),(11,.pure),(12,.pure),(9,.read),(13,.read),(14,.pure),(15,.free),(16,.pure),(17,.free)] (by kernel_rfl) (by kernel_rfl) (List.Sublist.refl _) ?_;refine d3 ?_;refine d26 ?_;refine d55 ?_;refine d11 ?_
    refine k_ld rfl zq (rd_blkI (j-1) (by omega) (by omega)) ?_;refine k_ld rfl zq (rd_blkI j rfl (by omega)) ?_;refine k_ixs rfl zq (by first|rfl|assumption) (by omega) (by omega) ?_;haveI hs1:=setSeg_ints (xs:=zs) (junk:=junk) (v:=zs.getD (j-1) 0) (i:=(j:Int)) (k:=j) rfl (by omega)
    refine d20 ?_
    haveI hs2:=setSeg_ints (xs:=zs.set j (zs.getD (j-1) 0)) (junk:=junk) (v:=zs.getD j 0) (i:=(j:Int)-1) (k:=j-1) (by omega) (by simp;omega)
    refine k_st1 rfl zq ?_;rw [swapL_at];refine k_nil ?_;refine d62 ?_;refine d36 ?_;refine aq rfl ?_;have ej:(j:Int)-1=((j-1:Nat):Int):=by omega
    rw [ej];exact m.weak weakSub (hnext2 _ _ _ (by omega) ⟨j-1,swapL zs j (j-1),rfl,by omega,by omega,.step j (j-1) ⟨by omega,by omega⟩ ⟨by omega,by omega⟩ hzw,hin.step (by omega) (by omega) (by omega) (by omega),exU rfl,rfl⟩)
   ·refine d129 ?_;refine d67 ?_;refine d110 ?_
    exact m.weak weakSub (hnext1 _ _ _ (by omega) ⟨i+1,zs,rfl,by omega,by omega,hzw,hin.stop (by omega) (by omega) (by omega),exU rfl,rfl⟩)
  ·refine d115 ?_;refine d5 ?_;refine k_pickF rfl zq ?_;refine d67 ?_;refine d110 ?_
   exact m.weak weakSub (hnext1 _ _ _ (by omega) ⟨i+1,zs,rfl,by omega,by omega,hzw,hin.stop (by omega) (by omega) (by omega),exU rfl,rfl⟩)
 ·refine d67 ?_;refine run_end rfl ?_
  refine run_res (h++[blkC bk ys junk]) rfl Tryz.func160 rfl weakSub ?_;refine hK _ _ ?_;refine ⟨rfl,ys,rfl,hsw,fun p q h1 h2 h3=>?_⟩
  by_cases e:a<b
  ·exact hso p q h1 h2 (by omega)
  ·omega
theorem f170_c (m:Md Tryz.prog B) (h:Hp) (x:Int) (hx:0≤x∧x<65536):FnC m 170 #[.int .u64 x] h fun v h'=>h'=h∧ ∃k:Int,v= .int .i64 k∧0≤k∧k≤1000:=by
 refine fn_enter Tryz.func170 rfl rfl (l:=(.int .u64 x)::uu24) rfl ?_
 intro cf cs K hK
 refine d69 ?_;refine d19 ?_
 refine k_geqS rfl zq (fun hc=>?_) (fun hc=>?_)
 ·exfalso
  omega
 ·refine d38 ?_;refine d19 ?_
  refine k_geqS rfl zq (fun hc=>?_) (fun hc=>?_)
  ·exfalso
   omega
  ·refine d38 ?_;refine d19 ?_
   refine k_geqS rfl zq (fun hc=>?_) (fun hc=>?_)
   ·refine d7 ?_;refine d44 ?_
    have hq:x.fdiv (2^(min (8:Int).toNat IntKind.u64.bits))=x/256:=by
     rw [Int.fdiv_eq_ediv_of_nonneg _ (by decide)];rfl
    refine k_shr (x/256) rfl zq (by decide) hq ?_;refine aq rfl ?_;refine rr3 ?_;refine d59 ?_;refine rs7 ?_;refine d3 ?_
    first
     |refine k_conv rfl zq (by kernel_rfl) (n':=x) (by unfold IntKind.wrap;simp [IntKind.bits,IntKind.signed];omega) ?_
     |refine k_conv rfl zq (by kernel_rfl) (n':=x/256) (by unfold IntKind.wrap;simp [IntKind.bits,IntKind.signed];omega) ?_
    refine k_ixS (n:=256) rfl zq (by kernel_rfl) (by kernel_rfl) (by omega) (by omega) (fun b8=>k_put ?_);have hb8:=b8.toNat_lt
    refine k_conv rfl zq (by kernel_rfl) (n':=(b8.toNat:Int)) (by unfold IntKind.wrap;simp [IntKind.bits,IntKind.signed];omega) ?_;refine d121 ?_
    refine run_res (h) rfl Tryz.func170 rfl weakSub ?_;refine hK _ _ ?_;exact ⟨rfl,_,rfl,by omega,by omega⟩
   ·refine d13 ?_;refine rs7 ?_;refine d3 ?_
    first
     |refine k_conv rfl zq (by kernel_rfl) (n':=x) (by unfold IntKind.wrap;simp [IntKind.bits,IntKind.signed];omega) ?_
     |refine k_conv rfl zq (by kernel_rfl) (n':=x/256) (by unfold IntKind.wrap;simp [IntKind.bits,IntKind.signed];omega) ?_
    refine k_ixS (n:=256) rfl zq (by kernel_rfl) (by kernel_rfl) (by omega) (by omega) (fun b8=>k_put ?_);have hb8:=b8.toNat_lt
    refine k_conv rfl zq (by kernel_rfl) (n':=(b8.toNat:Int)) (by unfold IntKind.wrap;simp [IntKind.bits,IntKind.signed];omega) ?_;refine d121 ?_
    refine run_res (h) rfl Tryz.func170 rfl weakSub ?_;refine hK _ _ ?_;exact ⟨rfl,_,rfl,by omega,by omega⟩
theorem f124_c (m:Md Tryz.prog B) (h:Hp) (x:Int) (hx:0≤x∧x<65536):FnC m 124 #[.int .u64 x] h fun v h'=>h'=h∧ ∃k:Int,v= .int .i64 k∧0≤k∧k≤1000:=by
 refine fn_enter Tryz.func124 rfl rfl (l:=(.int .u64 x)::uu7) rfl ?_
 intro cf cs K hK
 refine d69 ?_;refine d6 ?_;refine d44 ?_
 refine k_calP rfl zq (by kernel_rfl) (fun H' hH=>f170_c m H' _ hx) ?_;rintro v ⟨k,rfl,hk0,hk1⟩;refine d111 ?_
 refine run_res (h) rfl Tryz.func124 rfl weakSub ?_;refine hK _ _ ?_;exact ⟨rfl,_,rfl,hk0,hk1⟩
end Go.Proofs
