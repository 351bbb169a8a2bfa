/- A part of the proof of a law: my own separation logic over the machine, and walks of the program. Condition of each theorem: as its statement says. -/
import Derived.Test.YtgplnpdblmcdoaaGreatDoorWC4
import Derived.Conc.LeavingOf
import Derived.Deep.Slices
import Derived.OpenShut
import Derived.Carry
import Derived.LaidMore
import Derived.Stop.Joined
import Derived.Conc.HoldsTime
set_option linter.all false
namespace Go.Lo
open Go.Conc
section
variable {P:Program} {B:Array Obj} {M:Meet} {Y:Sy P B M.pro} {D:Nat} {s:SS} {h:Hp} {kn kk r y:Nat} {z:List Nat} {p:WS}
variable {l l':List Value} {ds:List Deferred} {k:List Item} {cs:List Frame} {ops:Array Oper} {i:Nat} {rest:List Nat} {d:Option Tmp} {ty:TypeId} {pos:String} {af:Array Edge} {g:Option (Nat×Bool)}
  {args:List Operand} {vs:List Value} {ats:Array TypeId} {f f0:FuncId} {e:Array Value→Sem Value}
theorem step_val {b:Frame} {o:Oper} {v:Value} {w:World} {main:Bool} (ho:ops[i]?=some o) (hw:Wt ops l o.guard) (hd: ∀c,o.op≠ .defer c) (hr:(execOp (ev l) o).run P w= .ok (.value v) w) (hev:(execOp (ev l) o).events P w #[]= #[]):
    stepG P main (Gr b l ds (.inRegion ops (i::rest)::k) cs) w= .go (Gr b (put l o.dst v) ds (.inRegion ops rest::k) cs) w #[]:=by
  rw [jet ho hw.wanted hd w];have hfin:=Fr.finish b l ds ops i rest k v ho
  simp [stepG.apply,hr,hev,G,GStep.after,Gr,hfin,jc4]
theorem jfa {t1 t2 te bb off:Nat} {x:Operand} {b:Frame} (ho:ops[i]?=some ⟨d,.convert t1 t2 x,ty,pos,af,g⟩) (hw:Wt ops l g) [ex:OpV l x (.pointer (some ⟨bb,off,none⟩))] (hb:(bb=M.mu∨bb=M.wg)∧(off=0∨off=1)) (h1:P.underlying t1=some (.pointer te)) (h2:P.underlying t2=some .unsafePointer)
    (h3:(P.info? te).map (fun i=>decide (i.size=0))=some false) [PutV l d (.pointer (some ⟨bb,off,none⟩)) l'] (n:(Y.im D s h).R (Gr b l' ds (.inRegion ops rest::k) cs)):(Y.im D s h).R (Gr b l ds (.inRegion ops (i::rest)::k) cs):=by
  refine Y.syn rfl rfl fun Shp Pool F w inv hF sat=>?_
  obtain ⟨x',sm,v,wt,ws,N,r,p,ks,rfl,I⟩:=inv
  have hc: ∃u,w.cell? ⟨bb,off,none⟩=some u:=by
    obtain ⟨⟨c1,_⟩,⟨c2,_⟩⟩:=jdn sat
    obtain ⟨⟨c3,_⟩,⟨c4,_⟩⟩:=jd6 sat
    obtain ⟨rfl|rfl,rfl|rfl⟩:=hb
    · exact ⟨_,c1⟩
    · exact ⟨_,c2⟩
    · exact ⟨_,c3⟩
    · exact ⟨_,c4⟩
  obtain ⟨u,hc⟩:=hc
  have hp:put l d (.pointer (some ⟨bb,off,none⟩))=l':=PutV.eq
  rw [step_val (v:= .pointer (some ⟨bb,off,none⟩)) ho hw (by simp) (by simp [execOp,ex.eq,Sem.run_bind,run_convert_to_unsafe h1 h2 h3 hc]) (by simp [execOp,ex.eq,Sem.events_bind,run_convert_to_unsafe h1 h2 h3 hc,events_convert_to_unsafe h1 h2 h3 hc]),hp];exact .act (l:=[]) jbr (.inl rfl) rfl zq (fun s' e=>by obtain rfl:=Option.some.inj e;exact Iff.rfl) (fun e=>by cases e) ⟨x',sm,v,wt,ws,N,r,p,ks,rfl,by rw [jee hF];exact I⟩ n
theorem s_bye (h0:Y.i≠0) (E:Ext P f (Extern.Race.marked .releaseMerge)) (ho:ops[i]?=some ⟨d,.call ⟨.value (.func f),args.toArray,ats⟩,ty,pos,af,g⟩) (hw:Wt ops l g) [ea:ArgsV l args [.pointer (some ⟨M.wg,0,none⟩)]] [PutV l d (.tuple #[]) l']
    (hit:(Y.im 0 (.w kn .fin .bye z) []).R (Gr (bF f0) l' ds (.inRegion ops rest::k) cs)):(Y.im 0 (.w kn .fin .on z) h).R (Gr (bF f0) l ds (.inRegion ops (i::rest)::k) cs):=by
  refine Y.syn rfl rfl fun Shp Pool F w inv hF sat=>?_
  obtain ⟨x,sm,v,wt,ws,N,r,p,ks,rfl,I⟩:=inv
  rw [jb5 (evs:=[⟨.mark (.releaseMerge ⟨M.wg,0,none⟩),false,true⟩]) E ho hw (jc6 _ _) (jde _ _ _) (by simp)];refine .bye (Q:=M.pro) (s':= .w kn .fin .bye z) rfl rfl ⟨id,trivial⟩ h0 ⟨x,sm,v,wt,ws,N,r,p,ks,rfl,?_⟩ hit
  exact I.goW hF .bye (I.wg.byes (I.lt hF) h0 (by show pW (F Y.i)=_;rw [hF];rfl)) (Nat.le_refl _) (by simp)
theorem s_wgSub (h0:Y.i≠0) (hD:0<D) (hM:M.n≤64) (E:Ext P f (Extern.Atomic.update (Op.intArith .add) .u64 true)) (ho:ops[i]?=some ⟨d,.call ⟨.value (.func f),args.toArray,ats⟩,ty,pos,af,g⟩) (hw:Wt ops l g) [ea:ArgsV l args [.pointer (some ⟨M.wg,0,none⟩),.int .u64 18446744069414584320]]
    (less: ∀v wt,v<70→wt≤1→(v≠0∨wt=0)→Y.out D (Gr (bF f0) (put l d (.int .u64 (wgN v wt))) ds (.inRegion ops rest::k) cs)) (last:(Y.im D (.w kn .fin .l1 z) []).R (Gr (bF f0) (put l d (.int .u64 (wgN 0 1))) ds (.inRegion ops rest::k) cs)):
    (Y.im D (.w kn .fin .bye z) []).R (Gr (bF f0) l ds (.inRegion ops (i::rest)::k) cs):=by
  refine jkz E ho hw fun x sm v wt ws N r p ks Pool F w I hF sat=>?_
  have hG:(fun j=>pW (F j)) Y.i= .bye:=by show pW (F Y.i)=_;rw [hF];rfl
  have hsm:=I.wg.small
  have hvb:=I.vb
  have hp1:p.cV≤1:=by cases p<;>simp [WS.cV]
  obtain ⟨⟨hc,hz⟩,_⟩:=jd6 sat
  by_cases hl:v≠1∨wt=0
  · obtain ⟨hv0,W⟩:=I.wg.less (I.lt hF) h0 hG hl
    have hb:=(wgB v wt (by omega) hsm.1).dec (by omega)
    obtain ⟨r1,r2⟩:=jgj (P:=P) (es:= #[⟨.mark (.extern f),false,true⟩]) (kk:= .u64) hc hz hb
    exact ⟨_,_,evRW _,x,sm,v-1,wt,ws,N,r,p,ks,none,r1,r2,jcD,jfI sat rfl,jcJ (.inr rfl) (fun _=>hD),fun s' e=>by (cases e),fun _=>⟨trivial,rfl⟩,I.leaves hF W (by omega),less (v-1) wt (by omega) hsm.1 (by omega)⟩
  · obtain rfl:v=1:=by omega
    obtain ⟨rfl,W⟩:=I.wg.last (I.lt hF) h0 hG (by omega)
    have hb:=(wgB 1 1 (by omega) (by omega)).dec (by omega)
    obtain ⟨r1,r2⟩:=jgj (P:=P) (es:= #[⟨.mark (.extern f),false,true⟩]) (kk:= .u64) hc hz hb
    exact ⟨_,_,evRW _,x,sm,0,1,ws,N,r,p,ks,some (.w kn .fin .l1 z),r1,r2,jcD,jfI sat rfl,jcJ (.inr rfl) (fun _=>hD),fun s' e=>by (obtain rfl:=Option.some.inj e;exact Iff.rfl),fun e=>by (cases e),I.goW hF .l1 W (by omega) (by simp),last⟩
theorem jhU (h0:Y.i≠0) (hD:0<D) (E:Ext P f (Extern.Atomic.loadT (.int .u64))) (ho:ops[i]?=some ⟨d,.call ⟨.value (.func f),args.toArray,ats⟩,ty,pos,af,g⟩) (hw:Wt ops l g) [ea:ArgsV l args [.pointer (some ⟨M.wg,0,none⟩)]]
    (hit:(Y.im D (.w kn .fin .l2 z) []).R (Gr (bF f0) (put l d (.int .u64 (wgN 0 1))) ds (.inRegion ops rest::k) cs)):(Y.im D (.w kn .fin .l1 z) []).R (Gr (bF f0) l ds (.inRegion ops (i::rest)::k) cs):=by
  refine jkz E ho hw fun x sm v wt ws N r p ks Pool F w I hF sat=>?_
  have hG:(fun j=>pW (F j)) Y.i= .l1:=by show pW (F Y.i)=_;rw [hF];rfl
  obtain ⟨⟨hc,hz⟩,_⟩:=jd6 sat
  obtain ⟨rfl,rfl,W⟩:=I.wg.lastLoad (I.lt hF) h0 hG
  obtain ⟨r1,r2⟩:=jfy (P:=P) (es:= #[⟨.mark (.extern f),false,true⟩]) (kk:= .u64) hc
  exact ⟨_,_,evR _,x,sm,0,1,ws,N,r,p,ks,some (.w kn .fin .l2 z),r1,r2,jd4,jbr,jeb (.inr rfl) (fun _=>hD),fun s' e=>by (obtain rfl:=Option.some.inj e;exact Iff.rfl),fun e=>by (cases e),I.goW hF .l2 W (by omega) (by simp),hit⟩
theorem jhh (h0:Y.i≠0) (hD:0<D) (E:Ext P f Extern.Atomic.storeT) (ho:ops[i]?=some ⟨d,.call ⟨.value (.func f),args.toArray,ats⟩,ty,pos,af,g⟩) (hw:Wt ops l g) [ea:ArgsV l args [.pointer (some ⟨M.wg,0,none⟩),.int .u64 0]]
    (hit:(Y.im D (.w kn .fin .l3 z) []).R (Gr (bF f0) (put l d (.tuple #[])) ds (.inRegion ops rest::k) cs)):(Y.im D (.w kn .fin .l2 z) []).R (Gr (bF f0) l ds (.inRegion ops (i::rest)::k) cs):=by
  refine jkz E ho hw fun x sm v wt ws N r p ks Pool F w I hF sat=>?_
  have hG:(fun j=>pW (F j)) Y.i= .l2:=by show pW (F Y.i)=_;rw [hF];rfl
  obtain ⟨⟨hc,hz⟩,_⟩:=jd6 sat
  obtain ⟨rfl,W⟩:=I.wg.lastStore (I.lt hF) h0 hG
  obtain ⟨r1,r2⟩:=jlv (P:=P) (es:= #[⟨.mark (.extern f),false,true⟩]) (kk:= .u64) (n:=0) hc hz
  exact ⟨_,_,evW _,x,sm,0,0,ws,N,r,p,ks,some (.w kn .fin .l3 z),r1,r2,sync_W,jfI sat rfl,fine_W (.inr rfl) (fun _=>hD),fun s' e=>by (obtain rfl:=Option.some.inj e;exact Iff.rfl),fun e=>by (cases e),I.goW hF .l3 W (by omega) (by simp),hit⟩
theorem jhT (h0:Y.i≠0) (E:Ext P f Extern.Sync.semrelease) (ho:ops[i]?=some ⟨d,.call ⟨.value (.func f),args.toArray,ats⟩,ty,pos,af,g⟩) (hw:Wt ops l g) {va:List Value} [ea:ArgsV l args (.pointer (some ⟨M.wg,1,none⟩)::va)]
    (hit:Y.out D (Gr (bF f0) (put l d (.tuple #[])) ds (.inRegion ops rest::k) cs)):(Y.im D (.w kn .fin .l3 z) []).R (Gr (bF f0) l ds (.inRegion ops (i::rest)::k) cs):=by
  refine jkz E ho hw fun x sm v wt ws N r p ks Pool F w I hF sat=>?_
  have hG:(fun j=>pW (F j)) Y.i= .l3:=by show pW (F Y.i)=_;rw [hF];rfl
  obtain ⟨_,hc,hz⟩:=jd6 sat
  obtain ⟨rfl,W⟩:=I.wg.lastWake (I.lt hF) h0 hG
  obtain ⟨r1,r2⟩:=jjy (P:=P) (vs:=va) (es:= #[⟨.mark (.extern f),false,true⟩]) (q:=1) hc hz (by decide)
  exact ⟨_,_,evS _,x,sm,v,wt,1,N,r,p,ks,none,r1,r2,jjt,jlA sat rfl,jka (.inr rfl),fun s' e=>by (cases e),fun _=>⟨trivial,rfl⟩,I.leaves hF W (Nat.le_refl _),hit⟩
theorem jgD (h0:Y.i=0) (E:Ext P f e) (ho:ops[i]?=some ⟨d,.call ⟨.value (.func f),args.toArray,ats⟩,ty,pos,af,g⟩) (hw:Wt ops l g) [ea:ArgsV l args vs]
    (st: ∀x sm v wt ws N w X (G:Nat→WS),WgInv v wt ws N G→G 0=p→v+r≤M.n+p.cV→Sat B (X++[M.muC x sm,M.wgC v wt ws]) w→
      ∃(u:Value) (w':World) (evs:List Event) (v' wt' ws':Nat) (p':WS),((e vs.toArray).run P w= .ok u w'∧
        (e vs.toArray).events P w #[⟨.mark (.extern f),false,true⟩]= #[⟨.mark (.extern f),false,true⟩]++evs.toArray)∧(∀x∈evs,x.sync=true∧ ∀g,x.loc≠ .mark (.extern g))∧
        SEff B [M.muC x sm,M.wgC v wt ws] [M.muC x sm,M.wgC v' wt' ws'] w w'∧jd0 (fun b=>b=M.mu∨b=M.wg) 0 False D evs∧WgInv v' wt' ws' N (updF G 0 p')∧v'+p.cV≤v+p'.cV∧
        (Y.im (evs.foldl jem D) (.m r p') h).R (Gr (bF f0) (put l d u) ds (.inRegion ops rest::k) cs)):
    (Y.im D (.m r p) h).R (Gr (bF f0) l ds (.inRegion ops (i::rest)::k) cs):=by
  refine jkz E ho hw fun x sm v wt ws N r' p' ks Pool F w I hF sat=>?_
  rw [h0] at hF⊢
  have e0:=I.f0
  rw [hF] at e0
  obtain ⟨rfl,rfl⟩:r=r'∧p=p':=by
    have:=Option.some.inj e0
    injection this with e1 e2
    exact ⟨e1,e2⟩
  obtain ⟨u,w',evs,v',wt',ws',p',⟨r1,r2⟩,r3,r4,r5,r6,r7,r8⟩:=st x sm v wt ws N w (h++Pool) _ I.wg (by show pW (F 0)=_;rw [hF];rfl) I.vb sat
  exact ⟨u,w',evs,x,sm,v',wt',ws',N,r,p',ks,some (.m r p'),r1,r2,r3,r4,r5,fun s' e=>by (obtain rfl:=Option.some.inj e;exact Iff.rfl),fun e=>by (cases e),I.main p' r6 r7,r8⟩
theorem s_wgAdd (h0:Y.i=0) (hM:M.n≤64) (E:Ext P f (Extern.Atomic.update (Op.intArith .add) .u64 true)) (ho:ops[i]?=some ⟨d,.call ⟨.value (.func f),args.toArray,ats⟩,ty,pos,af,g⟩) (hw:Wt ops l g) [ea:ArgsV l args [.pointer (some ⟨M.wg,0,none⟩),.int .u64 4294967296]]
    (hit: ∀v,0<v→v<70→(Y.im D (.m r .adds) h).R (Gr (bF f0) (put l d (.int .u64 (wgN v 0))) ds (.inRegion ops rest::k) cs)):(Y.im D (.m r .idle) h).R (Gr (bF f0) l ds (.inRegion ops (i::rest)::k) cs):=by
  refine jgD h0 E ho hw fun x sm v wt ws N w X G I hG hv sat=>?_
  simp only [WS.cV] at hv
  obtain ⟨⟨hc,hz⟩,_⟩:=jd6 sat
  obtain ⟨rfl,W⟩:=I.adds hG
  exact ⟨_,_,evRW _,v+1,0,ws,.adds,jgj hc hz (wgB v 0 (by omega) (by omega)).inc,jcD,jfI sat rfl,jcJ (.inr rfl) (fun h=>h.elim),W,by simp [WS.cV],hit (v+1) (by omega) (by omega)⟩
theorem s_said {mk:Addr→Mark} (hmk:mk= .read∨mk= .write) (h0:Y.i=0) (E:Ext P f (Extern.Race.marked mk)) (ho:ops[i]?=some ⟨d,.call ⟨.value (.func f),args.toArray,ats⟩,ty,pos,af,g⟩) (hw:Wt ops l g) [ea:ArgsV l args [.pointer (some ⟨M.wg,1,none⟩)]]
    (hit:(Y.im D (.m r p) h).R (Gr (bF f0) (put l d (.tuple #[])) ds (.inRegion ops rest::k) cs)):(Y.im D (.m r p) h).R (Gr (bF f0) l ds (.inRegion ops (i::rest)::k) cs):=by
  refine jgD h0 E ho hw fun x sm v wt ws N w X G I hG hv sat=>?_
  refine ⟨.tuple #[],w,[⟨.mark (mk ⟨M.wg,1,none⟩),false,true⟩],v,wt,ws,p,⟨jc6 _ _,jde _ _ _⟩,?_,jbr,?_,by rw [jef _ _ _ hG];exact I,Nat.le_refl _,?_⟩
  · rcases hmk with rfl|rfl<;>simp
  · rcases hmk with rfl|rfl<;>exact ⟨⟨rfl,.inr rfl,id⟩,trivial⟩
  · rcases hmk with rfl|rfl<;>exact hit
theorem jlE (h0:Y.i=0) (E:Ext P f (fun _=>do mark .disable;Pure.pure Extern.Race.none_)) (ho:ops[i]?=some ⟨d,.call ⟨.value (.func f),#[],ats⟩,ty,pos,af,g⟩) (hw:Wt ops l g)
    (hit: ∀kk,(Y.im (D+1) (.m r (.look kk)) h).R (Gr (bF f0) (put l d (.tuple #[])) ds (.inRegion ops rest::k) cs)):(Y.im D (.m r .idle) h).R (Gr (bF f0) l ds (.inRegion ops (i::rest)::k) cs):=by
  refine jgD (args:=[]) (vs:=[]) h0 E ho hw fun x sm v wt ws N w X G I hG hv sat=>?_
  exact ⟨.tuple #[],w,[⟨.mark .disable,false,true⟩],v,wt,ws,.look v,⟨jdt _ #[],jdD _ #[] _⟩,by simp,jbr,⟨trivial,trivial⟩,I.begin hG,Nat.le_refl _,hit v⟩
theorem s_wgLoad (h0:Y.i=0) (hM:M.n≤64) (E:Ext P f (Extern.Atomic.loadT (.int .u64))) (ho:ops[i]?=some ⟨d,.call ⟨.value (.func f),args.toArray,ats⟩,ty,pos,af,g⟩) (hw:Wt ops l g) [ea:ArgsV l args [.pointer (some ⟨M.wg,0,none⟩)]]
    (none:(Y.im D (.m r .done) h).R (Gr (bF f0) (put l d (.int .u64 (wgN 0 0))) ds (.inRegion ops rest::k) cs)) (some: ∀v,0<v→v<70→(Y.im D (.m r (.tries v kk)) h).R (Gr (bF f0) (put l d (.int .u64 (wgN v 0))) ds (.inRegion ops rest::k) cs)):
    (Y.im D (.m r (.look kk)) h).R (Gr (bF f0) l ds (.inRegion ops (i::rest)::k) cs):=by
  refine jgD h0 E ho hw fun x sm v wt ws N w X G I hG hv sat=>?_
  simp only [WS.cV] at hv
  obtain ⟨⟨hc,hz⟩,_⟩:=jd6 sat
  by_cases hv0:v=0
  · obtain ⟨rfl,W⟩:=I.loadNone hG hv0
    subst hv0
    exact ⟨_,_,evR _,0,0,ws,.done,jfy hc,jd4,jbr,jeb (.inr rfl) (fun h=>h.elim),W,by simp [WS.cV],none⟩
  · obtain ⟨rfl,W⟩:=I.loadSome hG (by omega)
    exact ⟨_,_,evR _,v,0,ws,.tries v kk,jfy hc,jd4,jbr,jeb (.inr rfl) (fun h=>h.elim),W,by simp [WS.cV],some v (by omega) (by omega)⟩
theorem s_wgCas (h0:Y.i=0) (E:Ext P f (Extern.Atomic.casT (.int .u64))) (ho:ops[i]?=some ⟨d,.call ⟨.value (.func f),args.toArray,ats⟩,ty,pos,af,g⟩) (hw:Wt ops l g) [ea:ArgsV l args [.pointer (some ⟨M.wg,0,none⟩),.int .u64 (wgN y 0),.int .u64 (wgN y 1)]]
    (hit:(Y.im D (.m r .parked) h).R (Gr (bF f0) (put l d (.bool true)) ds (.inRegion ops rest::k) cs)) (miss:0<kk→(Y.im D (.m r (.look (kk-1))) h).R (Gr (bF f0) (put l d (.bool false)) ds (.inRegion ops rest::k) cs)):
    (Y.im D (.m r (.tries y kk)) h).R (Gr (bF f0) l ds (.inRegion ops (i::rest)::k) cs):=by
  refine jgD h0 E ho hw fun x sm v wt ws N w X G I hG hv sat=>?_
  obtain ⟨⟨hc,hz⟩,_⟩:=jd6 sat
  by_cases hx:v=y
  · subst hx
    obtain ⟨rfl,W⟩:=I.casYes hG
    exact ⟨_,_,evRW _,v,1,ws,.parked,je6 hc hz,jcD,jfI sat rfl,jcJ (.inr rfl) (fun h=>h.elim),W,by simp [WS.cV],hit⟩
  · obtain ⟨hk,rfl,W⟩:=I.casNo hG hx
    exact ⟨_,_,evR _,v,0,ws,.look (kk-1),jdW hc hz (by unfold wgN;omega),jd4,jbr,jeb (.inr rfl) (fun h=>h.elim),W,by simp [WS.cV],miss hk⟩
theorem s_wgPark (h0:Y.i=0) (E:Ext P f Extern.Sync.semacquire) (ho:ops[i]?=some ⟨d,.call ⟨.value (.func f),args.toArray,ats⟩,ty,pos,af,g⟩) (hw:Wt ops l g) {va:List Value} [ea:ArgsV l args (.pointer (some ⟨M.wg,1,none⟩)::va)]
    (hit:(Y.im D (.m r .woke) h).R (Gr (bF f0) (put l d (.tuple #[])) ds (.inRegion ops rest::k) cs)):(Y.im D (.m r .parked) h).R (Gr (bF f0) l ds (.inRegion ops (i::rest)::k) cs):=by
  refine Y.syn rfl rfl fun Shp Pool F w inv hF sat=>?_
  obtain ⟨x,sm,v,wt,ws,N,r',p,ks,rfl,I⟩:=inv
  obtain ⟨_,hc,hz⟩:=jd6 sat
  rw [h0] at hF
  have e0:=I.f0
  rw [hF] at e0
  obtain ⟨rfl,rfl⟩:r=r'∧WS.parked=p:=by
    have:=Option.some.inj e0
    injection this with e1 e2
    exact ⟨e1,e2⟩
  cases ws with
  |zero=>
    rw [jfG E ho hw (jjw hc)];exact .block ⟨x,sm,v,wt,rfl⟩
  |succ ws=>
    haveI:PutV l d (.tuple #[]) (put l d (.tuple #[])):=⟨rfl⟩
    obtain ⟨r1,r2⟩:=jjx (P:=P) (vs:=va) (es:= #[⟨.mark (.extern f),false,true⟩]) hc hz (by omega)
    rw [jb5 (evs:=evS ⟨M.wg,1,none⟩) E ho hw r1 r2 jjt];obtain ⟨rfl,W⟩:=I.wg.passes (by show pW (F 0)=_;rw [hF];rfl)
    refine .act (o:=some (.m r .woke)) (Shp':=[M.muC x sm,M.wgC v wt 0]) (jlA sat (by omega)) (.inr (jfA E ho)) rfl (jka ⟨_,List.mem_cons_of_mem _ List.mem_cons_self,rfl⟩) (fun s' e=>by obtain rfl:=Option.some.inj e;exact Iff.rfl) (fun e=>by cases e) ⟨x,sm,v,wt,0,N,r,.woke,ks,rfl,?_⟩ hit
    rw [h0];exact I.main .woke W (by simp [WS.cV])
theorem s_wgEnd (h0:Y.i=0) (E:Ext P f (Extern.Atomic.loadT (.int .u64))) (ho:ops[i]?=some ⟨d,.call ⟨.value (.func f),args.toArray,ats⟩,ty,pos,af,g⟩) (hw:Wt ops l g) [ea:ArgsV l args [.pointer (some ⟨M.wg,0,none⟩)]]
    (hit:(Y.im D (.m r .done) h).R (Gr (bF f0) (put l d (.int .u64 (wgN 0 0))) ds (.inRegion ops rest::k) cs)):(Y.im D (.m r .woke) h).R (Gr (bF f0) l ds (.inRegion ops (i::rest)::k) cs):=by
  refine jgD h0 E ho hw fun x sm v wt ws N w X G I hG hv sat=>?_
  obtain ⟨⟨hc,hz⟩,_⟩:=jd6 sat
  obtain ⟨rfl,rfl,W⟩:=I.ends hG
  exact ⟨_,_,evR _,0,0,ws,.done,jfy hc,jd4,jbr,jeb (.inr rfl) (fun h=>h.elim),W,by simp [WS.cV],hit⟩
theorem s_join {K:Goroutine→Hp→Prop} (E:Ext P f (Extern.Race.marked .acquire)) (ho:ops[i]?=some ⟨d,.call ⟨.value (.func f),args.toArray,ats⟩,ty,pos,af,g⟩) (hw:Wt ops l g) [ea:ArgsV l args [.pointer (some ⟨M.wg,0,none⟩)]] [PutV l d (.tuple #[]) l']
    (hit: ∀ks Pool,M.PL ks Pool→ks.Nodup→(∀k,k∈ks↔k<M.n∧M.hit k=true)→MRunS P B K none (Gr (bF f0) l' ds (.inRegion ops rest::k) cs) (h++Pool)):((Sy.zero P B M.pro K).im 0 (.m 0 .done) h).R (Gr (bF f0) l ds (.inRegion ops (i::rest)::k) cs):=by
  have key: ∀{x sm v wt ws N r' p ks Pool} {F:Nat→Option SS},MI M x sm v wt ws N r' p ks Pool F→F 0=some (.m 0 .done)→MI M x sm v wt ws N 0 .done ks Pool F:=fun {x sm v wt ws N r' p ks Pool F} I hF=>by
    have e0:=I.f0
    rw [hF] at e0
    have:=Option.some.inj e0
    injection this with e1 e2
    subst e1 e2
    exact I
  refine MRunS.join (Q:=M.pro) (s:= .m 0 .done) (g':=Gr (bF f0) l' ds (.inRegion ops rest::k) cs) rfl rfl (fun w=>jb5 (evs:=[⟨.mark (.acquire ⟨M.wg,0,none⟩),false,true⟩]) E ho hw (jc6 _ _) (jde _ _ _) (by simp)) (fun Shp Pool F inv hF=>?_) fun Shp Pool F inv hF=>?_
  · obtain ⟨x,sm,v,wt,ws,N,r',p,ks,rfl,I⟩:=inv
    exact (key I hF).joined.1
  · obtain ⟨x,sm,v,wt,ws,N,r',p,ks,rfl,I⟩:=inv
    obtain ⟨_,q2,q3,q4⟩:=(key I hF).joined
    exact hit ks Pool q2 q3 q4
theorem jd7 {b:Frame} {todo:List Item} (hr:b.roundOf=none) (E:Ext P f (fun _=>do mark .enable;Pure.pure Extern.Race.none_)) (n:(Y.im D s h).R (Gret b l ds todo cs)):(Y.im (D+1) s h).R (Gret b l (dcall f #[]::ds) todo cs):=by
  refine Y.syn rfl rfl fun Shp Pool F w inv hF sat=>?_
  obtain ⟨fn,h1,h2,h3,h4,h5⟩:=E.eq
  have hst:stepG P Y.main (Gret b l (dcall f #[]::ds) todo cs) w= .go (Gret b l ds todo cs) w [(⟨.mark .enable,false,true⟩:Event)].toArray:=by
    have:=stepG_unwind_entry (P:=P) (main:=Y.main) (b:=b) (a:=⟨l.toArray,dcall f #[]::ds⟩) (cs:=cs) (w:=w) (todo:=todo) (ds:=ds) (args:= #[]) rfl h1 h2 h3 h4 h5 (v:= .tuple #[]) (w':=w) (evs:= #[⟨.mark .enable,false,true⟩])
      (jdt _ #[]) (jdD _ #[] _) (by simp)
    simpa [Gret,Fr,Frame.at,hr] using this
  rw [hst];exact .act (SEff.refl (Meet.rw inv)) (.inl rfl) rfl ⟨trivial,trivial⟩ (fun s' e=>by obtain rfl:=Option.some.inj e;exact Iff.rfl) (fun e=>by cases e) (by rw [jee hF];exact inv) n
theorem jco {b:Frame} {todo:List Item} (hr:b.roundOf=none) (E:Ext P f (fun _=>do mark .enable;Pure.pure Extern.Race.none_)) (n:(Im.quit P D).R (Gret b l ds todo cs)):(Im.quit P (D+1)).R (Gret b l (dcall f #[]::ds) todo cs):=by
  obtain ⟨q,hq⟩:=n
  obtain ⟨fn,h1,h2,h3,h4,h5⟩:=E.eq
  refine ⟨q+1,QuitsD.said ⟨.mark .enable,false,true⟩ rfl rfl (fun w=>?_) hq⟩
  have:=stepG_unwind_entry (P:=P) (main:=false) (b:=b) (a:=⟨l.toArray,dcall f #[]::ds⟩) (cs:=cs) (w:=w) (todo:=todo) (ds:=ds) (args:= #[]) rfl h1 h2 h3 h4 h5 (v:= .tuple #[]) (w':=w) (evs:= #[⟨.mark .enable,false,true⟩])
    (jdt _ #[]) (jdD _ #[] _) (by simp)
  simpa [Gret,Fr,Frame.at,hr] using this
end
end Go.Lo
namespace Go.Lo
open Go.Conc
def Im.star (P:Program) (B:Array Obj) (K:Goroutine→Hp→Prop) (h:Hp):Im P:=⟨true,fun g=>MRunS P B K none g h,fun {g g'} hs e n=> .step (fun g'' h''=>g''=g'∧h''=h) ⟨hs,fun w sw=>⟨g',w,#[],h,e w,Stp.refl sw,rfl,rfl⟩⟩ fun _ _ ⟨e1,e2⟩=>by subst e1;subst e2;exact n⟩
theorem quit_kid {P:Program} {b:Frame} {l:List Value} {todo:List Item} {fn:Func} (hk:b.kind= .deferred) (hf:P.funcs[b.fn]?=some fn) (hres:fn.results= #[]) {kf:Frame} (hkf:kf={(default:Frame) with fn:=P.funcs.size,defers:=[],mode:= .panicking [goexitEntry]}) (hcat:kf.catches P=false):
    (Im.quit P 0).R (Gret b l [] todo [kf]):=by
  subst hkf
  refine ⟨2,.inr ⟨rfl,G {(default:Frame) with fn:=P.funcs.size,defers:=[],mode:= .panicking [goexitEntry]} [],#[],by simp,fun w=>?_,.inr ⟨rfl,{G {(default:Frame) with fn:=P.funcs.size,defers:=[],mode:= .panicking [goexitEntry]} [] with status:= .finished},#[],by simp,fun w=>?_,rfl,rfl⟩⟩⟩
  · have h1:=results_none hres l.toArray P w
    have h2:(results fn l.toArray).events P w #[]= #[]:=by simp [results,hres]
    simp [Gret,Fr,G,stepG,unwind,doReturn,hf,h1,h2,hk,GStep.after,seen,goexitEntry]
  · simp [G,stepG,unwind,goexitEntry] at hcat⊢
    simp [hcat]
end Go.Lo
namespace Go.Proofs
open Go.Lo
open Go.Conc (G)
set_option maxRecDepth 100000
theorem jkc:Ext Tryz.prog 132 (Extern.Race.marked .releaseMerge):=⟨Tryz.f132,Tryz.func132,by kernel_rfl,by kernel_rfl,by kernel_rfl,by kernel_rfl⟩
theorem jdd:Ext Tryz.prog 133 (fun _=>do mark .disable;Pure.pure Extern.Race.none_):=⟨Tryz.f133,Tryz.func133,by kernel_rfl,by kernel_rfl,by kernel_rfl,by kernel_rfl⟩
theorem jbs:Ext Tryz.prog 134 (fun _=>do mark .enable;Pure.pure Extern.Race.none_):=⟨Tryz.f134,Tryz.func134,by kernel_rfl,by kernel_rfl,by kernel_rfl,by kernel_rfl⟩
theorem jiv:Ext Tryz.prog 135 (fun _=>Pure.pure (.bool false)):=⟨Tryz.f135,Tryz.func135,by kernel_rfl,by kernel_rfl,by kernel_rfl,by kernel_rfl⟩
theorem extRead:Ext Tryz.prog 140 (Extern.Race.marked .read):=⟨Tryz.f140,Tryz.func140,by kernel_rfl,by kernel_rfl,by kernel_rfl,by kernel_rfl⟩
theorem extSemG:Ext Tryz.prog 144 Extern.Sync.semrelease:=⟨Tryz.f144,Tryz.func144,by kernel_rfl,by kernel_rfl,by kernel_rfl,by kernel_rfl⟩
theorem jdU:Ext Tryz.prog 147 (Extern.Race.marked .acquire):=⟨Tryz.f147,Tryz.func147,by kernel_rfl,by kernel_rfl,by kernel_rfl,by kernel_rfl⟩
theorem extWrite:Ext Tryz.prog 150 (Extern.Race.marked .write):=⟨Tryz.f150,Tryz.func150,by kernel_rfl,by kernel_rfl,by kernel_rfl,by kernel_rfl⟩
theorem extSemW:Ext Tryz.prog 151 Extern.Sync.semacquire:=⟨Tryz.f151,Tryz.func151,by kernel_rfl,by kernel_rfl,by kernel_rfl,by kernel_rfl⟩
theorem jkd:Ext Tryz.prog 175 (Extern.Atomic.update (Op.intArith .add) .u64 true):=⟨Tryz.f175,Tryz.func175,by kernel_rfl,by kernel_rfl,by kernel_rfl,by kernel_rfl⟩
theorem jf9:Ext Tryz.prog 176 (Extern.Atomic.loadT (.int .u64)):=⟨Tryz.f176,Tryz.func176,by kernel_rfl,by kernel_rfl,by kernel_rfl,by kernel_rfl⟩
theorem jlb:Ext Tryz.prog 177 Extern.Atomic.storeT:=⟨Tryz.f177,Tryz.func177,by kernel_rfl,by kernel_rfl,by kernel_rfl,by kernel_rfl⟩
theorem jeK:Ext Tryz.prog 178 (Extern.Atomic.casT (.int .i32)):=⟨Tryz.f178,Tryz.func178,by kernel_rfl,by kernel_rfl,by kernel_rfl,by kernel_rfl⟩
theorem jke:Ext Tryz.prog 180 (Extern.Atomic.update (Op.intArith .add) .i32 true):=⟨Tryz.f180,Tryz.func180,by kernel_rfl,by kernel_rfl,by kernel_rfl,by kernel_rfl⟩
theorem extCas64:Ext Tryz.prog 182 (Extern.Atomic.casT (.int .u64)):=⟨Tryz.f182,Tryz.func182,by kernel_rfl,by kernel_rfl,by kernel_rfl,by kernel_rfl⟩
theorem jld:Ext Tryz.prog 192 Extern.Sync.canSpin:=⟨Tryz.f192,Tryz.func192,by kernel_rfl,by kernel_rfl,by kernel_rfl,by kernel_rfl⟩
theorem jga:Ext Tryz.prog 193 (fun _=>Pure.pure Extern.Sync.none_):=⟨Tryz.f193,Tryz.func193,by kernel_rfl,by kernel_rfl,by kernel_rfl,by kernel_rfl⟩
theorem jmU:Ext Tryz.prog 195 Extern.OsHooks.nano:=⟨Tryz.f195,Tryz.func195,by kernel_rfl,by kernel_rfl,by kernel_rfl,by kernel_rfl⟩
theorem extSemM:Ext Tryz.prog 196 Extern.Sync.semacquire:=⟨Tryz.f196,Tryz.func196,by kernel_rfl,by kernel_rfl,by kernel_rfl,by kernel_rfl⟩
theorem jmT:Ext Tryz.prog 198 Extern.Sync.semrelease:=⟨Tryz.f198,Tryz.func198,by kernel_rfl,by kernel_rfl,by kernel_rfl,by kernel_rfl⟩
theorem quiet (f:Nat) (h:f∈[145,146,179,181]):(Tryz.prog.funcs[f]?).any (·.norace)=true:=by
  simp only [List.mem_cons,List.not_mem_nil,or_false] at h
  rcases h with rfl|rfl|rfl|rfl<;>kernel_rfl
theorem jh5:(Tryz.prog.funcs[195]?).any (·.norace)=true:=by kernel_rfl
theorem jhf: Tryz.prog.underlying 237=some (.pointer 154)∧ Tryz.prog.underlying 198=some .unsafePointer∧(Tryz.prog.info? 154).map (fun i=>decide (i.size=0))=some false:=⟨by kernel_rfl,by kernel_rfl,by kernel_rfl⟩
theorem jhe: Tryz.prog.underlying 196=some (.pointer 163)∧ Tryz.prog.underlying 198=some .unsafePointer∧(Tryz.prog.info? 163).map (fun i=>decide (i.size=0))=some false:=⟨by kernel_rfl,by kernel_rfl,by kernel_rfl⟩
theorem jkn: Tryz.prog.underlying 203=some (.pointer 152)∧ Tryz.prog.underlying 198=some .unsafePointer∧(Tryz.prog.info? 152).map (fun i=>decide (i.size=0))=some false:=⟨by kernel_rfl,by kernel_rfl,by kernel_rfl⟩
end Go.Proofs
namespace Go.Lo
open Go.Conc
section
variable {P:Program} {B:Array Obj}
def Md.kidS (P:Program) (B:Array Obj) (Q:ProS) (i:Nat) (s:Q.S) (hg: ¬Q.gone s):Md P B where
  main:=false
  R:=fun K g h=>(∀g' h',K g' h'→CRunS P B Q i 0 s g' h')→CRunS P B Q i 0 s g h
  stop:=fun k c=>c _ _ k
  step:=fun st n c=> .step _ hg st fun g' h' x=>n g' h' x c
  bind:=fun r n c=>r fun g' h' k=>n g' h' k c
  weak:=fun k n c=> .weak k (n c)
theorem Md.kidS.to {Q:ProS} {i:Nat} {s:Q.S} {hg: ¬Q.gone s} {g:Goroutine} {h:Hp} (r:(Md.kidS P B Q i s hg).R (CRunS P B Q i 0 s) g h):((Sy.kid P B Q i).im 0 s h).R g:=r fun _ _ x=>x
theorem Md.kidS.of {Q:ProS} {i:Nat} {s:Q.S} {hg: ¬Q.gone s} {g:Goroutine} {h:Hp} (r:((Sy.kid P B Q i).im 0 s h).R g):(Md.kidS P B Q i s hg).R (CRunS P B Q i 0 s) g h:=(Md.kidS P B Q i s hg).stop (K:=CRunS P B Q i 0 s) r
def Md.mid (P:Program) (B:Array Obj) (Q:ProS) (s:Q.S) (K0:Goroutine→Hp→Prop):Md P B where
  main:=true
  R:=fun K g h=>(∀g' h',K g' h'→MRunS P B K0 (some ⟨Q,0,s⟩) g' h')→MRunS P B K0 (some ⟨Q,0,s⟩) g h
  stop:=fun k c=>c _ _ k
  step:=fun st n c=> .step _ st fun g' h' x=>n g' h' x c
  bind:=fun r n c=>r fun g' h' k=>n g' h' k c
  weak:=fun k n c=> .weak k (n c)
theorem Md.mid.to {Q:ProS} {s:Q.S} {K:Goroutine→Hp→Prop} {g:Goroutine} {h:Hp} (r:(Md.mid P B Q s K).R (MRunS P B K (some ⟨Q,0,s⟩)) g h):((Sy.zero P B Q K).im 0 s h).R g:=r fun _ _ x=>x
theorem Md.mid.of {Q:ProS} {s:Q.S} {K:Goroutine→Hp→Prop} {g:Goroutine} {h:Hp} (r:((Sy.zero P B Q K).im 0 s h).R g):(Md.mid P B Q s K).R (MRunS P B K (some ⟨Q,0,s⟩)) g h:=(Md.mid P B Q s K).stop (K:=MRunS P B K (some ⟨Q,0,s⟩)) r
theorem Sy.weaken {Q:ProS} {Y:Sy P B Q} {d:Nat} {s:Q.S} {h h':Hp} {g:Goroutine} (k:Weak B h h') (n:(Y.im d s h').R g):(Y.im d s h).R g:=Y.weak k n
theorem jfE {α:Type} (f:α→Nat) (G:Nat→α):tot f G 1=f (G 0):=by
  have:=jbi (f:=f) (G:=G) (a:=G 0) (i:=0) (n:=1) (by omega)
  simp [tot]
theorem Meet.start0 (M:Meet) {Pool:Hp} (hP:M.PL [] Pool):M.pro.Inv [M.muC ⟨false,false,false,0⟩ 0,M.wgC 0 0 0] Pool (fun j=>if j=0 then some (.m M.n .idle) else none):=by
  refine ⟨⟨false,false,false,0⟩,0,0,0,0,1,M.n,.idle,[],rfl,⟨rfl,fun j hj r p e=>absurd ((if_neg hj).symm.trans e:(none:Option SS)=some _) (by simp),fun j hj=>(if_neg (show j≠0 by omega):(if j=0 then some (SS.m M.n .idle) else none:Option SS)=none),fun j k l g z e=>?_,?_,?_,?_,by omega,Nat.le_refl _⟩⟩
  · by_cases h:j=0
    · subst h;cases e
    · rw [if_neg h] at e;cases e
  · refine ⟨⟨?_,fun _=>?_,(fun e=>by cases e),fun _ _ _ e=>absurd e (Nat.lt_irrefl 0)⟩,fun j hj=>?_,?_⟩
    · simp [jbM,jfE,pL,LS.cL]
    · simp [jbM,jfE,pL,LS.cT,LS.cK,LS.cR,LS.cH,LS.cQ]
    · obtain rfl:j=0:=by omega
      simp [pL,LS.ok]
    · simp [Phi,jfE,pL,LS.phi]
  · refine ⟨by omega,?_,?_,fun j hj=>?_⟩
    · simp [jeT,jfE,pW,WS.cV]
    · simp [jeT,jfE,pW,jbR,WS.cV,WS.c1,WS.c2,WS.c3]
    · simp [hj,pW,WS.kid]
  · have nil: ∀j k l g z,((fun j=>if j=0 then some (.m M.n .idle) else none:Nat→Option SS) j)≠some (.w k l g z):=fun j k l g z e=>by
      by_cases h:j=0
      · subst h;cases e
      · simp only [if_neg h] at e;cases e
    exact ⟨List.nodup_nil,fun k hk=>by simp at hk,fun j k l g z e=>absurd e (nil j k l g z),fun j j' k l g z l' g' z' e=>absurd e (nil j k l g z),fun k hk=>by omega,fun j k g z e=>absurd e (nil j k _ g z),fun _=>hP⟩
end
section
variable {P:Program} {B:Array Obj} {M:Meet} {Y:Sy P B M.pro} {h:Hp}
variable {b:Frame} {l l':List Value} {ds:List Deferred} {k:List Item} {cs:List Frame}
theorem jlH {kn:Nat} {z:List Nat} (hr:b.roundOf=none) (hh:M.hit kn=false) (n:(Y.im 0 (.w kn .fin .on z) h).R (Gret b l ds (.code .ret::k) cs)):(Y.im 0 (.w kn .out .on z) h).R (Gr b l ds (.code .ret::k) cs):=by
  refine Y.syn rfl rfl fun Shp Pool F w inv hF sat=>?_
  have hst:stepG P Y.main (Gr b l ds (.code .ret::k) cs) w= .go (Gret b l ds (.code .ret::k) cs) w ([]:List Event).toArray:=by simp [Gr,Gret,Fr,G,stepG,stepG.exec,hr]
  rw [hst];have hrw:=Meet.rw inv
  obtain ⟨x,sm,v,wt,ws,N,r,p,ks,rfl,I⟩:=inv
  exact .act (o:=some (.w kn .fin .on z)) (SEff.refl hrw) (.inl rfl) rfl zq (fun s' e=>by obtain rfl:=Option.some.inj e;exact Iff.rfl) (fun e=>by cases e)
    ⟨x,sm,v,wt,ws,N,r,p,ks,rfl,I.goL hF .fin (I.lock.skips (I.lt hF) (by rw [hF];rfl)) (.inr hh) (by simp) (by simp)⟩ n
end
section
variable {P:Program} {B:Array Obj} {M:Meet} {K:Goroutine→Hp→Prop}
theorem jmf {ops:Array Oper} {i:Nat} {rest:List Nat} {b:Frame} {l:List Value} {ds:List Deferred} {k:List Item} {cs:List Frame} {x:Operand} {ats:Array TypeId} {ty:TypeId} {pos:String} {af:Array Edge} {f:FuncId} {first cap:Array Value} {h h' hc:Hp} {r:Nat}
    (ho:ops[i]?=some ⟨none,.go ⟨.value x,#[],ats⟩,ty,pos,af,none⟩) [ex:OpV l x (.func (.func f) first cap)] (hr:r+1≤M.n) (k1:Weak B h h') (k2:Weak B h hc) (ap: ∀w,Sat B h w→ApH h' hc)
    (kid: ∀j,j≠0→((Sy.kid P B M.pro j).im 0 (.w (M.n-(r+1)) .out .on []) hc).R (kid0 P {target:= .fn (.func f) cap,args:=first++ #[]}))
    (n:((Sy.zero P B M.pro K).im 0 (.m r .idle) h').R (Gr b l ds (.inRegion ops rest::k) cs)):((Sy.zero P B M.pro K).im 0 (.m (r+1) .adds) h).R (Gr b l ds (.inRegion ops (i::rest)::k) cs):=by
  refine MRunS.spawn (Q:=M.pro) (h':=h') (hc:=hc) (.m r .idle) (.w (M.n-(r+1)) .out .on []) rfl rfl (fun w _=>jhQ ho w) k1 k2 ap (fun e=>e) (fun Shp Pool F j hj inv h0 hn=>?_) kid n
  obtain ⟨x,sm,v,wt,ws,N,r',p,ks,rfl,I⟩:=inv
  have e0:=I.f0
  rw [h0] at e0
  have:=Option.some.inj e0
  injection this with e1 e2
  subst e1 e2
  obtain ⟨N',I'⟩:=I.start hj hn (by omega)
  exact ⟨x,sm,v,wt,ws,N',r,.idle,ks,rfl,I'⟩
theorem jkX {Q:ProS} {s:Q.S} {i:Nat} {f:FuncId} {cap args:Array Value} {fn:Func} {body:Code} {n:Nat} {al l:List Value} {h:Hp} (hg: ¬Q.gone s) (hcall:ja4 P f=true) (hf:P.funcs[f]?=some fn) (hb:fn.body=some body) (hn:fn.ntmps=n) (ha:args++cap=al.toArray) (hl:al++List.replicate (n-al.length) undef=l)
    (t:((Sy.kid P B Q i).im 0 s h).R (Gr (bD f) l [] [.code body] [kidF P])):((Sy.kid P B Q i).im 0 s h).R (kid0 P {target:= .fn (.func f) cap,args:=args}):=by
  refine CRunS.step (fun g' h'=>g'=Gr (bD f) l [] [.code body] [kidF P]∧h'=h) hg ⟨rfl,fun w sw=>?_⟩ (fun g' h' ⟨e1,e2⟩=>by subst e1;subst e2;exact t)
  have hrd:=jej (P:=P) (B:=B) (h:=h) hcall (args++cap)
  obtain ⟨h1,h2⟩:=hrd w sw
  have e:Frame.enter P f (args++cap) .deferred=Fr (bD f) l [] [.code body]:=by
    subst hl
    rw [ha];simp [Frame.enter,hf,hb,hn,Fr,bD,bF]
  refine ⟨_,w,seen P P.funcs.size ((callFunc f (args++cap)).events P w #[]),h,?_,{Stp.refl sw with evs:=fun e he=>h2 e (jbT _ _ _ e he)},rfl,rfl⟩
  unfold Gr
  rw [←e];simp [kid0,G,stepG,unwind,callDeferred,invoke,h1,GStep.after,kidF]
end
end Go.Lo
namespace Go.Lo
open Go.Conc (G)
section
variable {P:Program} {B:Array Obj} {h:Hp}
def key3B (P:Program) (t:TypeId):Bool:=match P.underlying t with
  |some (.struct fs)=>(match fs.toList with
    |[f,s]=>f.offset==0&&s.offset==1&&f.name != "_" &&s.name != "_" &&jfp P f.type&&aggB P s.type 2&&keyB P s.type&&(match P.underlying f.type with|some (.int .i64)=>true|_=>false)
    |_=>false)&&!P.stoodInHeld t
  |_=>false
class Key3T (P:Program) (t:TypeId):Prop where
  eq:key3B P t=true
theorem Key3T.spec {t:TypeId} [k:Key3T P t]: ∃f s:Field,P.underlying t=some (.struct #[f,s])∧f.offset=0∧s.offset=1∧f.name≠ "_" ∧s.name≠ "_" ∧Scal P f.type∧AggT P s.type 2∧KeyT P s.type∧P.underlying f.type=some (.int .i64)∧P.stoodInHeld t=false:=by
  have:=k.eq
  unfold key3B at this
  split at this
  · rename_i fs hu
    rw [Bool.and_eq_true] at this
    obtain ⟨h1,h2⟩:=this
    split at h1
    · rename_i f s hfs
      simp only [Bool.and_eq_true,beq_iff_eq,bne_iff_ne,ne_eq] at h1
      obtain ⟨⟨⟨⟨⟨⟨⟨a1,a2⟩,b1⟩,b2⟩,c1⟩,c3⟩,c4⟩,a7⟩:=h1
      refine ⟨f,s,?_,a1,a2,b1,b2,⟨c1⟩,⟨c3⟩,⟨c4⟩,?_,by simpa using h2⟩
      · rw [hu];congr 2;exact Array.ext' (by rw [hfs])
      · split at a7
        · assumption
        · cases a7
    · cases h1
  · cases this
theorem jlZ (dd:Nat) {t:TypeId} [Key3T P t] (a c d a' c' d':Int):Reads P B (Op.equalIn (dd+3) t (.agg [.int .i64 a,.int .i64 c,.int .i64 d].toArray) (.agg [.int .i64 a',.int .i64 c',.int .i64 d'].toArray)) h (a==a'&&(c==c'&&d==d')):=by
  obtain ⟨f,s,hu,o1,o3,n1,n3,s1,s3,s4,u1,hs⟩:=Key3T.spec (P:=P) (t:=t)
  unfold Op.equalIn
  refine Reads.bind (jal hu).reads ?_
  refine Reads.bind Reads.program' ?_
  simp only [hs,Bool.false_eq_true,if_false,pure_bind]
  rw [←Array.forIn_toList];simp only [List.forIn_cons,List.forIn_nil,n1,n3,ne_eq,not_false_eq_true,if_true,o1,o3,bind_assoc]
  refine Reads.bind (jaI (v:= .int .i64 a) rfl) (Reads.bind (jaI (v:= .int .i64 a') rfl) (Reads.bind (jcr (dd+1) u1 a a') ?_))
  cases h1:(a==a')
  · simp only [Bool.not_false,if_true,pure_bind,Bool.false_and];exact Reads.pure _
  · simp only [Bool.not_true,Bool.false_eq_true,if_false,pure_bind,Bool.true_and,bind_assoc]
    refine Reads.bind (jdi (n:=2)) (Reads.bind (jdi (n:=2)) (Reads.bind (jeA dd (t:=s.type) c d c' d') ?_))
    cases h3:(c==c'&&d==d')
    · simp only [Bool.not_false,if_true,pure_bind];exact Reads.pure _
    · simp only [Bool.not_true,Bool.false_eq_true,if_false,pure_bind];exact Reads.pure _
def keySB (P:Program) (t:TypeId):Bool:=match P.underlying t with
  |some (.struct fs)=>(match fs.toList with
    |[f,g,s]=>f.offset==0&&g.offset==1&&s.offset==2&&f.name != "_" &&g.name != "_" &&s.name != "_" &&jfp P f.type&&jfp P g.type&&jfp P s.type&&(match P.underlying s.type with|some .bool=>true|_=>false)&&(match P.underlying f.type with|some (.int .i64)=>true|_=>false)&&(match P.underlying g.type with|some (.int .i64)=>true|_=>false)
    |_=>false)&&!P.stoodInHeld t
  |_=>false
class KeyST (P:Program) (t:TypeId):Prop where
  eq:keySB P t=true
theorem KeyST.spec {t:TypeId} [k:KeyST P t]: ∃f g s:Field,P.underlying t=some (.struct #[f,g,s])∧f.offset=0∧g.offset=1∧s.offset=2∧f.name≠ "_" ∧g.name≠ "_" ∧s.name≠ "_" ∧Scal P f.type∧Scal P g.type∧Scal P s.type∧P.underlying s.type=some .bool∧P.underlying f.type=some (.int .i64)∧P.underlying g.type=some (.int .i64)∧P.stoodInHeld t=false:=by
  have:=k.eq
  unfold keySB at this
  split at this
  · rename_i fs hu
    rw [Bool.and_eq_true] at this
    obtain ⟨h1,h2⟩:=this
    split at h1
    · rename_i f g s hfs
      simp only [Bool.and_eq_true,beq_iff_eq,bne_iff_ne,ne_eq] at h1
      obtain ⟨⟨⟨⟨⟨⟨⟨⟨⟨⟨⟨a1,a2⟩,a3⟩,b1⟩,b2⟩,b3⟩,c1⟩,c2⟩,c3⟩,a6⟩,a7⟩,a8⟩:=h1
      refine ⟨f,g,s,?_,a1,a2,a3,b1,b2,b3,⟨c1⟩,⟨c2⟩,⟨c3⟩,?_,?_,?_,by simpa using h2⟩
      · rw [hu];congr 2;exact Array.ext' (by rw [hfs])
      · split at a6
        · assumption
        · cases a6
      · split at a7
        · assumption
        · cases a7
      · split at a8
        · assumption
        · cases a8
    · cases h1
  · cases this
theorem jlV (dd:Nat) {t:TypeId} (hb:P.underlying t=some .bool) (a c:Bool):Reads P B (Op.equalIn (dd+1) t (.bool a) (.bool c)) h (a==c):=by
  unfold Op.equalIn
  refine Reads.bind (jal hb).reads ?_
  exact Reads.pure _
theorem jlW (dd:Nat) {t:TypeId} [KeyST P t] (a b a' b':Int) (c c':Bool):Reads P B (Op.equalIn (dd+3) t (.agg [.int .i64 a,.int .i64 b,.bool c].toArray) (.agg [.int .i64 a',.int .i64 b',.bool c'].toArray)) h (a==a'&&(b==b'&&c==c')):=by
  obtain ⟨f,g,s,hu,o1,o2,o3,n1,n2,n3,s1,s2,s3,u3,u1,u2,hs⟩:=KeyST.spec (P:=P) (t:=t)
  unfold Op.equalIn
  refine Reads.bind (jal hu).reads ?_
  refine Reads.bind Reads.program' ?_
  simp only [hs,Bool.false_eq_true,if_false,pure_bind]
  rw [←Array.forIn_toList];simp only [List.forIn_cons,List.forIn_nil,n1,n2,n3,ne_eq,not_false_eq_true,if_true,o1,o2,o3,bind_assoc]
  refine Reads.bind (jaI (v:= .int .i64 a) rfl) (Reads.bind (jaI (v:= .int .i64 a') rfl) (Reads.bind (jcr (dd+1) u1 a a') ?_))
  cases h1:(a==a')
  · simp only [Bool.not_false,if_true,pure_bind,Bool.false_and];exact Reads.pure _
  · simp only [Bool.not_true,Bool.false_eq_true,if_false,pure_bind,Bool.true_and,bind_assoc]
    refine Reads.bind (jaI (v:= .int .i64 b) rfl) (Reads.bind (jaI (v:= .int .i64 b') rfl) (Reads.bind (jcr (dd+1) u2 b b') ?_))
    cases h2:(b==b')
    · simp only [Bool.not_false,if_true,pure_bind,Bool.false_and];exact Reads.pure _
    · simp only [Bool.not_true,Bool.false_eq_true,if_false,pure_bind,Bool.true_and,bind_assoc]
      refine Reads.bind (jaI (v:= .bool c) rfl) (Reads.bind (jaI (v:= .bool c') rfl) (Reads.bind (jlV (dd+1) u3 c c') ?_))
      cases h3:(c==c')
      · simp only [Bool.not_false,if_true,pure_bind];exact Reads.pure _
      · simp only [Bool.not_true,Bool.false_eq_true,if_false,pure_bind];exact Reads.pure _
end
section
variable {P:Program} {B:Array Obj} {m:Md P B} {ops:Array Oper} {l l' l'':List Value} {S h h' H:Hp} {C:List Value→Hp→Prop} {i:Nat} {kd:Kd} {r:List (Nat×Kd)}
  {d:Option Tmp} {ty:TypeId} {pos:String} {af:Array Edge} {g:Option (Nat×Bool)}
theorem k_neq3 {t u:TypeId} {x y:Operand} {a c e a' c' e':Int} (ho:ops[i]?=some ⟨d,.binOp .neq t x y u,ty,pos,af,g⟩) (hw:Wt ops l g) [kh:KHeap kd S h H] [ex:OpV l x (.agg [.int .i64 a,.int .i64 c,.int .i64 e].toArray)] [ey:OpV l y (.agg [.int .i64 a',.int .i64 c',.int .i64 e'].toArray)] [Key3T P t]
    (hg:P.eqGuardType P.depth t=false) [pt:PutV l d (.bool true) l'] [pf:PutV l d (.bool false) l''] (yes: ¬(a=a'∧c=c'∧e=e')→RegK m S ops r l' h C) (no:a=a'∧c=c'∧e=e'→RegK m S ops r l'' h C):RegK m S ops ((i,kd)::r) l h C:=by
  have he:=jlZ (P:=P) (B:=B) (h:=H) 9997 (t:=t) a c e a' c' e'
  by_cases hx:a=a'∧c=c'∧e=e'
  · have e2:(a==a'&&(c==c'&&e==e'))=true:=by simp [hx]
    rw [e2] at he
    haveI:PutV l d (.bool !true) l'':=pf
    exact jfZ ho hw hg he (no hx)
  · have e2:(a==a'&&(c==c'&&e==e'))=false:=by simpa using hx
    rw [e2] at he
    haveI:PutV l d (.bool !false) l':=pt
    exact jfZ ho hw hg he (yes hx)
theorem k_neqSk {t u:TypeId} {x y:Operand} {a c a' c':Int} {e e':Bool} (ho:ops[i]?=some ⟨d,.binOp .neq t x y u,ty,pos,af,g⟩) (hw:Wt ops l g) [kh:KHeap kd S h H] [ex:OpV l x (.agg [.int .i64 a,.int .i64 c,.bool e].toArray)] [ey:OpV l y (.agg [.int .i64 a',.int .i64 c',.bool e'].toArray)] [KeyST P t]
    (hg:P.eqGuardType P.depth t=false) [pt:PutV l d (.bool true) l'] [pf:PutV l d (.bool false) l''] (yes: ¬(a=a'∧c=c'∧e=e')→RegK m S ops r l' h C) (no:a=a'∧c=c'∧e=e'→RegK m S ops r l'' h C):RegK m S ops ((i,kd)::r) l h C:=by
  have he:=jlW (P:=P) (B:=B) (h:=H) 9997 (t:=t) a c a' c' e e'
  by_cases hx:a=a'∧c=c'∧e=e'
  · have e2:(a==a'&&(c==c'&&e==e'))=true:=by simp [hx]
    rw [e2] at he
    haveI:PutV l d (.bool !true) l'':=pf
    exact jfZ ho hw hg he (no hx)
  · have e2:(a==a'&&(c==c'&&e==e'))=false:=by simpa using hx
    rw [e2] at he
    haveI:PutV l d (.bool !false) l':=pt
    exact jfZ ho hw hg he (yes hx)
end
end Go.Lo
namespace Go.Proofs
open Go.Lo
open Go.Conc (G)
set_option maxRecDepth 100000
set_option synthInstance.maxHeartbeats 1000000
section
variable {P:Program} {B:Array Obj} {m:Md P B} {ops:Array Oper} {l l':List Value} {S h h' H:Hp} {C:List Value→Hp→Prop} {i:Nat} {kd:Kd} {r:List (Nat×Kd)}
  {d:Option Tmp} {ty:TypeId} {pos:String} {af:Array Edge} {g:Option (Nat×Bool)}
theorem jgT {t u:TypeId} {x y:Operand} {a b:Int} {k:IntKind} (ho:ops[i]?=some ⟨d,.binOp .eql t x y u,ty,pos,af,g⟩) (hw:Wt ops l g) [kh:KHeap kd S h H] [ex:OpV l x (.int k a)] [ey:OpV l y (.int k b)] (e:a=b) [pt:PutV l d (.bool true) l'] (q:RegK m S ops r l' h C):RegK m S ops ((i,kd)::r) l h C:=by
  have pq:=pt;rw [←decide_eq_true e] at pq;exact k_eql (l':=l') ho hw q
theorem jmw {t u:TypeId} {x y:Operand} {a b:Int} {k:IntKind} (ho:ops[i]?=some ⟨d,.binOp .eql t x y u,ty,pos,af,g⟩) (hw:Wt ops l g) [kh:KHeap kd S h H] [ex:OpV l x (.int k a)] [ey:OpV l y (.int k b)] (e:a≠b) [pt:PutV l d (.bool false) l'] (q:RegK m S ops r l' h C):RegK m S ops ((i,kd)::r) l h C:=by
  have pq:=pt;rw [←decide_eq_false e] at pq;exact k_eql (l':=l') ho hw q
theorem jgS {t u:TypeId} {x y:Operand} {a b:Int} {k:IntKind} (ho:ops[i]?=some ⟨d,.binOp .neq t x y u,ty,pos,af,g⟩) (hw:Wt ops l g) [kh:KHeap kd S h H] [ex:OpV l x (.int k a)] [ey:OpV l y (.int k b)] (e:a=b) [pt:PutV l d (.bool false) l'] (q:RegK m S ops r l' h C):RegK m S ops ((i,kd)::r) l h C:=by
  have pq:=pt;rw [←decide_eq_false (fun h:a≠b=>h e)] at pq;exact k_neq (l':=l') ho hw q
theorem jjV {t u:TypeId} {x y:Operand} {a b:Int} {k:IntKind} (ho:ops[i]?=some ⟨d,.binOp .gtr t x y u,ty,pos,af,g⟩) (hw:Wt ops l g) [kh:KHeap kd S h H] [ex:OpV l x (.int k a)] [ey:OpV l y (.int k b)] (e: ¬b<a) [pt:PutV l d (.bool false) l'] (q:RegK m S ops r l' h C):RegK m S ops ((i,kd)::r) l h C:=by
  have pq:=pt;rw [←decide_eq_false e] at pq;exact k_gtr (l':=l') ho hw q
theorem k_lssF {t u:TypeId} {x y:Operand} {a b:Int} {k:IntKind} (ho:ops[i]?=some ⟨d,.binOp .lss t x y u,ty,pos,af,g⟩) (hw:Wt ops l g) [kh:KHeap kd S h H] [ex:OpV l x (.int k a)] [ey:OpV l y (.int k b)] (e: ¬a<b) [pt:PutV l d (.bool false) l'] (q:RegK m S ops r l' h C):RegK m S ops ((i,kd)::r) l h C:=by
  have pq:=pt;rw [←decide_eq_false e] at pq;exact k_lss (l':=l') ho hw q
theorem jmv {t u:TypeId} {x y:Operand} {a b:Int} {k:IntKind} (ho:ops[i]?=some ⟨d,.binOp .gtr t x y u,ty,pos,af,g⟩) (hw:Wt ops l g) [kh:KHeap kd S h H] [ex:OpV l x (.int k a)] [ey:OpV l y (.int k b)] (e:b<a) [pt:PutV l d (.bool true) l'] (q:RegK m S ops r l' h C):RegK m S ops ((i,kd)::r) l h C:=by
  have pq:=pt;rw [←decide_eq_true e] at pq;exact k_gtr (l':=l') ho hw q
theorem jhj {t:TypeId} (hb:P.underlying t=some .bool) (a c:Bool):Reads P B (Op.equal t (.bool a) (.bool c)) H (a==c):=by
  show Reads P B (Op.equalIn 10000 t (.bool a) (.bool c)) H (a==c)
  unfold Op.equalIn
  exact Reads.bind (jal hb).reads (Reads.pure _)
theorem je2 {t u:TypeId} {x y:Operand} {a c:Bool} (ho:ops[i]?=some ⟨d,.binOp .neq t x y u,ty,pos,af,g⟩) (hw:Wt ops l g) (hb:P.underlying t=some .bool) [KHeap kd S h H] [ex:OpV l x (.bool a)] [ey:OpV l y (.bool c)] (e:a=c) [PutV l d (.bool false) l'] (q:RegK m S ops r l' h C):RegK m S ops ((i,kd)::r) l h C:=
  RegK.rd (v:= .bool false) ho hw (by
    subst e
    simp only [execOp,ex.eq,ey.eq]
    refine Reads.value (Reads.bind (a:=()) (Reads.pure _) ?_)
    show Reads P B (Op.equal t (.bool a) (.bool a)>>=fun b=>pure (Value.bool !b)) H _
    have:=jhj (P:=P) (B:=B) (H:=H) hb a a
    rw [beq_self_eq_true] at this
    exact Reads.bind this (Reads.pure _)) q
theorem k_remT {t u:TypeId} {x y:Operand} {a b:Int} (ho:ops[i]?=some ⟨d,.binOp .rem t x y u,ty,pos,af,g⟩) (hw:Wt ops l g) [KHeap kd S h H] [ex:OpV l x (.int .i64 a)] [ey:OpV l y (.int .i64 b)] (hb:b≠0) [PutV l d (.int .i64 (a.tmod b)) l'] (q:RegK m S ops r l' h C):RegK m S ops ((i,kd)::r) l h C:=
  RegK.rd (v:= .int .i64 (a.tmod b)) ho hw (ja5 ex.eq ey.eq (by simp) (by
    simp only [binOp,Op.intDiv,if_neg hb]
    rfl)) q
theorem ji9 {t u:TypeId} {x y:Operand} {a b a' b':Int} (ho:ops[i]?=some ⟨d,.binOp .neq t x y u,ty,pos,af,g⟩) (hw:Wt ops l g) [kh:KHeap kd S h H] [ex:OpV l x (.agg [.int .i64 a,.int .i64 b].toArray)] [ey:OpV l y (.agg [.int .i64 a',.int .i64 b'].toArray)] [KeyT P t]
    (hg:P.eqGuardType P.depth t=false) (e:a=a'∧b=b') [pf:PutV l d (.bool false) l'] (q:RegK m S ops r l' h C):RegK m S ops ((i,kd)::r) l h C:=by
  have he:=jeA (P:=P) (B:=B) (h:=H) 9998 (t:=t) a b a' b'
  have e2:(a==a'&&b==b')=true:=by simp [e]
  rw [e2] at he
  haveI:PutV l d (.bool !true) l':=pf
  exact jfZ ho hw hg he q
end
theorem isB_true {p:Prop} {v:Value} (h:IsB p v) (k:p):v= .bool true:=h.elim (fun x=>x.2) fun x=>absurd k x.1
instance hasRo {h:Hp} {b:Nat} {rw:Bool} {o:Obj} [s:Has h b rw o]:Has (ro h) b false o:=⟨List.mem_map.2 ⟨_,s.mem,rfl⟩⟩
instance subRo {a b:Hp} [s:SubH a b]:SubH (ro a) (ro b):=⟨s.sub.map _⟩
theorem getD_all {zs:List Int} {p:Int→Prop} (h: ∀z∈zs,p z) {k:Nat} (hk:k<zs.length):p (zs.getD k 0):=by
  rw [List.getD_eq_getElem?_getD,List.getElem?_eq_getElem hk];exact h _ (List.getElem_mem _)
end Go.Proofs
namespace Go.Lo
open Go.Conc
section
variable {P:Program} {B:Array Obj} {m:Md P B}
theorem jls {f:FuncId} {fn:Func} {body:Code} {args l:List Value} {n:Nat} {K:Goroutine→Hp→Prop} {h:Hp} (hf:P.funcs[f]?=some fn) (hb:fn.body=some body) (hn:fn.ntmps=n) (hl:args++List.replicate (n-args.length) undef=l)
    (t:m.R K (Gr (bF f) l [] [.code body] []) h):m.R K (G (Frame.enter P f args.toArray .normal) []) h:=by
  have e:Frame.enter P f args.toArray .normal=Fr (bF f) l [] [.code body]:=by
    subst hl
    simp [Frame.enter,hf,hb,hn,Fr,bF]
  rw [e];exact t
theorem jcX {b:Frame} {l:List Value} {todo:List Item} {K:Value→Hp→Prop} {fn:Func} {rs:List ResultVar} {vs:List Value} {v:Value} {h:Hp} (hk:b.kind= .normal) (hf:P.funcs[b.fn]?=some fn) (hi:P.inits.idxOf? b.fn=none) (hr:fn.results=rs.toArray) [ResL P h l rs vs] [ResV vs v] (k:K v h):
    m.R (jjq P B K) (Gret b l [] todo []) h:=by
  refine m.stop ⟨rfl,v,k,fun w sw=>?_⟩
  obtain ⟨h1,h2⟩:=jh0 (P:=P) (B:=B) (h:=h) (l:=l) (vs:=vs) (v:=v) hr w sw
  refine ⟨seen P b.fn ((results fn l.toArray).events P w #[]),?_,fun e he=>h2 e (jbT _ _ _ e he)⟩
  simp [Gret,Fr,G,stepG,unwind,doReturn,hf,h1,hk,hi,GStep.after]
end
section
variable {H:Type} {enc:TypeId×Value→H} {P:Program} {w:World} {base:Nat} {sp:Nat→Bool} {held:Bool}
theorem jgL {a:Addr} {v:Value} {h:Hp} (e:w.cell? a=some v):Rd w.heap h a v:=by
  unfold World.cell? at e
  split at e
  · rename_i c t f hb
    split at e
    · cases e
    · rename_i hs
      exact Rd.base (by simpa using hs) hb e
  · cases e
def jfs (P:Program) (kd:IntKind):Nat→TypeId→Nat→Bool
  |0,_,_=>false
  |dd+1,t,k=>P.cellsOf t==k&&(match P.underlying t with
    |some (.int kk)=>kk==kd&&k==1
    |some (.struct fs)=>(List.range k).all fun i=>(List.range fs.size).any fun j=>match fs[j]? with
      |some f=>decide (f.offset≤i)&&decide (i<f.offset+P.cellsOf f.type)&&jfs P kd dd f.type (P.cellsOf f.type)
      |none=>false
    |_=>false)
theorem jkZ {kd:IntKind} {dd k:Nat} {t:TypeId} (h:jfs P kd dd t k=true):P.cellsOf t=k:=by
  cases dd with
  |zero=>simp [jfs] at h
  |succ dd=>
    unfold jfs at h
    rw [Bool.and_eq_true] at h
    exact eq_of_beq h.1
theorem jgx {kd:IntKind}: ∀(dd:Nat) {t:TypeId} {k fuel:Nat} {cs:List Value} {x:DataW H×List MemPlace},jfs P kd dd t k=true→DataW.trod enc P w base sp held fuel t cs=some x→cs.length=k∧ ∀i,i<k→ ∃n,cs[i]?=some (.int kd n)∧(Lit.int kd n).wf=true
  |0,_,_,_,_,_,hB,_=>by simp [jfs] at hB
  |dd+1,t,k,fuel,cs,x,hB,h=>by
    unfold jfs at hB
    rw [Bool.and_eq_true] at hB
    obtain ⟨hc,hB⟩:=hB
    split at hB
    · rename_i kk hu
      simp only [Bool.and_eq_true,beq_iff_eq] at hB
      obtain ⟨rfl,rfl⟩:=hB
      obtain ⟨n,rfl,_,hw⟩:=DataW.trod_int hu h
      exact ⟨rfl,fun i hi=>⟨n,by rw [show i=0 by omega];rfl,hw⟩⟩
    · rename_i fs hu
      obtain ⟨xs,m,_,_,hl,hxl,hx⟩:=DataW.trod_struct hu h
      rw [beq_iff_eq] at hc
      refine ⟨hl.trans hc,fun i hi=>?_⟩
      obtain ⟨j,hj,hf⟩:=List.any_eq_true.1 (List.all_eq_true.1 hB i (List.mem_range.2 hi))
      split at hf
      · rename_i f hfj
        simp only [Bool.and_eq_true,decide_eq_true_eq] at hf
        obtain ⟨⟨h1,h2⟩,h3⟩:=hf
        have e:=hx j f hfj
        rw [List.getElem?_eq_getElem (by rw [hxl];exact List.mem_range.1 hj)] at e
        obtain ⟨_,hall⟩:=jgx dd h3 e
        obtain ⟨n,hn,hw⟩:=hall (i-f.offset) (by omega)
        rw [List.getElem?_take,if_pos (by omega),List.getElem?_drop,show f.offset+(i-f.offset)=i by omega] at hn
        exact ⟨n,hn,hw⟩
      · cases hf
    · cases hB
end
end Go.Lo
namespace Go.Lo
open Go.Conc
section
variable {P:Program} {B:Array Obj} {W:World}
theorem jlR {K:Value→Hp→Prop} {Post:Value→World→Prop} {g:Goroutine} {h:Hp} (k:jjq P B K g h) (hp: ∀v w,K v h→Sat B h w→(Later W.os w.os∧w.output=W.output∧w.tape=W.tape)→Post v w):
    ∀(old:Nat→Prop) (la wa:Addr) (gs:Array Goroutine) (w:World) (sl:Option (Nat×Nat)) (t:Trace) (Hl:Nat→Hp) (Tf:Nat→TrU) (Dl:Nat→Nat),gs[0]?=some g→Hl 0=h→Cf0 P B W old la wa gs w t Hl Tf Dl→
      ∃(N:Nat) (last:Machine) (tl:Trace) (o:Outcome) (w':World) (t':Trace),runNT P N (crowd gs w sl) t=(.next last,tl)∧runNT P 1 last tl=(.ended o w',t')∧Conc.Good P Post last o w' t':=by
  refine jia (fun gs w sl t=> ∃(N:Nat) (last:Machine) (tl:Trace) (o:Outcome) (w':World) (t':Trace),runNT P N (crowd gs w sl) t=(.next last,tl)∧runNT P 1 last tl=(.ended o w',t')∧Conc.Good P Post last o w' t')
    (fun hs ⟨N,last,tl,o,w',t',e1,e2,e3⟩=>⟨N+1,last,tl,o,w',t',jgE hs e1,e2,e3⟩) k.1 (fun old la wa gs w w0 sl sl0 t Hl Tf Dl h0 hh c hst=>?_)
  obtain ⟨v,hk,he⟩:=k.2
  obtain ⟨es,hs,hev⟩:=he w (by rw [←hh];exact c.core.sat 0)
  have hlt:0<gs.size:=(Array.getElem?_eq_some_iff.1 h0).1
  obtain ⟨s1,s2,s3⟩:=c.core.shared
  have st:Stp B (Hl 0) (Hl 0) w w es:={Stp.refl (c.core.sat 0) with evs:=by rw [hh];exact hev}
  have hT:=c.core.tj.own (lim':=w.heap.size) (B:=B) rfl hlt (h':=Hl 0) rfl rfl st c.core.sat ⟨(c.core.sat 0).base,fun d hd=>by simp at hd,List.Pairwise.nil⟩ (fun j hj=>c.core.apart j 0 hj) (fun d hd=>by simp at hd) s1 (fun b hb=>s2 b hb 0) (fun x=>x rfl) g.frame.fn g.frame.place
  have hrun:stepT P (crowd gs w0 sl0)=(.ended (.done v) w,MemOp.ofEvents 0 g.frame.fn g.frame.place es):=hst.trans (runT_many_ended h0 hs)
  have hk': ∀(i:Nat) (x:MemOp),(t++MemOp.ofEvents 0 g.frame.fn g.frame.place es)[i]?=some x→x.g≠0→(t++MemOp.ofEvents 0 g.frame.fn g.frame.place es).counts i→Knows (t++MemOp.ofEvents 0 g.frame.fn g.frame.place es) 0 i:=fun i x hx hx0 hct=>by
    rcases getElem?_append_cases hx with ⟨_,hy'⟩|⟨_,hyu⟩
    · exact (c.hk i x hy' hx0 ((counts_old (Array.getElem?_eq_some_iff.1 hy').1).1 hct)).app _
    · obtain ⟨e',_,rfl⟩:=jcG hyu
      exact absurd rfl hx0
  refine ⟨0,crowd gs w0 sl0,t,.done v,w,t++MemOp.ofEvents 0 g.frame.fn g.frame.place es,rfl,by simp only [runNT,hrun],v,rfl,hp v _ hk (by rw [←hh];exact c.core.sat 0) c.core.far,hT.clean,TJ.handed hk',⟨fun y hy=>?_,rfl⟩,fun i y hy hi0=>?_⟩
  · have hy':y∈gs.toList.drop 1:=hy
    obtain ⟨j,hj⟩:=List.getElem?_of_mem hy'
    rw [List.getElem?_drop] at hj
    obtain ⟨k,_,q,_⟩:=c.kids (1+j) y (by omega) (by simpa using hj)
    exact ⟨k,q.leaves⟩
  · obtain ⟨k,_,q,_⟩:=c.kids i y hi0 hy
    refine ⟨k,?_⟩
    have:Deaf (t++MemOp.ofEvents 0 g.frame.fn g.frame.place es) i=Dl i:=by
      rw [Deaf_other t (fun x=>hi0 x.symm) _ fun op hop=>by obtain ⟨e',_,rfl⟩:=jcG hop;rfl];exact c.deaf i
    show Goroutine.endsWith P _ k y (Deaf (t++MemOp.ofEvents 0 g.frame.fn g.frame.place es) i)=some 0
    rw [this];exact q.hears _
theorem jk5 {K:Value→Hp→Prop} {Post:Value→World→Prop} {g:Goroutine} (r:(Md.starS P W.heap).R (jjq P W.heap K) g []) (hp: ∀v h w,K v h→Sat W.heap h w→(Later W.os w.os∧w.output=W.output∧w.tape=W.tape)→Post v w):
    ∃M last o w' t',runNT P (M+1) (solo g W) #[]=(.ended o w',t')∧runN P M (solo g W)= .next last∧step P last= .ended o w'∧Conc.Good P Post last o w' t':=by
  have hK: ∀g h,jjq P W.heap K g h→g.status= .running:=fun g h k=>k.1
  have r0:MRunS P W.heap (jjq P W.heap K) none g []:=r
  have hone: ∀(i:Nat) x,(#[g]:Array Goroutine)[i]?=some x→i=0∧x=g:=fun i x hx=>by
    have:i<1:=(Array.getElem?_eq_some_iff.1 hx).1
    obtain rfl:i=0:=by omega
    simp at hx
    exact ⟨rfl,hx.symm⟩
  have satN:Sat W.heap [] W:=⟨fun i o h=>h,by simp,List.Pairwise.nil⟩
  have c0:Cf0 P W.heap W (fun _=>False) ⟨0,0,none⟩ ⟨0,0,none⟩ #[g] W #[] (fun _=>[]) (fun _=> .leaf) (fun _=>0):=by
    refine ⟨⟨fun i=>satN,satN,fun i j _ c hc=>by simp at hc,fun i c hc=>by simp at hc,fun c hc=>by simp at hc,fun b hb=>hb.elim,?_,⟨.refl _,rfl,rfl⟩,fun i hi=>rfl,fun i x hx=>?_⟩,fun i=>jge fun op hop=>by simp at hop,rfl,fun i x hi hx=>absurd (hone i x hx).1 hi,fun i x hx=>by simp at hx⟩
    · have:(fun b=>False∨ ∃c∈([]:Hp),c.b=b)=(fun _=>False):=by funext b;simp
      rw [this];exact TJ.zero
    · rw [(hone i x hx).2];exact .runs (r0.running hK)
  obtain ⟨N,g',gs',w',sl',t',Hl',Tf',Dl',old',la',wa',h1,h2,h3,h4⟩:=jlP hK r0 _ _ _ #[g] W none #[] (fun _=>[]) (fun _=> .leaf) (fun _=>0) (by simp) rfl c0
  obtain ⟨N2,last,tl,o,w'',t'',e1,e2,e3⟩:=jlR (Post:=Post) (W:=W) h3 (fun v w hk hs hf=>hp v _ w hk hs hf) old' la' wa' gs' w' sl' t' Hl' Tf' Dl' h2 rfl h4
  have hrun:runNT P (N+N2) (solo g W) #[]=(.next last,tl):=by
    rw [solo_eq_crowd];exact runNT_trans' h1 e1
  refine ⟨N+N2,last,o,w'',t'',runNT_trans' hrun e2,?_,?_,e3⟩
  · rw [←runNT_fst P _ _ #[],hrun]
  · have:(runNT P 1 last tl).1= .ended o w'':=by rw [e2]
    unfold step
    simp only [runNT] at e2
    cases hs:stepT P last with
    |mk s u=>
      rw [hs] at e2
      cases s with
      |next m1=>simp at e2
      |ended o1 w1=>simp only [Prod.mk.injEq,Stepped.ended.injEq] at e2;obtain ⟨⟨rfl,rfl⟩,_⟩:=e2;rfl
end
end Go.Lo
namespace Go.Lo
open Go.Conc
section
variable {P:Program}
theorem jmn {W:World} {f:FuncId} {args:Array Value} (r:(Md.starS P W.heap).R (jjq P W.heap fun v _=>v= .bool true) (G (Frame.enter P f args .normal) []) []):
    ∃M last o w' t',runNT P (M+1) (solo (G (Frame.enter P f args .normal) []) W) #[]=(.ended o w',t')∧runN P M (solo (G (Frame.enter P f args .normal) []) W)= .next last∧step P last= .ended o w'∧Conc.Good P (fun v w'=>v= .bool true∧ConcM.OsLater W.os w'.os∧RowKit.Below W.heap.size W {w' with os:=W.os}) last o w' t':=
  jk5 r fun v h w hk s ho=>⟨hk,ho.1,rfl,ho.2.2,ho.2.1,s.size,fun k hk=>by
    show w.heap[k]?=_
    rw [Array.getElem?_eq_getElem hk];exact s.base _ _ (Array.getElem?_eq_getElem hk)⟩
end
theorem jji {P:Program} (m:Machine) (h:m.world.tape=fun _ _=>0):({calm:=true}:Assume).holds P m:=by
  simp only [Assume.holds,h]
  exact ⟨by simp,fun _ _ _ _=>rfl,by simp,by simp,by simp⟩
theorem jhH {H:Type} {enc:TypeId×Value→H} {f:FuncId} {fn:Func} {C:Checked} {os:Os} {s:ChangeSpec} {conds:List PathCond} {apart:Bool} {X:World→Array Value→Prop} (w0:World) (args:Array Value) (fuel:Nat) (hos:w0.os=os)
    (hsh:(w0.forCall (fun _ _=>0) ⟨#[],args,[]⟩).Shaped C.prog)
    (hok:Input.okWideB C.prog (w0.forCall (fun _ _=>0) ⟨#[],args,[]⟩) f ⟨#[],args,[]⟩=true)
    (hpre:s.preB enc C.prog fn conds apart (w0.forCall (fun _ _=>0) ⟨#[],args,[]⟩).memory args fuel=true)
    (hsz:s.sizedB enc C.prog fn apart (w0.forCall (fun _ _=>0) ⟨#[],args,[]⟩).memory args fuel=true)
    (hx:X (w0.forCall (fun _ _=>0) ⟨#[],args,[]⟩).memory args):
    ∃(w:World) (tape:Tape) (i:Input),w.os=os∧(w.forCall tape i).Shaped C.prog∧i.vars=[]∧Input.okWide C.prog (w.forCall tape i) .any w.heap.size f i∧
      ((s.pre enc C.prog fn conds apart (w.forCall tape i).memory i.args∧X (w.forCall tape i).memory i.args)∧sizedMet enc C.prog fn (OpenSpec.ofChange s) apart (w.forCall tape i).memory i.args)∧({calm:=true}:Assume).holds C.prog (lone (Frame.enter C.prog f i.args .normal) [] (w.forCall tape i)):=
  ⟨w0,fun _ _=>0,⟨#[],args,[]⟩,hos,hsh,(Input.okWide_of_okWideB (base:=0) hok).1,(Input.okWide_of_okWideB hok).2,⟨⟨ChangeSpec.pre_of_preB hpre,hx⟩,sizedMet_of_sizedB hsz⟩,jji _ rfl⟩
theorem jbE {H:Type} {enc:TypeId×Value→H} {a:Assume} {C:Checked} {os:Os} {f:FuncId} {fn:Func} {s:ChangeSpec} {F:Stop.Interp} {conds:List PathCond} {apart fresh handsOn:Bool} {X:World→Array Value→Prop}
    (hX: ∀(w w':World) (args:Array Value),w.heap=w'.heap→X w args→X w' args)
    (own:ownKnob C.prog.godebug=none) (started:os.Started) (hfn:C.prog.funcs[f]?=some fn)
    (witness: ∃(w:World) (tape:Tape) (i:Input),w.os=os∧(w.forCall tape i).Shaped C.prog∧i.vars=[]∧Input.okWide C.prog (w.forCall tape i) .any w.heap.size f i∧
      ((s.pre enc C.prog fn conds apart (w.forCall tape i).memory i.args∧X (w.forCall tape i).memory i.args)∧sizedMet enc C.prog fn (OpenSpec.ofChange s) apart (w.forCall tape i).memory i.args)∧a.holds C.prog (lone (Frame.enter C.prog f i.args .normal) [] (w.forCall tape i)))
    (runs: ∀(W:World) (base:Nat) (args:Array Value) (ds gs:List (DataW H)) (jbn:List MemPlace),
      (∀(j:Nat) t v,fn.params[j]?=some t→args[j]?=some v→Value.okWide C.prog W .any base t v)→
      DataW.Whole enc C.prog fn.params.toList s.vars apart W args.toList ds gs jbn→X W args→
      ∃M last o w' t',runNT C.prog (M+1) (solo (G (Frame.enter C.prog f args .normal) []) W) #[]=(.ended o w',t')∧runN C.prog M (solo (G (Frame.enter C.prog f args .normal) []) W)= .next last∧
        step C.prog last= .ended o w'∧Conc.Good C.prog (fun v W'=>s.post enc C.prog fn apart fresh handsOn false W args v {W' with os:=W.os}∧ConcM.OsLater W.os W'.os) last o w' t'):
    ReturnsInLeavingWide a C os f .any (fun w args=>(s.pre enc C.prog fn conds apart w args∧X w args)∧sizedMet enc C.prog fn (OpenSpec.ofChange s) apart w args) ((OpenSpec.ofChange s).postWith enc C.prog fn F (outsideKept [.timePasses]) apart fresh handsOn):=by
  refine returnsInLeavingWide_of_good own started witness ?_
  intro w tape i _ _ _ hok hpre _
  obtain ⟨_,_,_,fn',hfn',_,_,_,_,hval⟩:=hok
  have e:fn'=fn:=Option.some.inj (hfn'.symm.trans hfn)
  subst e
  obtain ⟨⟨⟨ds,gs,jbn,hw,_⟩,hx⟩,_⟩:=hpre
  have hw':=DataW.Whole.of_heap (w':=w.forCall tape i) (by rfl) hw
  obtain ⟨M,last,o,w',t',h1,h2,h3,h4⟩:=runs (w.forCall tape i) w.heap.size i.args ds gs jbn hval hw' (hX _ _ _ (by rfl) hx)
  obtain ⟨v,e,hp,r1,r2,r3,r4⟩:=h4
  exact ⟨M,last,o,w',t',h1,h2,h3,v,e,postWith_blind (postWith_of_post hp.1 hp.2),r1,r2,r3,r4⟩
section
variable {H:Type} {enc:TypeId×Value→H} {P:Program} {w:World} {base:Nat} {sp:Nat→Bool} {held:Bool}
def jec:Option IntKind→Value→Prop
  |some kd,v=> ∃n,v= .int kd n∧(Lit.int kd n).wf=true
  |none,v=> ∃b,v= .bool b
def jig (P:Program):Nat→TypeId→List (Option IntKind)→Bool
  |0,_,_=>false
  |dd+1,t,ks=>P.cellsOf t==ks.length&&(match P.underlying t with
    |some (.int kk)=>ks==[some kk]
    |some .bool=>ks==[none]
    |some (.struct fs)=>(List.range ks.length).all fun i=>(List.range fs.size).any fun j=>match fs[j]? with
      |some f=>decide (f.offset≤i)&&decide (i<f.offset+P.cellsOf f.type)&&jig P dd f.type ((ks.drop f.offset).take (P.cellsOf f.type))
      |none=>false
    |_=>false)
theorem jkV {dd:Nat} {t:TypeId} {ks:List (Option IntKind)} (h:jig P dd t ks=true):P.cellsOf t=ks.length:=by
  cases dd with
  |zero=>simp [jig] at h
  |succ dd=>
    unfold jig at h
    rw [Bool.and_eq_true] at h
    exact eq_of_beq h.1
theorem jhJ: ∀(dd:Nat) {t:TypeId} {ks:List (Option IntKind)} {fuel:Nat} {cs:List Value} {x:DataW H×List MemPlace},jig P dd t ks=true→DataW.trod enc P w base sp held fuel t cs=some x→cs.length=ks.length∧ ∀(i:Nat) (k:Option IntKind),ks[i]?=some k→ ∃v,cs[i]?=some v∧jec k v
  |0,_,_,_,_,_,hB,_=>by simp [jig] at hB
  |dd+1,t,ks,fuel,cs,x,hB,h=>by
    unfold jig at hB
    rw [Bool.and_eq_true] at hB
    obtain ⟨hc,hB⟩:=hB
    split at hB
    · rename_i kk hu
      obtain rfl:=eq_of_beq hB
      obtain ⟨n,rfl,_,hw⟩:=DataW.trod_int hu h
      refine ⟨rfl,fun i k hi=>?_⟩
      have hlt:i<1:=(List.getElem?_eq_some_iff.1 hi).1
      obtain rfl:i=0:=by omega
      obtain rfl:=Option.some.inj hi
      exact ⟨_,rfl,n,rfl,hw⟩
    · rename_i hu
      obtain rfl:=eq_of_beq hB
      obtain ⟨b,rfl,_⟩:=DataW.trod_bool hu h
      refine ⟨rfl,fun i k hi=>?_⟩
      have hlt:i<1:=(List.getElem?_eq_some_iff.1 hi).1
      obtain rfl:i=0:=by omega
      obtain rfl:=Option.some.inj hi
      exact ⟨_,rfl,b,rfl⟩
    · rename_i fs hu
      obtain ⟨xs,m,_,_,hl,hxl,hx⟩:=DataW.trod_struct hu h
      rw [beq_iff_eq] at hc
      refine ⟨hl.trans hc,fun i k hi=>?_⟩
      have hlt:i<ks.length:=(List.getElem?_eq_some_iff.1 hi).1
      obtain ⟨j,hj,hf⟩:=List.any_eq_true.1 (List.all_eq_true.1 hB i (List.mem_range.2 hlt))
      split at hf
      · rename_i f hfj
        simp only [Bool.and_eq_true,decide_eq_true_eq] at hf
        obtain ⟨⟨h1,h2⟩,h3⟩:=hf
        have e:=hx j f hfj
        rw [List.getElem?_eq_getElem (by rw [hxl];exact List.mem_range.1 hj)] at e
        obtain ⟨_,hall⟩:=jhJ dd h3 e
        obtain ⟨v,hv,ho⟩:=hall (i-f.offset) k (by
          rw [List.getElem?_take,if_pos (by omega),List.getElem?_drop,show f.offset+(i-f.offset)=i by omega];exact hi)
        rw [List.getElem?_take,if_pos (by omega),List.getElem?_drop,show f.offset+(i-f.offset)=i by omega] at hv
        exact ⟨v,hv,ho⟩
      · cases hf
    · cases hB
theorem jeV {t e:TypeId} {ks:List (Option IntKind)} {fuel:Nat} {cs:List Value} {x:DataW H×List MemPlace} (hu:P.underlying t=some (.slice e)) (hB:jig P 4 e ks=true) (h:DataW.trod enc P w base sp held fuel t cs=some x) (hs: ∀a n c,cs=[.slice (some a) n c]→a.spot=none):
    ∃(p:Option Addr) (n c:Nat) (V:Nat→Value),cs=[.slice p n c]∧n≤c∧RdS w.heap [] ks.length (.slice p n c) n ((List.range (n*ks.length)).map V)∧ ∀q,q<n*ks.length→ ∀k,ks[q%ks.length]?=some k→jec k (V q):=by
  rcases Deep.open_slice hu h with ⟨rfl,_⟩|⟨a,len,cap,m,n,D,Pl,rfl,hb,hl,hm,hmm,_,hx⟩
  · exact ⟨none,0,0,fun _=>undef,rfl,Nat.le_refl _,⟨none,0,rfl,by simp,.inl ⟨rfl,rfl⟩⟩,fun q hq=>by omega⟩
  · have hlm:len≤m:=by rw [hmm];split<;>omega
    have hc:P.cellsOf e=ks.length:=jkV hB
    obtain ⟨ab,ao,sx⟩:=a
    obtain rfl:sx=none:=hs _ _ _ rfl
    obtain ⟨V,hV⟩:=Deep.choose_lt (α:=Value) (n:=len*ks.length) (p:=fun q v=>w.cell? ⟨ab,ao+q,none⟩=some v∧ ∀k,ks[q%ks.length]?=some k→jec k v) (fun q hq=>by
      have hk:0<ks.length:=by rcases Nat.eq_zero_or_pos ks.length with e0|e0;rw [e0] at hq;simp at hq;exact e0
      have hi:q/ks.length<len:=Nat.div_lt_of_lt_mul (by rw [Nat.mul_comm];exact hq)
      obtain ⟨cs',h1,h2⟩:=hx (q/ks.length) (by omega)
      obtain ⟨_,hlen,hcell⟩:=World.cells?_some h1
      obtain ⟨_,hall⟩:=jhJ 4 hB h2
      have hqm:q%ks.length<ks.length:=Nat.mod_lt _ hk
      obtain ⟨v,hz,hw⟩:=hall (q%ks.length) _ (List.getElem?_eq_getElem hqm)
      refine ⟨v,?_,fun k hk'=>?_⟩
      · have:=hcell (q%ks.length) (by rw [hc];exact hqm)
        rw [hz,Addr.add_none,Addr.add_none,hc] at this
        rw [←this];have e:=Nat.div_add_mod q ks.length
        have e2:q/ks.length*ks.length=ks.length*(q/ks.length):=Nat.mul_comm _ _
        congr 2;omega
      · rw [List.getElem?_eq_getElem hqm] at hk'
        obtain rfl:=Option.some.inj hk'
        exact hw)
    refine ⟨some ⟨ab,ao,none⟩,len,cap,V,rfl,hl,⟨_,cap,rfl,by simp,.inr ⟨ab,ao,rfl,fun j hj=>?_⟩⟩,fun q hq=>(hV q hq).2⟩
    have hj':j<len*ks.length:=by simpa using hj
    have:((List.range (len*ks.length)).map V).getD j undef=V j:=by
      rw [List.getD_eq_getElem?_getD,List.getElem?_map,List.getElem?_range hj'];rfl
    rw [this];exact jgL (hV j hj').1
end
theorem jeM {α:Type} {k:Nat} [Enc α k] {V:Nat→Value} {mk:Nat→α}: ∀n,(∀j,j<n→Enc.enc (mk j)=(List.range k).map fun i=>V (j*k+i))→encs ((List.range n).map mk)=(List.range (n*k)).map V
  |0,_=>by simp [encs]
  |n+1,h=>by
    rw [List.range_succ,List.map_append,jaV,jeM n fun j hj=>h j (by omega),Nat.succ_mul,List.range_add,List.map_append];congr 1
    rw [List.map_map];show encs [mk n]=_
    rw [encs,encs,List.append_nil,h n (by omega)];rfl
end Go.Lo
namespace Go.Lo
set_option maxRecDepth 100000
section
variable {H:Type} {enc:TypeId×Value→H} {P:Program} {w:World} {base:Nat} {sp:Nat→Bool} {held:Bool}
theorem jdK {kd:IntKind} {t e:TypeId} {k fuel:Nat} {cs:List Value} {x:DataW H×List MemPlace} (hu:P.underlying t=some (.slice e)) (hB:jfs P kd 3 e k=true) (h:DataW.trod enc P w base sp held fuel t cs=some x) (hs: ∀a n c,cs=[.slice (some a) n c]→a.spot=none):
    ∃(p:Option Addr) (n c:Nat) (zs:List Int),cs=[.slice p n c]∧n≤c∧zs.length=n*k∧RdS w.heap [] k (.slice p n c) n (zs.map (Value.int kd))∧ ∀z∈zs,(Lit.int kd z).wf=true:=by
  rcases Deep.open_slice hu h with ⟨rfl,_⟩|⟨a,len,cap,m,n,D,Pl,rfl,hb,hl,hm,hmm,_,hx⟩
  · exact ⟨none,0,0,[],rfl,Nat.le_refl _,by simp,⟨none,0,rfl,by simp,.inl ⟨rfl,rfl⟩⟩,fun z hz=>by simp at hz⟩
  · have hlm:len≤m:=by rw [hmm];split<;>omega
    have hc:P.cellsOf e=k:=jkZ hB
    obtain ⟨ab,ao,sx⟩:=a
    obtain rfl:sx=none:=hs _ _ _ rfl
    obtain ⟨V,hV⟩:=Deep.choose_lt (α:=Int) (n:=len*k) (p:=fun q z=>w.cell? ⟨ab,ao+q,none⟩=some (.int kd z)∧(Lit.int kd z).wf=true) (fun q hq=>by
      have hk:0<k:=by rcases Nat.eq_zero_or_pos k with e0|e0;subst e0;simp at hq;exact e0
      have hi:q/k<len:=Nat.div_lt_of_lt_mul (by rw [Nat.mul_comm];exact hq)
      obtain ⟨cs',h1,h2⟩:=hx (q/k) (by omega)
      obtain ⟨_,hlen,hcell⟩:=World.cells?_some h1
      obtain ⟨_,hall⟩:=jgx 3 hB h2
      obtain ⟨z,hz,hw⟩:=hall (q%k) (Nat.mod_lt _ hk)
      refine ⟨z,?_,hw⟩
      have:=hcell (q%k) (by rw [hc];exact Nat.mod_lt _ hk)
      rw [hz,Addr.add_none,Addr.add_none,hc] at this
      rw [←this];have e:=Nat.div_add_mod q k
      have e2:q/k*k=k*(q/k):=Nat.mul_comm _ _
      congr 2;omega)
    refine ⟨some ⟨ab,ao,none⟩,len,cap,(List.range (len*k)).map V,rfl,hl,by simp,⟨_,cap,rfl,by simp,.inr ⟨ab,ao,rfl,fun j hj=>?_⟩⟩,fun z hz=>?_⟩
    · have hj':j<len*k:=by simpa using hj
      have:(((List.range (len*k)).map V).map (Value.int kd)).getD j undef= .int kd (V j):=by
        rw [List.getD_eq_getElem?_getD,List.getElem?_map,List.getElem?_map,List.getElem?_range hj'];rfl
      rw [this];exact jgL (hV j hj').1
    · obtain ⟨q,hq,rfl⟩:=List.mem_map.1 hz
      exact (hV q (List.mem_range.1 hq)).2
theorem jeg {r:Reach} {b0:Nat} {t e:TypeId} {v:Value} (hu:P.underlying t=some (.slice e)) (h:Cell.okWide P w r b0 t v): ∀a n c,[v]=[.slice (some a) n c]→a.spot=none:=fun a n c e1=>by
  obtain rfl:=List.head_eq_of_cons_eq e1
  unfold Cell.okWide at h
  rw [hu] at h
  simp only [Cell.ok,hu] at h
  exact h.2.2.2.1
end
end Go.Lo
namespace Go.Proofs
open Go.Lo
set_option maxRecDepth 100000
section
variable {H:Type} {enc:TypeId×Value→H} {w:World} {sp:Nat→Bool} {held:Bool}
theorem int_arg {r:Reach} {b0:Nat} {t:TypeId} {kd:IntKind} {v:Value} {d:DataW H} {ps:List MemPlace} (ht: Tryz.prog.underlying t=some (.int kd)) (hv:Value.okWide Tryz.prog w r b0 t v) (h:DataW.Trod enc Tryz.prog w 0 sp held t v d ps):
    ∃n,v= .int kd n∧(Lit.int kd n).wf=true:=by
  obtain ⟨n,e,_,_,hw⟩:=ChangeShapes.open_int ht hv h
  exact ⟨n,e,hw⟩
theorem nat_arg {n M:Int} {kd:IntKind} {v:Value} (e:v= .int kd n∧(Lit.int kd n).wf=true) (h:(Lit.int kd n).wf=true→0≤n∧n≤M): ∃z:Nat,v= .int kd (z:Int)∧(z:Int)≤M:=by
  obtain ⟨h0,h1⟩:=h e.2
  exact ⟨n.toNat,by rw [e.1,Int.toNat_of_nonneg h0],by rw [Int.toNat_of_nonneg h0];exact h1⟩
theorem u8_arg {r:Reach} {b0:Nat} {v:Value} {d:DataW H} {ps:List MemPlace} (hv:Value.okWide Tryz.prog w r b0 5 v) (h:DataW.Trod enc Tryz.prog w 0 sp held 5 v d ps): ∃z:Nat,v= .int .u8 (z:Int)∧z≤255:=by
  obtain ⟨n,e⟩:=int_arg (kd:= .u8) (by kernel_rfl) hv h
  obtain ⟨z,e,hz⟩:=nat_arg (M:=255) e (fun hw=>by simp [Lit.wf,IntKind.min,IntKind.max,IntKind.signed,IntKind.bits] at hw;omega)
  exact ⟨z,e,by omega⟩
theorem nums_arg {r:Reach} {b0:Nat} {t e:TypeId} {kd:IntKind} {v:Value} {d:DataW H} {ps:List MemPlace} (hu: Tryz.prog.underlying t=some (.slice e)) (hB:jfs Tryz.prog kd 3 e 1=true) (hv:Value.okWide Tryz.prog w r b0 t v) (h:DataW.Trod enc Tryz.prog w 0 sp held t v d ps):
    ∃(p:Option Addr) (n c:Nat) (xs:List Int),v= .slice p n c∧RdS w.heap [] 1 (.slice p n c) n (xs.map (Value.int kd))∧ ∀x∈xs,(Lit.int kd x).wf=true:=by
  have hv':Cell.okWide Tryz.prog w r b0 t v:=by
    unfold Value.okWide at hv
    rw [hu] at hv
    exact hv
  obtain ⟨fuel,h⟩:=h
  have hsl:v.cells.toList=[v]:=by
    unfold Cell.okWide at hv'
    rw [hu] at hv'
    cases v<;>first|rfl|(simp [Cell.ok,hu] at hv')
  rw [hsl] at h
  obtain ⟨p,n,c,zs,e,_,_,rd,hw⟩:=jdK hu hB h (jeg hu hv')
  exact ⟨p,n,c,zs,List.head_eq_of_cons_eq e,rd,hw⟩
theorem picks_arg {r:Reach} {b0:Nat} {v:Value} {d:DataW H} {ps:List MemPlace} (hv:Value.okWide Tryz.prog w r b0 27 v) (h:DataW.Trod enc Tryz.prog w 0 sp held 27 v d ps):
    ∃(p:Option Addr) (n c:Nat) (xs:List Int),v= .slice p n c∧RdS w.heap [] 1 (.slice p n c) n (xs.map (Value.int .u16))∧ ∀x∈xs,0≤x∧x≤65535:=by
  obtain ⟨p,n,c,xs,e,rd,hw⟩:=nums_arg (e:=60) (kd:= .u16) (by kernel_rfl) (by kernel_rfl) hv h
  exact ⟨p,n,c,xs,e,rd,fun x hx=>by have:=hw x hx;simp [Lit.wf,IntKind.min,IntKind.max,IntKind.signed,IntKind.bits] at this;omega⟩
theorem trodAll_cons {P:Program} {base:Nat} {t:TypeId} {ts:List TypeId} {vs:List Value} {ds:List (DataW H)} {ps:List MemPlace} (h:DataW.TrodAll enc P w base sp held (t::ts) vs ds ps):
    ∃v vr d dr p q,vs=v::vr∧ds=d::dr∧ps=p++q∧DataW.Trod enc P w base sp held t v d p∧DataW.TrodAll enc P w base sp held ts vr dr q:=by
  cases vs with
  |nil=>cases ds<;>exact absurd h id
  |cons v vr=>
    cases ds with
    |nil=>exact absurd h id
    |cons d dr=>
      obtain ⟨p,q,h1,h2,e⟩:=h
      exact ⟨v,vr,d,dr,p,q,rfl,rfl,e,h1,h2⟩
theorem trodAll_end {P:Program} {base:Nat} {vs:List Value} {ds:List (DataW H)} {ps:List MemPlace} (h:DataW.TrodAll enc P w base sp held [] vs ds ps):vs=[]∧ds=[]∧ps=[]:=by
  cases vs with
  |nil=>
    cases ds with
    |nil=>exact ⟨rfl,rfl,h⟩
    |cons d dr=>exact absurd h id
  |cons v vr=>cases ds<;>exact absurd h id
theorem trodAll_more {P:Program} {base:Nat} {t:TypeId} {ts:List TypeId} {v:Value} {vs:List Value} {d:DataW H} {ds:List (DataW H)} {p q:List MemPlace} (h:DataW.Trod enc P w base sp held t v d p) (k:DataW.TrodAll enc P w base sp held ts vs ds q):DataW.TrodAll enc P w base sp held (t::ts) (v::vs) (d::ds) (p++q):=⟨p,q,h,k,rfl⟩
def toI:Value→Int| .int _ n=>n|_=>0
def toB:Value→Bool| .bool b=>b|_=>false
theorem jjO {v:Value} (h:jec (some .i64) v):v= .int .i64 (toI v):=by obtain ⟨n,rfl,_⟩:=h;rfl
theorem ok_bool {v:Value} (h:jec none v):v= .bool (toB v):=by obtain ⟨b,rfl⟩:=h;rfl
theorem jfM {ks:List (Option IntKind)} {n:Nat} {V:Nat→Value} (h: ∀q,q<n*ks.length→ ∀k,ks[q%ks.length]?=some k→jec k (V q)) {j i:Nat} (hj:j<n) (hi:i<ks.length):jec ks[i] (V (j*ks.length+i)):=by
  have hm:(j*ks.length+i)%ks.length=i:=by rw [Nat.mul_comm,Nat.mul_add_mod,Nat.mod_eq_of_lt hi]
  refine h _ ?_ _ (by rw [hm];exact List.getElem?_eq_getElem hi)
  have:=Nat.mul_le_mul_right ks.length (show j+1≤n by omega)
  rw [Nat.succ_mul] at this;omega
theorem pts_of {n:Nat} {V:Nat→Value} (h: ∀q,q<n*3→ ∀k,[some IntKind.i64,some .i64,some .i64][q%3]?=some k→jec k (V q)):encs ((List.range n).map fun j=>(⟨toI (V (j*3)),toI (V (j*3+1)),toI (V (j*3+2))⟩:Pt))=(List.range (n*3)).map V:=
  jeM n fun j hj=>by
    have r: ∀i,(hi:i<3)→V (j*3+i)= .int .i64 (toI (V (j*3+i))):=fun i hi=>jjO (by
      have:=jfM (ks:=[some IntKind.i64,some .i64,some .i64]) h hj hi
      match i,hi with
      |0,_=>exact this
      |1,_=>exact this
      |2,_=>exact this)
    show [Value.int .i64 _,.int .i64 _,.int .i64 _]=[V (j*3+0),V (j*3+1),V (j*3+2)]
    rw [r 0 (by omega),r 1 (by omega),r 2 (by omega)];rfl
theorem tps_of {n:Nat} {V:Nat→Value} (h: ∀q,q<n*4→ ∀k,[some IntKind.i64,some .i64,some .i64,some .i64][q%4]?=some k→jec k (V q)):encs ((List.range n).map fun j=>(⟨toI (V (j*4)),toI (V (j*4+1)),toI (V (j*4+2)),toI (V (j*4+3))⟩:Tp))=(List.range (n*4)).map V:=
  jeM n fun j hj=>by
    have r: ∀i,(hi:i<4)→V (j*4+i)= .int .i64 (toI (V (j*4+i))):=fun i hi=>jjO (by
      have:=jfM (ks:=[some IntKind.i64,some .i64,some .i64,some .i64]) h hj hi
      match i,hi with
      |0,_=>exact this
      |1,_=>exact this
      |2,_=>exact this
      |3,_=>exact this)
    show [Value.int .i64 _,.int .i64 _,.int .i64 _,.int .i64 _]=[V (j*4+0),V (j*4+1),V (j*4+2),V (j*4+3)]
    rw [r 0 (by omega),r 1 (by omega),r 2 (by omega),r 3 (by omega)];rfl
theorem sks_of {n:Nat} {V:Nat→Value} (h: ∀q,q<n*3→ ∀k,[some IntKind.i64,some .i64,none][q%3]?=some k→jec k (V q)):encs ((List.range n).map fun j=>(⟨toI (V (j*3)),toI (V (j*3+1)),toB (V (j*3+2))⟩:Sk))=(List.range (n*3)).map V:=
  jeM n fun j hj=>by
    have r0:V (j*3+0)= .int .i64 (toI (V (j*3+0))):=jjO (jfM (ks:=[some IntKind.i64,some .i64,none]) h hj (show 0<3 by omega))
    have r1:V (j*3+1)= .int .i64 (toI (V (j*3+1))):=jjO (jfM (ks:=[some IntKind.i64,some .i64,none]) h hj (show 1<3 by omega))
    have r2:V (j*3+2)= .bool (toB (V (j*3+2))):=ok_bool (jfM (ks:=[some IntKind.i64,some .i64,none]) h hj (show 2<3 by omega))
    show [Value.int .i64 _,.int .i64 _,.bool _]=[V (j*3+0),V (j*3+1),V (j*3+2)]
    rw [r0,r1,r2];rfl
theorem book_arg {r:Reach} {b0:Nat} {v:Value} {d:DataW H} {ps:List MemPlace} (hv:Value.okWide Tryz.prog w r b0 26 v) (h:DataW.Trod enc Tryz.prog w 0 sp held 26 v d ps):
    ∃b pp np cp pt nt ct pk nk ck,v=fbV b pp np cp pt nt ct pk nk ck∧np≤cp∧nt≤ct∧nk≤ck∧RdS w.heap [] 3 (.slice pp np cp) np (encs b.pts)∧RdS w.heap [] 4 (.slice pt nt ct) nt (encs b.tapes)∧RdS w.heap [] 3 (.slice pk nk ck) nk (encs b.sticks)∧In64 b.plank:=by
  obtain ⟨fs,hu,hfs⟩: ∃fs,Tryz.prog.underlying 26=some (.struct fs)∧fs.toList.map (fun f=>(f.offset,f.type))=[(0,3),(1,22),(2,23),(3,24)]:=⟨_,Tryz.underlying26,by kernel_rfl⟩
  have hct: Tryz.prog.cellTypes Tryz.prog.depth 26=some [3,22,23,24]:=by kernel_rfl
  have h3: Tryz.prog.underlying 3=some (.int .i64):=by kernel_rfl
  have h22: Tryz.prog.underlying 22=some (.slice 32):=by kernel_rfl
  have h23: Tryz.prog.underlying 23=some (.slice 89):=by kernel_rfl
  have h24: Tryz.prog.underlying 24=some (.slice 50):=by kernel_rfl
  unfold Value.okWide at hv
  rw [hu] at hv
  obtain ⟨cs,rfl,hsz,ts,hts,_,hall⟩:=hv
  rw [hct] at hts
  obtain rfl:=Option.some.inj hts
  obtain ⟨fuel,h⟩:=h
  obtain ⟨xs,m,_,_,hl,hxl,hx⟩:=DataW.trod_struct hu h
  have hl4:cs.size=4:=hsz.trans (by kernel_rfl)
  obtain ⟨cl⟩:=cs
  have hl4':cl.length=4:=hl4
  obtain ⟨c0,c1,c2,c3,rfl⟩: ∃c0 c1 c2 c3,cl=[c0,c1,c2,c3]:=by
    match cl,hl4' with
    |[c0,c1,c2,c3],_=>exact ⟨_,_,_,_,rfl⟩
  obtain ⟨f0,f1,f2,f3,rfl⟩: ∃f0 f1 f2 f3,fs= #[f0,f1,f2,f3]:=by
    obtain ⟨fl⟩:=fs
    have hlen:fl.length=4:=by simpa using congrArg List.length hfs
    match fl,hlen with
    |[f0,f1,f2,f3],_=>exact ⟨_,_,_,_,rfl⟩
  simp only [List.map_cons,List.map_nil,List.cons.injEq,Prod.mk.injEq,and_true] at hfs
  obtain ⟨⟨o0,t0⟩,⟨o1,t1⟩,⟨o2,t2⟩,o3,t3⟩:=hfs
  have s3: Tryz.prog.cellsOf 3=1:=by kernel_rfl
  have s22: Tryz.prog.cellsOf 22=1:=by kernel_rfl
  have s23: Tryz.prog.cellsOf 23=1:=by kernel_rfl
  have s24: Tryz.prog.cellsOf 24=1:=by kernel_rfl
  have go: ∀i,i<4→ ∃y,xs[i]?=some y:=fun i hi=>⟨_,List.getElem?_eq_getElem (by rw [hxl];exact hi)⟩
  obtain ⟨y0,e0⟩:=go 0 (by omega);obtain ⟨y1,e1⟩:=go 1 (by omega);obtain ⟨y2,e2⟩:=go 2 (by omega);obtain ⟨y3,e3⟩:=go 3 (by omega)
  have g0:=(hx 0 f0 rfl).trans e0
  have g1:=(hx 1 f1 rfl).trans e1
  have g2:=(hx 2 f2 rfl).trans e2
  have g3:=(hx 3 f3 rfl).trans e3
  rw [t0,o0,s3] at g0
  rw [t1,o1,s22] at g1
  rw [t2,o2,s23] at g2
  rw [t3,o3,s24] at g3
  obtain ⟨n0,q0,_,w0⟩:=DataW.trod_int h3 g0
  obtain rfl:=List.head_eq_of_cons_eq (show [c0]=[Value.int .i64 n0] from q0)
  obtain ⟨u1,hu1,k1⟩:=hall 1 c1 rfl
  obtain ⟨u2,hu2,k2⟩:=hall 2 c2 rfl
  obtain ⟨u3,hu3,k3⟩:=hall 3 c3 rfl
  obtain rfl:22=u1:=Option.some.inj hu1
  obtain rfl:23=u2:=Option.some.inj hu2
  obtain rfl:24=u3:=Option.some.inj hu3
  obtain ⟨pp,np,cp,V1,em,hcp,rdp,hp⟩:=jeV (ks:=[some IntKind.i64,some .i64,some .i64]) (cs:=[c1]) h22 (by kernel_rfl) g1 (jeg h22 k1)
  obtain ⟨pt,nt,ct,V2,er,hct',rdt,ht⟩:=jeV (ks:=[some IntKind.i64,some .i64,some .i64,some .i64]) (cs:=[c2]) h23 (by kernel_rfl) g2 (jeg h23 k2)
  obtain ⟨pk,nk,ck,V3,es,hck,rdk,hk⟩:=jeV (ks:=[some IntKind.i64,some .i64,none]) (cs:=[c3]) h24 (by kernel_rfl) g3 (jeg h24 k3)
  obtain rfl:=List.head_eq_of_cons_eq em
  obtain rfl:=List.head_eq_of_cons_eq er
  obtain rfl:=List.head_eq_of_cons_eq es
  have rp:RdS w.heap [] 3 (.slice pp np cp) np ((List.range (np*3)).map V1):=rdp
  have rt:RdS w.heap [] 4 (.slice pt nt ct) nt ((List.range (nt*4)).map V2):=rdt
  have rk:RdS w.heap [] 3 (.slice pk nk ck) nk ((List.range (nk*3)).map V3):=rdk
  rw [←pts_of hp] at rp
  rw [←tps_of ht] at rt
  rw [←sks_of hk] at rk
  exact ⟨⟨n0,_,_,_⟩,pp,np,cp,pt,nt,ct,pk,nk,ck,rfl,hcp,hct',hck,rp,rt,rk,by
    simp [Lit.wf,IntKind.min,IntKind.max,IntKind.signed,IntKind.bits] at w0
    show In64 n0
    unfold In64;omega⟩
end
end Go.Proofs
namespace Go.Proofs
open Go.Lo
set_option maxRecDepth 100000
section
variable {H:Type} {enc:TypeId×Value→H} {w:World} {sp:Nat→Bool} {held:Bool}
theorem sk_arg {r:Reach} {b0:Nat} {v:Value} {d:DataW H} {ps:List MemPlace} (hv:Value.okWide Tryz.prog w r b0 50 v) (h:DataW.Trod enc Tryz.prog w 0 sp held 50 v d ps):
    ∃x:Sk,v=skV x:=by
  obtain ⟨fs,hu,hfs⟩: ∃fs,Tryz.prog.underlying 50=some (.struct fs)∧fs.toList.map (fun f=>(f.offset,f.type))=[(0,3),(1,3),(2,4)]:=⟨_,Tryz.underlying50,by kernel_rfl⟩
  have h3: Tryz.prog.underlying 3=some (.int .i64):=by kernel_rfl
  have h4: Tryz.prog.underlying 4=some .bool:=by kernel_rfl
  unfold Value.okWide at hv
  rw [hu] at hv
  obtain ⟨cs,rfl,hsz,_⟩:=hv
  obtain ⟨fuel,h⟩:=h
  obtain ⟨xs,m,_,_,hl,hxl,hx⟩:=DataW.trod_struct hu h
  have hl2:cs.size=3:=hsz.trans (by kernel_rfl)
  obtain ⟨cl⟩:=cs
  obtain ⟨c0,c1,c2,rfl⟩: ∃c0 c1 c2,cl=[c0,c1,c2]:=by
    match cl,(show cl.length=3 from hl2) with
    |[c0,c1,c2],_=>exact ⟨_,_,_,rfl⟩
  obtain ⟨f0,f1,f2,rfl⟩: ∃f0 f1 f2,fs= #[f0,f1,f2]:=by
    obtain ⟨fl⟩:=fs
    have hlen:fl.length=3:=by simpa using congrArg List.length hfs
    match fl,hlen with
    |[f0,f1,f2],_=>exact ⟨_,_,_,rfl⟩
  simp only [List.map_cons,List.map_nil,List.cons.injEq,Prod.mk.injEq,and_true] at hfs
  obtain ⟨⟨o0,t0⟩,⟨o1,t1⟩,o2,t2⟩:=hfs
  have s3: Tryz.prog.cellsOf 3=1:=by kernel_rfl
  have s4: Tryz.prog.cellsOf 4=1:=by kernel_rfl
  have go: ∀i,i<3→ ∃y,xs[i]?=some y:=fun i hi=>⟨_,List.getElem?_eq_getElem (by rw [hxl];exact hi)⟩
  obtain ⟨y0,e0⟩:=go 0 (by omega);obtain ⟨y1,e1⟩:=go 1 (by omega);obtain ⟨y2,e2⟩:=go 2 (by omega)
  have g0:=(hx 0 f0 rfl).trans e0
  have g1:=(hx 1 f1 rfl).trans e1
  have g2:=(hx 2 f2 rfl).trans e2
  rw [t0,o0,s3] at g0
  rw [t1,o1,s3] at g1
  rw [t2,o2,s4] at g2
  obtain ⟨n0,q0,_,w0⟩:=DataW.trod_int h3 g0
  obtain ⟨n1,q1,_,w1⟩:=DataW.trod_int h3 g1
  obtain ⟨n2,q2,_⟩:=DataW.trod_bool h4 g2
  obtain rfl:=List.head_eq_of_cons_eq (show [c0]=[Value.int .i64 n0] from q0)
  obtain rfl:=List.head_eq_of_cons_eq (show [c1]=[Value.int .i64 n1] from q1)
  obtain rfl:=List.head_eq_of_cons_eq (show [c2]=[Value.bool n2] from q2)
  exact ⟨⟨n0,n1,n2⟩,rfl⟩
end
end Go.Proofs
namespace Go.Lo
abbrev vw4 (U:Nat→Value) (i:Nat) (r:List Value):List Value:=U i::U (i+1)::U (i+2)::U (i+3)::r
abbrev vw5 (U:Nat→Value) (i:Nat) (r:List Value):List Value:=U i::U (i+1)::U (i+2)::U (i+3)::U (i+4)::r
abbrev vw6 (U:Nat→Value) (i:Nat) (r:List Value):List Value:=U i::U (i+1)::U (i+2)::U (i+3)::U (i+4)::U (i+5)::r
abbrev vw7 (U:Nat→Value) (i:Nat) (r:List Value):List Value:=U i::U (i+1)::U (i+2)::U (i+3)::U (i+4)::U (i+5)::U (i+6)::r
abbrev vw8 (U:Nat→Value) (i:Nat) (r:List Value):List Value:=U i::U (i+1)::U (i+2)::U (i+3)::U (i+4)::U (i+5)::U (i+6)::U (i+7)::r
abbrev vw10 (U:Nat→Value) (i:Nat) (r:List Value):List Value:=U i::U (i+1)::U (i+2)::U (i+3)::U (i+4)::U (i+5)::U (i+6)::U (i+7)::U (i+8)::U (i+9)::r
abbrev vw11 (U:Nat→Value) (i:Nat) (r:List Value):List Value:=U i::U (i+1)::U (i+2)::U (i+3)::U (i+4)::U (i+5)::U (i+6)::U (i+7)::U (i+8)::U (i+9)::U (i+10)::r
abbrev vw12 (U:Nat→Value) (i:Nat) (r:List Value):List Value:=U i::U (i+1)::U (i+2)::U (i+3)::U (i+4)::U (i+5)::U (i+6)::U (i+7)::U (i+8)::U (i+9)::U (i+10)::U (i+11)::r
abbrev vw13 (U:Nat→Value) (i:Nat) (r:List Value):List Value:=vw8 U i (U (i+8)::U (i+9)::U (i+10)::U (i+11)::U (i+12)::r)
abbrev vw14 (U:Nat→Value) (i:Nat) (r:List Value):List Value:=vw8 U i (U (i+8)::U (i+9)::U (i+10)::U (i+11)::U (i+12)::U (i+13)::r)
abbrev vw15 (U:Nat→Value) (i:Nat) (r:List Value):List Value:=vw8 U i (U (i+8)::U (i+9)::U (i+10)::U (i+11)::U (i+12)::U (i+13)::U (i+14)::r)
abbrev vw16 (U:Nat→Value) (i:Nat) (r:List Value):List Value:=vw8 U i (vw8 U (i+8) r)
abbrev vw17 (U:Nat→Value) (i:Nat) (r:List Value):List Value:=vw8 U i (vw8 U (i+8) (U (i+16)::r))
abbrev vw18 (U:Nat→Value) (i:Nat) (r:List Value):List Value:=vw8 U i (vw8 U (i+8) (U (i+16)::U (i+17)::r))
abbrev vw20 (U:Nat→Value) (i:Nat) (r:List Value):List Value:=vw8 U i (vw8 U (i+8) (U (i+16)::U (i+17)::U (i+18)::U (i+19)::r))
abbrev vw23 (U:Nat→Value) (i:Nat) (r:List Value):List Value:=vw8 U i (vw8 U (i+8) (U (i+16)::U (i+17)::U (i+18)::U (i+19)::U (i+20)::U (i+21)::U (i+22)::r))
abbrev vw24 (U:Nat→Value) (i:Nat) (r:List Value):List Value:=vw8 U i (vw8 U (i+8) (vw8 U (i+16) r))
abbrev vw25 (U:Nat→Value) (i:Nat) (r:List Value):List Value:=vw8 U i (vw8 U (i+8) (vw8 U (i+16) (U (i+24)::r)))
abbrev vw26 (U:Nat→Value) (i:Nat) (r:List Value):List Value:=vw8 U i (vw8 U (i+8) (vw8 U (i+16) (U (i+24)::U (i+25)::r)))
abbrev vw27 (U:Nat→Value) (i:Nat) (r:List Value):List Value:=vw8 U i (vw8 U (i+8) (vw8 U (i+16) (U (i+24)::U (i+25)::U (i+26)::r)))
abbrev vw28 (U:Nat→Value) (i:Nat) (r:List Value):List Value:=vw8 U i (vw8 U (i+8) (vw8 U (i+16) (U (i+24)::U (i+25)::U (i+26)::U (i+27)::r)))
abbrev vw30 (U:Nat→Value) (i:Nat) (r:List Value):List Value:=vw8 U i (vw8 U (i+8) (vw8 U (i+16) (U (i+24)::U (i+25)::U (i+26)::U (i+27)::U (i+28)::U (i+29)::r)))
abbrev vw31 (U:Nat→Value) (i:Nat) (r:List Value):List Value:=vw8 U i (vw8 U (i+8) (vw8 U (i+16) (U (i+24)::U (i+25)::U (i+26)::U (i+27)::U (i+28)::U (i+29)::U (i+30)::r)))
abbrev vw32 (U:Nat→Value) (i:Nat) (r:List Value):List Value:=vw8 U i (vw8 U (i+8) (vw8 U (i+16) (vw8 U (i+24) r)))
abbrev vw33 (U:Nat→Value) (i:Nat) (r:List Value):List Value:=vw8 U i (vw8 U (i+8) (vw8 U (i+16) (vw8 U (i+24) (U (i+32)::r))))
abbrev vw34 (U:Nat→Value) (i:Nat) (r:List Value):List Value:=vw8 U i (vw8 U (i+8) (vw8 U (i+16) (vw8 U (i+24) (U (i+32)::U (i+33)::r))))
abbrev vw38 (U:Nat→Value) (i:Nat) (r:List Value):List Value:=vw8 U i (vw8 U (i+8) (vw8 U (i+16) (vw8 U (i+24) (U (i+32)::U (i+33)::U (i+34)::U (i+35)::U (i+36)::U (i+37)::r))))
abbrev vw40 (U:Nat→Value) (i:Nat) (r:List Value):List Value:=vw8 U i (vw8 U (i+8) (vw8 U (i+16) (vw8 U (i+24) (vw8 U (i+32) r))))
abbrev vw41 (U:Nat→Value) (i:Nat) (r:List Value):List Value:=vw8 U i (vw8 U (i+8) (vw8 U (i+16) (vw8 U (i+24) (vw8 U (i+32) (U (i+40)::r)))))
abbrev vw42 (U:Nat→Value) (i:Nat) (r:List Value):List Value:=vw8 U i (vw8 U (i+8) (vw8 U (i+16) (vw8 U (i+24) (vw8 U (i+32) (U (i+40)::U (i+41)::r)))))
abbrev vw43 (U:Nat→Value) (i:Nat) (r:List Value):List Value:=vw8 U i (vw8 U (i+8) (vw8 U (i+16) (vw8 U (i+24) (vw8 U (i+32) (U (i+40)::U (i+41)::U (i+42)::r)))))
abbrev vw45 (U:Nat→Value) (i:Nat) (r:List Value):List Value:=vw8 U i (vw8 U (i+8) (vw8 U (i+16) (vw8 U (i+24) (vw8 U (i+32) (U (i+40)::U (i+41)::U (i+42)::U (i+43)::U (i+44)::r)))))
abbrev vw46 (U:Nat→Value) (i:Nat) (r:List Value):List Value:=vw8 U i (vw8 U (i+8) (vw8 U (i+16) (vw8 U (i+24) (vw8 U (i+32) (U (i+40)::U (i+41)::U (i+42)::U (i+43)::U (i+44)::U (i+45)::r)))))
abbrev vw48 (U:Nat→Value) (i:Nat) (r:List Value):List Value:=vw8 U i (vw8 U (i+8) (vw8 U (i+16) (vw8 U (i+24) (vw8 U (i+32) (vw8 U (i+40) r)))))
abbrev vw49 (U:Nat→Value) (i:Nat) (r:List Value):List Value:=vw8 U i (vw8 U (i+8) (vw8 U (i+16) (vw8 U (i+24) (vw8 U (i+32) (vw8 U (i+40) (U (i+48)::r))))))
abbrev vw50 (U:Nat→Value) (i:Nat) (r:List Value):List Value:=vw8 U i (vw8 U (i+8) (vw8 U (i+16) (vw8 U (i+24) (vw8 U (i+32) (vw8 U (i+40) (U (i+48)::U (i+49)::r))))))
abbrev vw54 (U:Nat→Value) (i:Nat) (r:List Value):List Value:=vw8 U i (vw8 U (i+8) (vw8 U (i+16) (vw8 U (i+24) (vw8 U (i+32) (vw8 U (i+40) (U (i+48)::U (i+49)::U (i+50)::U (i+51)::U (i+52)::U (i+53)::r))))))
abbrev vw55 (U:Nat→Value) (i:Nat) (r:List Value):List Value:=vw8 U i (vw8 U (i+8) (vw8 U (i+16) (vw8 U (i+24) (vw8 U (i+32) (vw8 U (i+40) (U (i+48)::U (i+49)::U (i+50)::U (i+51)::U (i+52)::U (i+53)::U (i+54)::r))))))
abbrev vw57 (U:Nat→Value) (i:Nat) (r:List Value):List Value:=vw8 U i (vw8 U (i+8) (vw8 U (i+16) (vw8 U (i+24) (vw8 U (i+32) (vw8 U (i+40) (vw8 U (i+48) (U (i+56)::r)))))))
abbrev vw60 (U:Nat→Value) (i:Nat) (r:List Value):List Value:=vw8 U i (vw8 U (i+8) (vw8 U (i+16) (vw8 U (i+24) (vw8 U (i+32) (vw8 U (i+40) (vw8 U (i+48) (U (i+56)::U (i+57)::U (i+58)::U (i+59)::r)))))))
abbrev vw61 (U:Nat→Value) (i:Nat) (r:List Value):List Value:=vw8 U i (vw8 U (i+8) (vw8 U (i+16) (vw8 U (i+24) (vw8 U (i+32) (vw8 U (i+40) (vw8 U (i+48) (U (i+56)::U (i+57)::U (i+58)::U (i+59)::U (i+60)::r)))))))
abbrev vw65 (U:Nat→Value) (i:Nat) (r:List Value):List Value:=vw8 U i (vw8 U (i+8) (vw8 U (i+16) (vw8 U (i+24) (vw8 U (i+32) (vw8 U (i+40) (vw8 U (i+48) (vw8 U (i+56) (U (i+64)::r))))))))
abbrev vw67 (U:Nat→Value) (i:Nat) (r:List Value):List Value:=vw8 U i (vw8 U (i+8) (vw8 U (i+16) (vw8 U (i+24) (vw8 U (i+32) (vw8 U (i+40) (vw8 U (i+48) (vw8 U (i+56) (U (i+64)::U (i+65)::U (i+66)::r))))))))
abbrev vw68 (U:Nat→Value) (i:Nat) (r:List Value):List Value:=vw8 U i (vw8 U (i+8) (vw8 U (i+16) (vw8 U (i+24) (vw8 U (i+32) (vw8 U (i+40) (vw8 U (i+48) (vw8 U (i+56) (U (i+64)::U (i+65)::U (i+66)::U (i+67)::r))))))))
abbrev vw70 (U:Nat→Value) (i:Nat) (r:List Value):List Value:=vw8 U i (vw8 U (i+8) (vw8 U (i+16) (vw8 U (i+24) (vw8 U (i+32) (vw8 U (i+40) (vw8 U (i+48) (vw8 U (i+56) (U (i+64)::U (i+65)::U (i+66)::U (i+67)::U (i+68)::U (i+69)::r))))))))
abbrev vw73 (U:Nat→Value) (i:Nat) (r:List Value):List Value:=vw8 U i (vw8 U (i+8) (vw8 U (i+16) (vw8 U (i+24) (vw8 U (i+32) (vw8 U (i+40) (vw8 U (i+48) (vw8 U (i+56) (vw8 U (i+64) (U (i+72)::r)))))))))
abbrev vw83 (U:Nat→Value) (i:Nat) (r:List Value):List Value:=vw8 U i (vw8 U (i+8) (vw8 U (i+16) (vw8 U (i+24) (vw8 U (i+32) (vw8 U (i+40) (vw8 U (i+48) (vw8 U (i+56) (vw8 U (i+64) (vw8 U (i+72) (U (i+80)::U (i+81)::U (i+82)::r))))))))))
abbrev vw86 (U:Nat→Value) (i:Nat) (r:List Value):List Value:=vw8 U i (vw8 U (i+8) (vw8 U (i+16) (vw8 U (i+24) (vw8 U (i+32) (vw8 U (i+40) (vw8 U (i+48) (vw8 U (i+56) (vw8 U (i+64) (vw8 U (i+72) (U (i+80)::U (i+81)::U (i+82)::U (i+83)::U (i+84)::U (i+85)::r))))))))))
abbrev vw87 (U:Nat→Value) (i:Nat) (r:List Value):List Value:=vw8 U i (vw8 U (i+8) (vw8 U (i+16) (vw8 U (i+24) (vw8 U (i+32) (vw8 U (i+40) (vw8 U (i+48) (vw8 U (i+56) (vw8 U (i+64) (vw8 U (i+72) (U (i+80)::U (i+81)::U (i+82)::U (i+83)::U (i+84)::U (i+85)::U (i+86)::r))))))))))
abbrev vw88 (U:Nat→Value) (i:Nat) (r:List Value):List Value:=vw8 U i (vw8 U (i+8) (vw8 U (i+16) (vw8 U (i+24) (vw8 U (i+32) (vw8 U (i+40) (vw8 U (i+48) (vw8 U (i+56) (vw8 U (i+64) (vw8 U (i+72) (vw8 U (i+80) r))))))))))
abbrev vw100 (U:Nat→Value) (i:Nat) (r:List Value):List Value:=vw8 U i (vw8 U (i+8) (vw8 U (i+16) (vw8 U (i+24) (vw8 U (i+32) (vw8 U (i+40) (vw8 U (i+48) (vw8 U (i+56) (vw8 U (i+64) (vw8 U (i+72) (vw8 U (i+80) (vw8 U (i+88) (U (i+96)::U (i+97)::U (i+98)::U (i+99)::r))))))))))))
abbrev vw105 (U:Nat→Value) (i:Nat) (r:List Value):List Value:=vw8 U i (vw8 U (i+8) (vw8 U (i+16) (vw8 U (i+24) (vw8 U (i+32) (vw8 U (i+40) (vw8 U (i+48) (vw8 U (i+56) (vw8 U (i+64) (vw8 U (i+72) (vw8 U (i+80) (vw8 U (i+88) (vw8 U (i+96) (U (i+104)::r)))))))))))))
abbrev vw107 (U:Nat→Value) (i:Nat) (r:List Value):List Value:=vw8 U i (vw8 U (i+8) (vw8 U (i+16) (vw8 U (i+24) (vw8 U (i+32) (vw8 U (i+40) (vw8 U (i+48) (vw8 U (i+56) (vw8 U (i+64) (vw8 U (i+72) (vw8 U (i+80) (vw8 U (i+88) (vw8 U (i+96) (U (i+104)::U (i+105)::U (i+106)::r)))))))))))))
abbrev vw117 (U:Nat→Value) (i:Nat) (r:List Value):List Value:=vw8 U i (vw8 U (i+8) (vw8 U (i+16) (vw8 U (i+24) (vw8 U (i+32) (vw8 U (i+40) (vw8 U (i+48) (vw8 U (i+56) (vw8 U (i+64) (vw8 U (i+72) (vw8 U (i+80) (vw8 U (i+88) (vw8 U (i+96) (vw8 U (i+104) (U (i+112)::U (i+113)::U (i+114)::U (i+115)::U (i+116)::r))))))))))))))
abbrev vw121 (U:Nat→Value) (i:Nat) (r:List Value):List Value:=vw8 U i (vw8 U (i+8) (vw8 U (i+16) (vw8 U (i+24) (vw8 U (i+32) (vw8 U (i+40) (vw8 U (i+48) (vw8 U (i+56) (vw8 U (i+64) (vw8 U (i+72) (vw8 U (i+80) (vw8 U (i+88) (vw8 U (i+96) (vw8 U (i+104) (vw8 U (i+112) (U (i+120)::r)))))))))))))))
abbrev vw122 (U:Nat→Value) (i:Nat) (r:List Value):List Value:=vw8 U i (vw8 U (i+8) (vw8 U (i+16) (vw8 U (i+24) (vw8 U (i+32) (vw8 U (i+40) (vw8 U (i+48) (vw8 U (i+56) (vw8 U (i+64) (vw8 U (i+72) (vw8 U (i+80) (vw8 U (i+88) (vw8 U (i+96) (vw8 U (i+104) (vw8 U (i+112) (U (i+120)::U (i+121)::r)))))))))))))))
abbrev vw123 (U:Nat→Value) (i:Nat) (r:List Value):List Value:=vw8 U i (vw8 U (i+8) (vw8 U (i+16) (vw8 U (i+24) (vw8 U (i+32) (vw8 U (i+40) (vw8 U (i+48) (vw8 U (i+56) (vw8 U (i+64) (vw8 U (i+72) (vw8 U (i+80) (vw8 U (i+88) (vw8 U (i+96) (vw8 U (i+104) (vw8 U (i+112) (U (i+120)::U (i+121)::U (i+122)::r)))))))))))))))
abbrev jkm (U:Nat→Value) (i:Nat) (r:List Value):List Value:=vw8 U i (vw8 U (i+8) (vw8 U (i+16) (vw8 U (i+24) (vw8 U (i+32) (vw8 U (i+40) (vw8 U (i+48) (vw8 U (i+56) (vw8 U (i+64) (vw8 U (i+72) (vw8 U (i+80) (vw8 U (i+88) (vw8 U (i+96) (vw8 U (i+104) (vw8 U (i+112) (U (i+120)::U (i+121)::U (i+122)::U (i+123)::r)))))))))))))))
abbrev vw129 (U:Nat→Value) (i:Nat) (r:List Value):List Value:=vw8 U i (vw8 U (i+8) (vw8 U (i+16) (vw8 U (i+24) (vw8 U (i+32) (vw8 U (i+40) (vw8 U (i+48) (vw8 U (i+56) (vw8 U (i+64) (vw8 U (i+72) (vw8 U (i+80) (vw8 U (i+88) (vw8 U (i+96) (vw8 U (i+104) (vw8 U (i+112) (vw8 U (i+120) (U (i+128)::r))))))))))))))))
abbrev vw131 (U:Nat→Value) (i:Nat) (r:List Value):List Value:=vw8 U i (vw8 U (i+8) (vw8 U (i+16) (vw8 U (i+24) (vw8 U (i+32) (vw8 U (i+40) (vw8 U (i+48) (vw8 U (i+56) (vw8 U (i+64) (vw8 U (i+72) (vw8 U (i+80) (vw8 U (i+88) (vw8 U (i+96) (vw8 U (i+104) (vw8 U (i+112) (vw8 U (i+120) (U (i+128)::U (i+129)::U (i+130)::r))))))))))))))))
abbrev jlm (U:Nat→Value) (i:Nat) (r:List Value):List Value:=vw8 U i (vw8 U (i+8) (vw8 U (i+16) (vw8 U (i+24) (vw8 U (i+32) (vw8 U (i+40) (vw8 U (i+48) (vw8 U (i+56) (vw8 U (i+64) (vw8 U (i+72) (vw8 U (i+80) (vw8 U (i+88) (vw8 U (i+96) (vw8 U (i+104) (vw8 U (i+112) (vw8 U (i+120) (U (i+128)::U (i+129)::U (i+130)::U (i+131)::r))))))))))))))))
abbrev vw135 (U:Nat→Value) (i:Nat) (r:List Value):List Value:=vw8 U i (vw8 U (i+8) (vw8 U (i+16) (vw8 U (i+24) (vw8 U (i+32) (vw8 U (i+40) (vw8 U (i+48) (vw8 U (i+56) (vw8 U (i+64) (vw8 U (i+72) (vw8 U (i+80) (vw8 U (i+88) (vw8 U (i+96) (vw8 U (i+104) (vw8 U (i+112) (vw8 U (i+120) (U (i+128)::U (i+129)::U (i+130)::U (i+131)::U (i+132)::U (i+133)::U (i+134)::r))))))))))))))))
abbrev vw138 (U:Nat→Value) (i:Nat) (r:List Value):List Value:=vw8 U i (vw8 U (i+8) (vw8 U (i+16) (vw8 U (i+24) (vw8 U (i+32) (vw8 U (i+40) (vw8 U (i+48) (vw8 U (i+56) (vw8 U (i+64) (vw8 U (i+72) (vw8 U (i+80) (vw8 U (i+88) (vw8 U (i+96) (vw8 U (i+104) (vw8 U (i+112) (vw8 U (i+120) (vw8 U (i+128) (U (i+136)::U (i+137)::r)))))))))))))))))
abbrev vw153 (U:Nat→Value) (i:Nat) (r:List Value):List Value:=vw8 U i (vw8 U (i+8) (vw8 U (i+16) (vw8 U (i+24) (vw8 U (i+32) (vw8 U (i+40) (vw8 U (i+48) (vw8 U (i+56) (vw8 U (i+64) (vw8 U (i+72) (vw8 U (i+80) (vw8 U (i+88) (vw8 U (i+96) (vw8 U (i+104) (vw8 U (i+112) (vw8 U (i+120) (vw8 U (i+128) (vw8 U (i+136) (vw8 U (i+144) (U (i+152)::r)))))))))))))))))))
abbrev jll (U:Nat→Value) (i:Nat) (r:List Value):List Value:=vw8 U i (vw8 U (i+8) (vw8 U (i+16) (vw8 U (i+24) (vw8 U (i+32) (vw8 U (i+40) (vw8 U (i+48) (vw8 U (i+56) (vw8 U (i+64) (vw8 U (i+72) (vw8 U (i+80) (vw8 U (i+88) (vw8 U (i+96) (vw8 U (i+104) (vw8 U (i+112) (vw8 U (i+120) (vw8 U (i+128) (vw8 U (i+136) (vw8 U (i+144) (U (i+152)::U (i+153)::U (i+154)::U (i+155)::r)))))))))))))))))))
end Go.Lo
namespace Go.Lo
open Go.Conc (G)
structure Wr (B:Prop):Prop where
  g:B
section
variable {A B:Prop}
theorem d0 (b:B) (h:Wr B→A:=by intro x;refine aq rfl ?_;refine jb7 rfl ?_;exact x.g):A:=h ⟨b⟩
theorem d1 (b:B) (h:Wr B→A:=by intro x;(first|refine jcc rfl zq ?_|refine k_fa rfl zq ?_);refine jbb rfl zq ?_;exact x.g):A:=h ⟨b⟩
theorem d2 (b:B) (h:Wr B→A:=by intro x;refine jms rfl rfl ?_;refine jms rfl rfl ?_;exact x.g):A:=h ⟨b⟩
theorem d3 (b:B) (h:Wr B→A:=by intro x;refine mq rfl ?_;refine mq rfl ?_;exact x.g):A:=h ⟨b⟩
theorem d4 (b:B) (h:Wr B→A:=by intro x;refine mq rfl ?_;refine jdz rfl zq (by unfold In64;omega) ?_;exact x.g):A:=h ⟨b⟩
theorem d5 (b:B) (h:Wr B→A:=by intro x;refine jbh rfl ?_;refine i_mv rfl zq ?_;exact x.g):A:=h ⟨b⟩
theorem d6 (b:B) (h:Wr B→A:=by intro x;refine jaB ?_;refine jfc ?_;exact x.g):A:=h ⟨b⟩
theorem d7 (b:B) (h:Wr B→A:=by intro x;refine jaB ?_;refine jcv ?_;exact x.g):A:=h ⟨b⟩
theorem d8 (b:B) (h:Wr B→A:=by intro x;(first|refine jcc rfl zq ?_|refine k_fa rfl zq ?_);(first|refine jcc rfl zq ?_|refine k_fa rfl zq ?_);exact x.g):A:=h ⟨b⟩
theorem d9 (b:B) (h:Wr B→A:=by intro x;refine d6 ?_;refine jby ?_;exact x.g):A:=h ⟨b⟩
theorem d10 (b:B) (h:Wr B→A:=by intro x;refine aq rfl ?_;refine jak ?_;exact x.g):A:=h ⟨b⟩
theorem d11 (b:B) (h:Wr B→A:=by intro x;refine d3 ?_;refine jaJ rfl zq (by first|rfl|assumption) (by omega) (by omega) ?_;exact x.g):A:=h ⟨b⟩
theorem d12 (b:B) (h:Wr B→A:=by intro x;(first|refine jcc rfl rfl ?_|refine k_fa rfl rfl ?_);refine jbb rfl rfl ?_;exact x.g):A:=h ⟨b⟩
theorem d13 (b:B) (h:Wr B→A:=by intro x;refine jgV rfl zq ?_;(first|refine i_fa0 rfl zq ?_|refine i_fa rfl zq ?_);exact x.g):A:=h ⟨b⟩
theorem d14 (b:B) (h:Wr B→A:=by intro x;refine i_as rfl zq ?_;refine jaj ?_;exact x.g):A:=h ⟨b⟩
theorem d15 (b:B) (h:Wr B→A:=by intro x;refine jaJ rfl zq (by first|rfl|assumption) (by omega) (by omega) ?_;(first|refine jcc rfl zq ?_|refine k_fa rfl zq ?_);exact x.g):A:=h ⟨b⟩
theorem d16 (b:B) (h:Wr B→A:=by intro x;refine rs2 ?_;refine mq rfl ?_;exact x.g):A:=h ⟨b⟩
theorem d17 (b:B) (h:Wr B→A:=by intro x;refine k_ext0 rfl zq ?_;refine k_ext1 rfl zq ?_;exact x.g):A:=h ⟨b⟩
theorem d18 (b:B) (h:Wr B→A:=by intro x;refine jdz rfl zq (by unfold In64;omega) ?_;refine mq rfl ?_;exact x.g):A:=h ⟨b⟩
theorem d19 (b:B) (h:Wr B→A:=by intro x;refine jce ?_;refine d5 ?_;exact x.g):A:=h ⟨b⟩
theorem d20 (b:B) (h:Wr B→A:=by intro x;refine jak ?_;refine jaS ?_;exact x.g):A:=h ⟨b⟩
theorem d21 (b:B) (h:Wr B→A:=by intro x;refine jaj ?_;refine i_else ?_;exact x.g):A:=h ⟨b⟩
theorem d22 (b:B) (h:Wr B→A:=by intro x;refine mq rfl ?_;refine k_mv rfl rfl ?_;exact x.g):A:=h ⟨b⟩
theorem d23 (b:B) (h:Wr B→A:=by intro x;(first|refine jcc rfl zq ?_|refine k_fa rfl zq ?_);refine d1 ?_;exact x.g):A:=h ⟨b⟩
theorem d24 (b:B) (h:Wr B→A:=by intro x;refine jjc rfl rfl ?_;refine jjc rfl rfl ?_;exact x.g):A:=h ⟨b⟩
theorem d25 (b:B) (h:Wr B→A:=by intro x;refine jaB ?_;refine jak ?_;exact x.g):A:=h ⟨b⟩
theorem d26 (b:B) (h:Wr B→A:=by intro x;refine rs1 ?_;refine d0 ?_;exact x.g):A:=h ⟨b⟩
theorem d27 (b:B) (h:Wr B→A:=by intro x;refine k_mv rfl rfl ?_;refine jaJ rfl rfl (by first|rfl|assumption) (by omega) (by omega) ?_;exact x.g):A:=h ⟨b⟩
theorem d28 (b:B) (h:Wr B→A:=by intro x;refine jcg rfl zq ?_;refine jaJ rfl zq (by first|rfl|assumption) (by omega) (by omega) ?_;exact x.g):A:=h ⟨b⟩
theorem d29 (b:B) (h:Wr B→A:=by intro x;refine d3 ?_;refine jcj rfl zq (by unfold In64;omega) ?_;exact x.g):A:=h ⟨b⟩
theorem d30 (b:B) (h:Wr B→A:=by intro x;refine mq rfl ?_;refine d2 ?_;exact x.g):A:=h ⟨b⟩
theorem d31 (b:B) (h:Wr B→A:=by intro x;refine jac ?_;refine jgR rfl zq ?_;exact x.g):A:=h ⟨b⟩
theorem d32 (b:B) (h:Wr B→A:=by intro x;refine jby ?_;refine d20 ?_;exact x.g):A:=h ⟨b⟩
theorem d33 (b:B) (h:Wr B→A:=by intro x;refine jac ?_;refine jii rfl zq ?_;exact x.g):A:=h ⟨b⟩
theorem d34 (b:B) (h:Wr B→A:=by intro x;refine k_as rfl zq ?_;refine d0 ?_;exact x.g):A:=h ⟨b⟩
theorem d35 (b:B) (h:Wr B→A:=by intro x;refine aq rfl ?_;refine jay ?_;exact x.g):A:=h ⟨b⟩
theorem d36 (b:B) (h:Wr B→A:=by intro x;refine d9 ?_;refine jak ?_;exact x.g):A:=h ⟨b⟩
theorem d37 (b:B) (h:Wr B→A:=by intro x;refine jce ?_;refine d19 ?_;exact x.g):A:=h ⟨b⟩
theorem d38 (b:B) (h:Wr B→A:=by intro x;refine d21 ?_;refine jmC ?_;exact x.g):A:=h ⟨b⟩
theorem d39 (b:B) (h:Wr B→A:=by intro x;refine aq rfl ?_;refine jaS ?_;exact x.g):A:=h ⟨b⟩
theorem d40 (b:B) (h:Wr B→A:=by intro x;refine d4 ?_;refine jaJ rfl zq (by first|rfl|assumption) (by omega) (by omega) ?_;exact x.g):A:=h ⟨b⟩
theorem d41 (b:B) (h:Wr B→A:=by intro x;refine d6 ?_;refine jbU rfl ?_;exact x.g):A:=h ⟨b⟩
theorem d42 (b:B) (h:Wr B→A:=by intro x;refine jgS rfl rfl (by decide) ?_;refine jau rfl zq ?_;exact x.g):A:=h ⟨b⟩
theorem d43 (b:B) (h:Wr B→A:=by intro x;refine mq rfl ?_;refine jaJ rfl zq (by first|rfl|assumption) (by omega) (by omega) ?_;exact x.g):A:=h ⟨b⟩
theorem d44 (b:B) (h:Wr B→A:=by intro x;refine mq rfl ?_;refine jcj rfl zq (by unfold In64;omega) ?_;exact x.g):A:=h ⟨b⟩
theorem d45 (b:B) (h:Wr B→A:=by intro x;refine jaj ?_;refine i_if ?_;exact x.g):A:=h ⟨b⟩
theorem d46 (b:B) (h:Wr B→A:=by intro x;refine rs3 ?_;refine mq rfl ?_;exact x.g):A:=h ⟨b⟩
theorem d47 (b:B) (h:Wr B→A:=by intro x;refine mq rfl ?_;refine d17 ?_;exact x.g):A:=h ⟨b⟩
theorem d48 (b:B) (h:Wr B→A:=by intro x;refine d4 ?_;refine aq rfl ?_;exact x.g):A:=h ⟨b⟩
theorem d49 (b:B) (h:Wr B→A:=by intro x;refine d30 ?_;refine d2 ?_;exact x.g):A:=h ⟨b⟩
theorem d50 (b:B) (h:Wr B→A:=by intro x;refine d7 ?_;refine d26 ?_;exact x.g):A:=h ⟨b⟩
theorem d51 (b:B) (h:Wr B→A:=by intro x;refine d9 ?_;refine jay ?_;exact x.g):A:=h ⟨b⟩
theorem d52 (b:B) (h:Wr B→A:=by intro x;refine jms rfl rfl ?_;refine jau rfl zq ?_;exact x.g):A:=h ⟨b⟩
theorem d53 (b:B) (h:Wr B→A:=by intro x;refine jfc ?_;refine jbU rfl ?_;exact x.g):A:=h ⟨b⟩
theorem d54 (b:B) (h:Wr B→A:=by intro x;refine k_as rfl zq ?_;refine aq rfl ?_;exact x.g):A:=h ⟨b⟩
theorem d55 (b:B) (h:Wr B→A:=by intro x;refine rr3 ?_;refine d48 ?_;exact x.g):A:=h ⟨b⟩
theorem d56 (b:B) (h:Wr B→A:=by intro x;refine d29 ?_;refine jaJ rfl zq (by first|rfl|assumption) (by omega) (by omega) ?_;exact x.g):A:=h ⟨b⟩
theorem d57 (b:B) (h:Wr B→A:=by intro x;refine jaB ?_;refine jaS ?_;exact x.g):A:=h ⟨b⟩
theorem d58 (b:B) (h:Wr B→A:=by intro x;refine i_mv rfl zq ?_;refine d24 ?_;exact x.g):A:=h ⟨b⟩
theorem d59 (b:B) (h:Wr B→A:=by intro x;refine jcg rfl zq ?_;refine jaB ?_;exact x.g):A:=h ⟨b⟩
theorem d60 (b:B) (h:Wr B→A:=by intro x;refine jce ?_;refine jbh rfl ?_;exact x.g):A:=h ⟨b⟩
theorem d61 (b:B) (h:Wr B→A:=by intro x;(first|refine jcc rfl zq ?_|refine k_fa rfl zq ?_);refine mq rfl ?_;exact x.g):A:=h ⟨b⟩
theorem d62 (b:B) (h:Wr B→A:=by intro x;(first|refine jcc rfl zq ?_|refine k_fa rfl zq ?_);refine jaT rfl zq ?_;exact x.g):A:=h ⟨b⟩
theorem d63 (b:B) (h:Wr B→A:=by intro x;refine aq rfl ?_;refine jcv ?_;exact x.g):A:=h ⟨b⟩
theorem d64 (b:B) (h:Wr B→A:=by intro x;refine jaz rfl zq ?_;refine d0 ?_;exact x.g):A:=h ⟨b⟩
theorem d65 (b:B) (h:Wr B→A:=by intro x;refine jcI rfl zq ?_;refine d38 ?_;exact x.g):A:=h ⟨b⟩
theorem d66 (b:B) (h:Wr B→A:=by intro x;refine jhp rfl zq (by unfold In64;omega) ?_;refine jdz rfl zq (by unfold In64;omega) ?_;exact x.g):A:=h ⟨b⟩
theorem d67 (b:B) (h:Wr B→A:=by intro x;refine rs1 ?_;refine d10 ?_;exact x.g):A:=h ⟨b⟩
theorem d68 (b:B) (h:Wr B→A:=by intro x;refine d18 ?_;refine jaB ?_;exact x.g):A:=h ⟨b⟩
theorem d69 (b:B) (h:Wr B→A:=by intro x;refine rs4 ?_;refine d3 ?_;exact x.g):A:=h ⟨b⟩
theorem d70 (b:B) (h:Wr B→A:=by intro x;(first|refine jcc rfl zq ?_|refine k_fa rfl zq ?_);refine d59 ?_;exact x.g):A:=h ⟨b⟩
theorem d71 (b:B) (h:Wr B→A:=by intro x;refine jaO rfl zq rfl ?_;refine jaB ?_;exact x.g):A:=h ⟨b⟩
theorem d72 (b:B) (h:Wr B→A:=by intro x;refine jcO rfl zq ?_;refine mq rfl ?_;exact x.g):A:=h ⟨b⟩
theorem d73 (b:B) (h:Wr B→A:=by intro x;refine aq rfl ?_;refine jfc ?_;exact x.g):A:=h ⟨b⟩
theorem d74 (b:B) (h:Wr B→A:=by intro x;refine jaT rfl zq ?_;refine jbb rfl zq ?_;exact x.g):A:=h ⟨b⟩
theorem d75 (b:B) (h:Wr B→A:=by intro x;refine d7 ?_;refine d32 ?_;exact x.g):A:=h ⟨b⟩
theorem d76 (b:B) (h:Wr B→A:=by intro x;refine jms rfl rfl ?_;refine jaz rfl zq ?_;exact x.g):A:=h ⟨b⟩
theorem d77 (b:B) (h:Wr B→A:=by intro x;refine jaT rfl zq ?_;refine mq rfl ?_;exact x.g):A:=h ⟨b⟩
theorem d78 (b:B) (h:Wr B→A:=by intro x;refine rr2 ?_;refine d68 ?_;exact x.g):A:=h ⟨b⟩
theorem d79 (b:B) (h:Wr B→A:=by intro x;refine jcO rfl zq ?_;refine jcj rfl zq (by unfold In64;omega) ?_;exact x.g):A:=h ⟨b⟩
theorem d80 (b:B) (h:Wr B→A:=by intro x;refine jaO rfl zq rfl ?_;refine d0 ?_;exact x.g):A:=h ⟨b⟩
theorem d81 (b:B) (h:Wr B→A:=by intro x;refine i_mv rfl zq ?_;refine i_mv rfl rfl ?_;exact x.g):A:=h ⟨b⟩
theorem d82 (b:B) (h:Wr B→A:=by intro x;refine rs1 ?_;refine aq rfl ?_;exact x.g):A:=h ⟨b⟩
theorem d83 (b:B) (h:Wr B→A:=by intro x;refine jac ?_;refine aq rfl ?_;exact x.g):A:=h ⟨b⟩
theorem d84 (b:B) (h:Wr B→A:=by intro x;refine jgR rfl rfl ?_;refine jau rfl zq ?_;exact x.g):A:=h ⟨b⟩
theorem d85 (b:B) (h:Wr B→A:=by intro x;refine jbb rfl zq ?_;refine jbb rfl zq ?_;exact x.g):A:=h ⟨b⟩
theorem d86 (b:B) (h:Wr B→A:=by intro x;refine d16 ?_;refine d0 ?_;exact x.g):A:=h ⟨b⟩
theorem d87 (b:B) (h:Wr B→A:=by intro x;refine jac ?_;refine d0 ?_;exact x.g):A:=h ⟨b⟩
theorem d88 (b:B) (h:Wr B→A:=by intro x;refine d25 ?_;refine jcv ?_;exact x.g):A:=h ⟨b⟩
theorem d89 (b:B) (h:Wr B→A:=by intro x;refine d49 ?_;refine d2 ?_;exact x.g):A:=h ⟨b⟩
theorem d90 (b:B) (h:Wr B→A:=by intro x;(first|refine jcc rfl rfl ?_|refine k_fa rfl rfl ?_);(first|refine jcc rfl rfl ?_|refine k_fa rfl rfl ?_);exact x.g):A:=h ⟨b⟩
theorem d91 (b:B) (h:Wr B→A:=by intro x;refine d69 ?_;refine jcO rfl zq ?_;exact x.g):A:=h ⟨b⟩
theorem d92 (b:B) (h:Wr B→A:=by intro x;refine jac ?_;refine d47 ?_;exact x.g):A:=h ⟨b⟩
theorem d93 (b:B) (h:Wr B→A:=by intro x;refine jac ?_;refine jii rfl rfl ?_;exact x.g):A:=h ⟨b⟩
theorem d94 (b:B) (h:Wr B→A:=by intro x;refine jac ?_;refine jaz rfl zq ?_;exact x.g):A:=h ⟨b⟩
theorem d95 (b:B) (h:Wr B→A:=by intro x;refine d1 ?_;refine jcO rfl zq ?_;exact x.g):A:=h ⟨b⟩
theorem d96 (b:B) (h:Wr B→A:=by intro x;refine rs3 ?_;refine jaT rfl zq ?_;exact x.g):A:=h ⟨b⟩
theorem d97 (b:B) (h:Wr B→A:=by intro x;refine d75 ?_;refine jak ?_;exact x.g):A:=h ⟨b⟩
theorem d98 (b:B) (h:Wr B→A:=by intro x;refine rs1 ?_;refine d39 ?_;exact x.g):A:=h ⟨b⟩
theorem d99 (b:B) (h:Wr B→A:=by intro x;refine k_as rfl zq ?_;refine d10 ?_;exact x.g):A:=h ⟨b⟩
theorem d100 (b:B) (h:Wr B→A:=by intro x;refine k_mv rfl rfl ?_;refine jcj rfl rfl (by unfold In64;omega) ?_;exact x.g):A:=h ⟨b⟩
theorem d101 (b:B) (h:Wr B→A:=by intro x;refine mq rfl ?_;refine d12 ?_;exact x.g):A:=h ⟨b⟩
theorem d102 (b:B) (h:Wr B→A:=by intro x;refine d19 ?_;refine d13 ?_;exact x.g):A:=h ⟨b⟩
theorem d103 (b:B) (h:Wr B→A:=by intro x;refine d14 ?_;refine d37 ?_;exact x.g):A:=h ⟨b⟩
theorem d104 (b:B) (h:Wr B→A:=by intro x;refine mq rfl ?_;refine jaT rfl rfl ?_;exact x.g):A:=h ⟨b⟩
theorem d105 (b:B) (h:Wr B→A:=by intro x;refine d51 ?_;refine d55 ?_;exact x.g):A:=h ⟨b⟩
theorem d106 (b:B) (h:Wr B→A:=by intro x;refine d88 ?_;refine d32 ?_;exact x.g):A:=h ⟨b⟩
theorem d107 (b:B) (h:Wr B→A:=by intro x;refine d25 ?_;refine d53 ?_;exact x.g):A:=h ⟨b⟩
theorem d108 (b:B) (h:Wr B→A:=by intro x;refine d10 ?_;refine d16 ?_;exact x.g):A:=h ⟨b⟩
theorem d109 (b:B) (h:Wr B→A:=by intro x;refine jdz rfl zq (by unfold In64;omega) ?_;refine d0 ?_;exact x.g):A:=h ⟨b⟩
theorem d110 (b:B) (h:Wr B→A:=by intro x;refine d46 ?_;refine d34 ?_;exact x.g):A:=h ⟨b⟩
theorem d111 (b:B) (h:Wr B→A:=by intro x;refine d49 ?_;refine jaz rfl zq ?_;exact x.g):A:=h ⟨b⟩
theorem d112 (b:B) (h:Wr B→A:=by intro x;(first|refine jcc rfl rfl ?_|refine k_fa rfl rfl ?_);refine d12 ?_;exact x.g):A:=h ⟨b⟩
theorem d113 (b:B) (h:Wr B→A:=by intro x;refine d22 ?_;refine d42 ?_;exact x.g):A:=h ⟨b⟩
theorem d114 (b:B) (h:Wr B→A:=by intro x;refine jak ?_;refine d91 ?_;exact x.g):A:=h ⟨b⟩
theorem d115 (b:B) (h:Wr B→A:=by intro x;refine rs4 ?_;refine mq rfl ?_;exact x.g):A:=h ⟨b⟩
theorem d116 (b:B) (h:Wr B→A:=by intro x;refine rs5 ?_;refine mq rfl ?_;exact x.g):A:=h ⟨b⟩
theorem d117 (b:B) (h:Wr B→A:=by intro x;refine jby ?_;refine jay ?_;exact x.g):A:=h ⟨b⟩
theorem d118 (b:B) (h:Wr B→A:=by intro x;refine jau rfl zq ?_;refine d0 ?_;exact x.g):A:=h ⟨b⟩
theorem d119 (b:B) (h:Wr B→A:=by intro x;refine jau rfl zq ?_;refine d9 ?_;exact x.g):A:=h ⟨b⟩
theorem d120 (b:B) (h:Wr B→A:=by intro x;refine d71 ?_;refine jb7 rfl ?_;exact x.g):A:=h ⟨b⟩
theorem d121 (b:B) (h:Wr B→A:=by intro x;refine jcP rfl zq ?_;refine mq rfl ?_;exact x.g):A:=h ⟨b⟩
theorem d122 (b:B) (h:Wr B→A:=by intro x;refine jaT rfl zq ?_;refine jcP rfl zq ?_;exact x.g):A:=h ⟨b⟩
theorem d123 (b:B) (h:Wr B→A:=by intro x;refine jau rfl zq ?_;refine d50 ?_;exact x.g):A:=h ⟨b⟩
theorem d124 (b:B) (h:Wr B→A:=by intro x;refine jby ?_;refine jaS ?_;exact x.g):A:=h ⟨b⟩
theorem d125 (b:B) (h:Wr B→A:=by intro x;refine jbQ rfl zq ?_;refine d45 ?_;exact x.g):A:=h ⟨b⟩
theorem d126 (b:B) (h:Wr B→A:=by intro x;refine jaJ rfl rfl (by first|rfl|assumption) (by omega) (by omega) ?_;(first|refine jcc rfl rfl ?_|refine k_fa rfl rfl ?_);exact x.g):A:=h ⟨b⟩
theorem d127 (b:B) (h:Wr B→A:=by intro x;refine d3 ?_;refine mq rfl ?_;exact x.g):A:=h ⟨b⟩
theorem d128 (b:B) (h:Wr B→A:=by intro x;refine d3 ?_;refine d3 ?_;exact x.g):A:=h ⟨b⟩
theorem d129 (b:B) (h:Wr B→A:=by intro x;refine d58 ?_;refine jjc rfl rfl ?_;exact x.g):A:=h ⟨b⟩
theorem d130 (b:B) (h:Wr B→A:=by intro x;refine d72 ?_;refine d57 ?_;exact x.g):A:=h ⟨b⟩
theorem d131 (b:B) (h:Wr B→A:=by intro x;refine jaj ?_;refine i_end rfl ?_;exact x.g):A:=h ⟨b⟩
theorem d132 (b:B) (h:Wr B→A:=by intro x;refine rs2 ?_;refine jaT rfl zq ?_;exact x.g):A:=h ⟨b⟩
theorem d133 (b:B) (h:Wr B→A:=by intro x;refine d3 ?_;refine jdz rfl zq (by unfold In64;omega) ?_;exact x.g):A:=h ⟨b⟩
theorem d134 (b:B) (h:Wr B→A:=by intro x;refine d102 ?_;refine i_mv rfl zq ?_;exact x.g):A:=h ⟨b⟩
theorem d135 (b:B) (h:Wr B→A:=by intro x;refine d83 ?_;refine d16 ?_;exact x.g):A:=h ⟨b⟩
theorem d136 (b:B) (h:Wr B→A:=by intro x;refine d63 ?_;refine d26 ?_;exact x.g):A:=h ⟨b⟩
theorem d137 (b:B) (h:Wr B→A:=by intro x;refine jaT rfl zq ?_;refine jaT rfl zq ?_;exact x.g):A:=h ⟨b⟩
theorem d138 (b:B) (h:Wr B→A:=by intro x;refine d89 ?_;refine d2 ?_;exact x.g):A:=h ⟨b⟩
theorem d139 (b:B) (h:Wr B→A:=by intro x;refine d3 ?_;refine jdZ rfl zq (by omega) (by omega) ?_;exact x.g):A:=h ⟨b⟩
theorem d140 (b:B) (h:Wr B→A:=by intro x;refine jak ?_;refine jak ?_;exact x.g):A:=h ⟨b⟩
theorem d141 (b:B) (h:Wr B→A:=by intro x;refine d1 ?_;refine jeG rfl zq ?_;exact x.g):A:=h ⟨b⟩
theorem d142 (b:B) (h:Wr B→A:=by intro x;refine jaO rfl zq rfl ?_;refine d25 ?_;exact x.g):A:=h ⟨b⟩
theorem d143 (b:B) (h:Wr B→A:=by intro x;refine jgR rfl rfl ?_;refine jaz rfl zq ?_;exact x.g):A:=h ⟨b⟩
theorem d144 (b:B) (h:Wr B→A:=by intro x;refine jac ?_;refine jaB ?_;exact x.g):A:=h ⟨b⟩
theorem d145 (b:B) (h:Wr B→A:=by intro x;refine d35 ?_;refine d78 ?_;exact x.g):A:=h ⟨b⟩
theorem d146 (b:B) (h:Wr B→A:=by intro x;refine d7 ?_;refine d110 ?_;exact x.g):A:=h ⟨b⟩
theorem d147 (b:B) (h:Wr B→A:=by intro x;refine jgT rfl rfl (by decide) ?_;refine jaz rfl zq ?_;exact x.g):A:=h ⟨b⟩
theorem d148 (b:B) (h:Wr B→A:=by intro x;refine aq rfl ?_;refine rs6 ?_;exact x.g):A:=h ⟨b⟩
theorem d149 (b:B) (h:Wr B→A:=by intro x;refine rr2 ?_;refine mq rfl ?_;exact x.g):A:=h ⟨b⟩
theorem d150 (b:B) (h:Wr B→A:=by intro x;refine d23 ?_;refine jcO rfl zq ?_;exact x.g):A:=h ⟨b⟩
theorem d151 (b:B) (h:Wr B→A:=by intro x;refine d46 ?_;refine jcO rfl zq ?_;exact x.g):A:=h ⟨b⟩
theorem d152 (b:B) (h:Wr B→A:=by intro x;refine d33 ?_;refine d50 ?_;exact x.g):A:=h ⟨b⟩
theorem d153 (b:B) (h:Wr B→A:=by intro x;refine d3 ?_;refine d40 ?_;exact x.g):A:=h ⟨b⟩
theorem d154 (b:B) (h:Wr B→A:=by intro x;refine d60 ?_;refine d14 ?_;exact x.g):A:=h ⟨b⟩
theorem d155 (b:B) (h:Wr B→A:=by intro x;refine d65 ?_;refine d37 ?_;exact x.g):A:=h ⟨b⟩
theorem d156 (b:B) (h:Wr B→A:=by intro x;refine jac ?_;refine d84 ?_;exact x.g):A:=h ⟨b⟩
theorem d157 (b:B) (h:Wr B→A:=by intro x;refine d1 ?_;refine jaT rfl zq ?_;exact x.g):A:=h ⟨b⟩
theorem d158 (b:B) (h:Wr B→A:=by intro x;refine jak ?_;refine d116 ?_;exact x.g):A:=h ⟨b⟩
theorem d159 (b:B) (h:Wr B→A:=by intro x;refine d45 ?_;refine d5 ?_;exact x.g):A:=h ⟨b⟩
theorem d160 (b:B) (h:Wr B→A:=by intro x;refine d41 ?_;refine d26 ?_;exact x.g):A:=h ⟨b⟩
theorem d161 (b:B) (h:Wr B→A:=by intro x;refine rr3 ?_;refine d44 ?_;exact x.g):A:=h ⟨b⟩
theorem d162 (b:B) (h:Wr B→A:=by intro x;refine d92 ?_;refine d54 ?_;exact x.g):A:=h ⟨b⟩
theorem d163 (b:B) (h:Wr B→A:=by intro x;refine d22 ?_;refine k_mv rfl rfl ?_;exact x.g):A:=h ⟨b⟩
theorem d164 (b:B) (h:Wr B→A:=by intro x;refine k_mv rfl rfl ?_;refine d27 ?_;exact x.g):A:=h ⟨b⟩
theorem d165 (b:B) (h:Wr B→A:=by intro x;refine d14 ?_;refine jft rfl ?_;exact x.g):A:=h ⟨b⟩
theorem d166 (b:B) (h:Wr B→A:=by intro x;refine d7 ?_;refine d86 ?_;exact x.g):A:=h ⟨b⟩
theorem d167 (b:B) (h:Wr B→A:=by intro x;refine d35 ?_;refine d55 ?_;exact x.g):A:=h ⟨b⟩
theorem d168 (b:B) (h:Wr B→A:=by intro x;refine d138 ?_;refine d2 ?_;exact x.g):A:=h ⟨b⟩
theorem d169 (b:B) (h:Wr B→A:=by intro x;refine d100 ?_;refine jaJ rfl rfl (by first|rfl|assumption) (by omega) (by omega) ?_;exact x.g):A:=h ⟨b⟩
theorem d170 (b:B) (h:Wr B→A:=by intro x;refine jay ?_;refine d55 ?_;exact x.g):A:=h ⟨b⟩
theorem d171 (b:B) (h:Wr B→A:=by intro x;refine d107 ?_;refine d26 ?_;exact x.g):A:=h ⟨b⟩
theorem d172 (b:B) (h:Wr B→A:=by intro x;refine rs4 ?_;refine d121 ?_;exact x.g):A:=h ⟨b⟩
theorem d173 (b:B) (h:Wr B→A:=by intro x;refine d101 ?_;refine jcO rfl rfl ?_;exact x.g):A:=h ⟨b⟩
theorem d174 (b:B) (h:Wr B→A:=by intro x;refine mq rfl ?_;refine jdZ rfl zq (by omega) (by omega) ?_;exact x.g):A:=h ⟨b⟩
theorem d175 (b:B) (h:Wr B→A:=by intro x;refine rs3 ?_;refine d3 ?_;exact x.g):A:=h ⟨b⟩
theorem d176 (b:B) (h:Wr B→A:=by intro x;refine d41 ?_;refine d86 ?_;exact x.g):A:=h ⟨b⟩
theorem d177 (b:B) (h:Wr B→A:=by intro x;refine d51 ?_;refine d78 ?_;exact x.g):A:=h ⟨b⟩
theorem d178 (b:B) (h:Wr B→A:=by intro x;refine d7 ?_;refine d172 ?_;exact x.g):A:=h ⟨b⟩
theorem d179 (b:B) (h:Wr B→A:=by intro x;refine rs2 ?_;refine d34 ?_;exact x.g):A:=h ⟨b⟩
theorem d180 (b:B) (h:Wr B→A:=by intro x;refine d58 ?_;refine d24 ?_;exact x.g):A:=h ⟨b⟩
theorem d181 (b:B) (h:Wr B→A:=by intro x;refine rs9 ?_;refine jaT rfl zq ?_;exact x.g):A:=h ⟨b⟩
theorem d182 (b:B) (h:Wr B→A:=by intro x;refine jbb rfl zq ?_;refine d15 ?_;exact x.g):A:=h ⟨b⟩
theorem d183 (b:B) (h:Wr B→A:=by intro x;refine rs7 ?_;refine jaT rfl zq ?_;exact x.g):A:=h ⟨b⟩
theorem d184 (b:B) (h:Wr B→A:=by intro x;refine rs8 ?_;refine jaT rfl zq ?_;exact x.g):A:=h ⟨b⟩
end
end Go.Lo
namespace Go.Proofs.Bt
open Go.Proofs
open Go.Lo
open Go.Conc (G)
set_option maxRecDepth 100000
set_option synthInstance.maxSize 100000
set_option synthInstance.maxHeartbeats 1000000
set_option maxHeartbeats 4000000
variable {B:Array Obj}
def diffs:List Int→List Int
 |a::b::r=>(b-a)::diffs (b::r)
 |_=>[]
theorem jbI: ∀(l:List Int),(diffs l).length=l.length-1
 |[]=>rfl
 |[_]=>rfl
 |a::b::r=>by simp [diffs,jbI (b::r)]
theorem jgd: ∀(l:List Int) (k:Nat),k+1<l.length→(diffs l)[k]?=some (l.getD (k+1) 0-l.getD k 0)
 |[],k,h=>by simp at h
 |[_],k,h=>by simp at h
 |a::b::r,0,_=>by simp [diffs]
 |a::b::r,k+1,h=>by
  have:=jgd (b::r) k (by simpa using h)
  simpa [diffs] using this
theorem jle (l:List Int) (k:Nat) (h:k+1<l.length):(diffs l).take (k+1)=(diffs l).take k++[l.getD (k+1) 0-l.getD k 0]:=by
 rw [List.take_add_one,jgd l k h];rfl
theorem f106_c (m:Md Tryz.prog B) (h:Hp) (v:Value) (xs:List Int) (n:Nat) (hn:n=xs.length) (hmax:n≤1000) (hb: ∀j,-100000≤xs.getD j 0∧xs.getD j 0≤100000) (rd:RdS B h 1 v n (ints xs)):
  FnC m 106 #[v] h fun v' h'=> ∃new,h'=h++new∧OwnS 3 1 v' (n-1) (ints (diffs xs)) new:=by
 obtain ⟨p,c,rfl,hl,hp⟩:=id rd
 refine jad Tryz.func106 rfl rfl (l:=(.slice p n c)::uu24) rfl ?_
 intro cf cs K hK
 refine d82 ?_;refine d67 ?_;refine d98 ?_
 refine jag (fun nn l h'=> ∃(k:Nat) (w:Value) (new:Hp),nn=n-k∧(k+1≤max n 1)∧(OwnS 3 1 w k (ints ((diffs xs).take k)) new)∧(∃U:Nat→Value,l=((.slice p n c)::(U 1)::(U 2)::w::(.int .i64 ((k:Int)+1))::vw20 U 5 []))∧h++new=h') _ ⟨0,_,[],rfl,by omega,OwnS.nil,exU rfl,(by simp)⟩ ?_;rintro nn l h' ⟨k,w,new,rfl,hk,ho,⟨U,rfl⟩,rfl⟩ hnext;subst hn
 refine d114 ?_
 refine jap rfl zq (fun hc=>?_) (fun hc=>?_)
 ·refine d75 ?_
  refine jah [(0,.pure),(1,.pure),(2,.pure),(3,.pure),(5,.pure),(6,.pure),(7,.pure),(8,.pure),(4,.read),(9,.read),(10,.pure),(11,.keep),(12,.free),(13,.pure)] (by kernel_rfl) (by kernel_rfl) (List.Sublist.refl _) ?_;obtain ⟨b,o,rfl⟩:=rd.ptr (by omega)
  have hb1:=hb (k+1)
  have hb0:=hb k
  have e1:((k:Int)+1).toNat=k+1:=by omega
  have e0:((k:Int)+1-1).toNat=k:=by omega
  refine d3 ?_;refine d43 ?_;refine d56 ?_
  refine k_ld rfl zq ((rd.int rfl (by omega) (by omega)).app _) ?_;refine k_ld rfl zq ((rd.int rfl (by omega) (by omega)).app _) ?_;rw [e1,e0];refine jcj rfl zq (by unfold In64;omega) ?_;refine k_bs kdq rfl zq (by decide) (by decide) rfl (fun q22=>k_hp (jac ?_));refine jik (F:=h) rfl zq rfl ho kdq (by omega) (by omega) (fun w2 new2 ho2=>jac ?_);rw [show ints ((diffs xs).take k)++[Value.int .i64 (xs.getD (k+1) 0-xs.getD k 0)]=ints ((diffs xs).take (k+1)) by rw [jle xs k (by omega)];simp] at ho2
  refine d167 ?_
  exact m.weak jaa (hnext _ _ _ (by omega) ⟨k+1,_,_,rfl,by omega,ho2,exU rfl,rfl⟩)
 ·refine d176 ?_
  refine jab (h++new) rfl Tryz.func106 rfl jaa ?_;refine hK _ _ ?_;obtain rfl:k=xs.length-1:=by omega
  rw [List.take_of_length_le (by rw [jbI];exact Nat.le_refl _)] at ho
  exact ⟨_,rfl,ho⟩
theorem f110_c (m:Md Tryz.prog B) (h:Hp) (x lo hi:Int):FnC m 110 #[.int .i64 x,.int .i64 lo,.int .i64 hi] h fun v h'=>h'=h∧IsB (lo≤x∧x≤hi) v:=by
 refine jad Tryz.func110 rfl rfl (l:=(.int .i64 x)::(.int .i64 lo)::(.int .i64 hi)::uu12) rfl ?_
 intro cf cs K hK
 refine d82 ?_;refine rs9 ?_;refine d3 ?_
 refine ja1 rfl zq (fun hc=>?_) (fun hc=>?_)
 ·refine d163 ?_
  refine ja1 rfl rfl (fun hc=>?_) (fun hc=>?_)
  ·refine d64 ?_
   refine jab (h) rfl Tryz.func110 rfl jaa ?_;refine hK _ _ ?_;first|exact ⟨rfl,IsB.yes (by omega)⟩|exact ⟨rfl,IsB.no (by omega)⟩
  ·refine d64 ?_
   refine jab (h) rfl Tryz.func110 rfl jaa ?_;refine hK _ _ ?_;first|exact ⟨rfl,IsB.yes (by omega)⟩|exact ⟨rfl,IsB.no (by omega)⟩
 ·refine d30 ?_;refine d52 ?_;refine d0 ?_
  refine jab (h) rfl Tryz.func110 rfl jaa ?_;refine hK _ _ ?_;first|exact ⟨rfl,IsB.yes (by omega)⟩|exact ⟨rfl,IsB.no (by omega)⟩
theorem f50_c (m:Md Tryz.prog B) (h:Hp) (x lo hi:Int):FnC m 50 #[.int .i64 x,.int .i64 lo,.int .i64 hi] h fun v h'=>h'=h∧IsB (lo≤x∧x≤hi) v:=by
 refine jad Tryz.func50 rfl rfl (l:=(.int .i64 x)::(.int .i64 lo)::(.int .i64 hi)::uu12) rfl ?_
 intro cf cs K hK
 refine d82 ?_;refine rs9 ?_;refine d3 ?_
 refine ja1 rfl zq (fun hc=>?_) (fun hc=>?_)
 ·refine d163 ?_
  refine ja1 rfl rfl (fun hc=>?_) (fun hc=>?_)
  ·refine d64 ?_
   refine jab (h) rfl Tryz.func50 rfl jaa ?_;refine hK _ _ ?_;first|exact ⟨rfl,IsB.yes (by omega)⟩|exact ⟨rfl,IsB.no (by omega)⟩
  ·refine d64 ?_
   refine jab (h) rfl Tryz.func50 rfl jaa ?_;refine hK _ _ ?_;first|exact ⟨rfl,IsB.yes (by omega)⟩|exact ⟨rfl,IsB.no (by omega)⟩
 ·refine d30 ?_;refine d52 ?_;refine d0 ?_
  refine jab (h) rfl Tryz.func50 rfl jaa ?_;refine hK _ _ ?_;first|exact ⟨rfl,IsB.yes (by omega)⟩|exact ⟨rfl,IsB.no (by omega)⟩
theorem f113_c (m:Md Tryz.prog B) (h:Hp) (a b lo hi:Int):FnC m 113 #[.agg [.int .i64 a,.int .i64 b].toArray,.int .i64 lo,.int .i64 hi] h fun v h'=>h'=h∧IsB (lo≤a∧a≤b∧b≤hi) v:=by
 refine jad Tryz.func113 rfl rfl (l:=(.agg [.int .i64 a,.int .i64 b].toArray)::(.int .i64 lo)::(.int .i64 hi)::uu21) rfl ?_
 intro cf cs K hK
 refine rs2 ?_;refine jaq rfl zq (fun q3=>k_hp (jac ?_));refine d10 ?_;refine rr18 ?_;refine mq rfl ?_;refine d1 ?_
 refine ja1 rfl zq (fun hc=>?_) (fun hc=>?_)
 ·refine d101 ?_;refine d12 ?_
  refine ja1 rfl rfl (fun hc=>?_) (fun hc=>?_)
  ·refine jaz rfl zq ?_;refine d101 ?_;refine k_mv rfl rfl ?_;refine ja1 rfl rfl (fun hc=>?_) (fun hc=>?_)
   ·refine d64 ?_
    refine jab (h) rfl Tryz.func113 rfl jaa ?_;refine hK _ _ ?_;first|exact ⟨rfl,IsB.yes (by omega)⟩|exact ⟨rfl,IsB.no (by omega)⟩
   ·refine d64 ?_
    refine jab (h) rfl Tryz.func113 rfl jaa ?_;refine hK _ _ ?_;first|exact ⟨rfl,IsB.yes (by omega)⟩|exact ⟨rfl,IsB.no (by omega)⟩
  ·refine jaz rfl zq ?_;refine d49 ?_;refine d118 ?_;refine jab (h) rfl Tryz.func113 rfl jaa ?_;refine hK _ _ ?_;first|exact ⟨rfl,IsB.yes (by omega)⟩|exact ⟨rfl,IsB.no (by omega)⟩
 ·refine d49 ?_;refine d52 ?_;refine d49 ?_;refine d118 ?_
  refine jab (h) rfl Tryz.func113 rfl jaa ?_;refine hK _ _ ?_;first|exact ⟨rfl,IsB.yes (by omega)⟩|exact ⟨rfl,IsB.no (by omega)⟩
theorem f225_c (m:Md Tryz.prog B) (h:Hp) (a b lo hi n:Int) (h0: -10000≤lo) (h1:hi≤10000):FnC m 225 #[.agg [.int .i64 a,.int .i64 b].toArray,.int .i64 lo,.int .i64 hi,.int .i64 n] h fun v h'=>h'=h∧IsB (lo≤a∧a≤b∧b≤hi∧b-a<n) v:=by
 refine jad Tryz.func225 rfl rfl (l:=(.agg [.int .i64 a,.int .i64 b].toArray)::(.int .i64 lo)::(.int .i64 hi)::(.int .i64 n)::uu31) rfl ?_
 intro cf cs K hK
 refine rs2 ?_;refine jaq rfl zq (fun q4=>k_hp (jac ?_));refine d10 ?_
 refine jaA [(0,.free),(1,.free),(2,.free),(3,.free),(4,.free),(5,.free),(6,.free),(7,.free),(8,.free),(9,.free),(10,.free),(11,.free),(12,.free),(13,.free),(14,.free),(15,.free),(16,.free),(17,.free),(18,.free),(19,.free),(20,.free),(21,.free),(22,.free),(23,.free),(24,.free),(25,.free),(26,.free)] (by kernel_rfl) (by kernel_rfl) ?_;refine mq rfl ?_;refine d1 ?_
 refine ja1 rfl zq (fun hc=>?_) (fun hc=>?_)
 ·refine d101 ?_;refine d12 ?_
  refine ja1 rfl rfl (fun hc=>?_) (fun hc=>?_)
  ·refine jaz rfl zq ?_;refine d101 ?_;refine k_mv rfl rfl ?_;refine ja1 rfl rfl (fun hc=>?_) (fun hc=>?_)
   ·refine jaz rfl zq ?_;refine d101 ?_;refine d12 ?_;refine jcj rfl rfl (by unfold In64;omega) ?_;refine k_mv rfl rfl ?_;refine jap rfl rfl (fun hc=>?_) (fun hc=>?_)
    ·refine d64 ?_
     refine jab (h) rfl Tryz.func225 rfl jaa ?_;refine hK _ _ ?_;first|exact ⟨rfl,IsB.yes (by omega)⟩|exact ⟨rfl,IsB.no (by omega)⟩
    ·refine d64 ?_
     refine jab (h) rfl Tryz.func225 rfl jaa ?_;refine hK _ _ ?_;first|exact ⟨rfl,IsB.yes (by omega)⟩|exact ⟨rfl,IsB.no (by omega)⟩
   ·refine jaz rfl zq ?_;refine d89 ?_;refine d52 ?_;refine d0 ?_;refine jab (h) rfl Tryz.func225 rfl jaa ?_;refine hK _ _ ?_;first|exact ⟨rfl,IsB.yes (by omega)⟩|exact ⟨rfl,IsB.no (by omega)⟩
  ·refine jaz rfl zq ?_;refine d49 ?_;refine jau rfl zq ?_;refine d89 ?_;refine d52 ?_;refine d0 ?_;refine jab (h) rfl Tryz.func225 rfl jaa ?_;refine hK _ _ ?_;first|exact ⟨rfl,IsB.yes (by omega)⟩|exact ⟨rfl,IsB.no (by omega)⟩
 ·refine d49 ?_;refine d52 ?_;refine d49 ?_;refine jau rfl zq ?_;refine d89 ?_;refine d52 ?_;refine d0 ?_
  refine jab (h) rfl Tryz.func225 rfl jaa ?_;refine hK _ _ ?_;first|exact ⟨rfl,IsB.yes (by omega)⟩|exact ⟨rfl,IsB.no (by omega)⟩
theorem f107_c (m:Md Tryz.prog B) (h:Hp) (x y z:Int) (p:Option Addr) (n c:Nat) (q:Option Addr) (k e:Nat):FnC m 107 #[jiA x y z (.slice p n c) (.slice q k e)] h fun v h'=>h'=h∧v= .int .i64 n:=by
 refine jad Tryz.func107 rfl rfl (l:=(jiA x y z (.slice p n c) (.slice q k e))::uu6) rfl ?_
 intro cf cs K hK
 refine rs2 ?_;refine jaq rfl zq (fun q1=>k_hp (jac ?_));refine aq rfl ?_;refine rs5 ?_;refine d150 ?_;refine d0 ?_
 refine jab (h) rfl Tryz.func107 rfl jaa ?_;refine hK _ _ ?_;exact ⟨rfl,rfl⟩
theorem f114_c (m:Md Tryz.prog B) (h:Hp) (x y z:Int) (p:Option Addr) (n c:Nat) (q:Option Addr) (k e:Nat) (i:Int) (hn:n≤1000):FnC m 114 #[jiA x y z (.slice p n c) (.slice q k e),.int .i64 i] h fun v h'=>h'=h∧IsB (0≤i∧i≤n-1) v:=by
 refine jad Tryz.func114 rfl rfl (l:=(jiA x y z (.slice p n c) (.slice q k e))::(.int .i64 i)::uu9) rfl ?_
 intro cf cs K hK
 refine rs2 ?_;refine jaq rfl zq (fun q2=>k_hp (jac ?_));refine aq rfl ?_;refine rs7 ?_;refine mq rfl ?_;refine d1 ?_;refine d79 ?_
 refine jae (Post:=fun v=>IsB _ v) rfl zq (by kernel_rfl) (fun H' hH=>f50_c m _ _ _ _) ?_;rintro v (⟨hc,rfl⟩|⟨hc,rfl⟩)
 ·refine d87 ?_
  refine jab (h) rfl Tryz.func114 rfl jaa ?_;refine hK _ _ ?_;first|exact ⟨rfl,IsB.yes (by omega)⟩|exact ⟨rfl,IsB.no (by omega)⟩
 ·refine d87 ?_
  refine jab (h) rfl Tryz.func114 rfl jaa ?_;refine hK _ _ ?_;first|exact ⟨rfl,IsB.yes (by omega)⟩|exact ⟨rfl,IsB.no (by omega)⟩
theorem f64_c (m:Md Tryz.prog B) (h:Hp) (x y z:Int) (p:Option Addr) (n c:Nat) (q:Option Addr) (k e:Nat) (i:Int) (hn:n≤1000):FnC m 64 #[jiA x y z (.slice p n c) (.slice q k e),.int .i64 i] h fun v h'=>h'=h∧v= .int .i64 (if 0≤i∧i≤n-1 then 0 else 6):=by
 refine jad Tryz.func64 rfl rfl (l:=(jiA x y z (.slice p n c) (.slice q k e))::(.int .i64 i)::uu9) rfl ?_
 intro cf cs K hK
 refine rs2 ?_;refine jaq rfl zq (fun q2=>k_hp (jac ?_));refine d10 ?_;refine rs6 ?_;refine mq rfl ?_;refine jaT rfl zq ?_
 refine jae (Post:=fun v=>v=_) rfl zq (by kernel_rfl) (fun H' hH=>f107_c m _ _ _ _ _ _ _ _ _ _) ?_;rintro v rfl;refine jac ?_;refine jcj rfl zq (by unfold In64;omega) ?_;refine jae (Post:=fun v=>IsB _ v) rfl zq (by kernel_rfl) (fun H' hH=>f110_c m _ _ _ _) ?_;rintro v (⟨hc,rfl⟩|⟨hc,rfl⟩)
 ·refine d31 ?_;refine d9 ?_;refine d26 ?_
  refine jab (h) rfl Tryz.func64 rfl jaa ?_;refine hK _ _ ?_;first|exact ⟨rfl,by rw [if_pos (by assumption)]⟩|exact ⟨rfl,by rw [if_neg (by assumption)]⟩
 ·refine d152 ?_
  refine jab (h) rfl Tryz.func64 rfl jaa ?_;refine hK _ _ ?_;first|exact ⟨rfl,by rw [if_pos (by assumption)]⟩|exact ⟨rfl,by rw [if_neg (by assumption)]⟩
end Go.Proofs.Bt
namespace Go.Proofs.Bt
open Go.Proofs
open Go.Lo
open Go.Conc (G)
set_option maxRecDepth 100000
set_option synthInstance.maxSize 100000
set_option synthInstance.maxHeartbeats 1000000
set_option maxHeartbeats 4000000
variable {B:Array Obj}
theorem mem_getD {xs:List Int} {x:Int}:x∈xs↔ ∃i,i<xs.length∧xs.getD i 0=x:=by
 rw [List.mem_iff_getElem];constructor
 ·rintro ⟨i,h,e⟩;exact ⟨i,h,by rw [List.getD_eq_getElem?_getD,List.getElem?_eq_getElem h];exact e⟩
 ·rintro ⟨i,h,e⟩;exact ⟨i,h,by rw [List.getD_eq_getElem?_getD,List.getElem?_eq_getElem h] at e;exact e⟩
end Go.Proofs.Bt
namespace Go.Proofs.Bt
open Go.Proofs
open Go.Lo
open Go.Conc (G)
set_option maxRecDepth 100000
set_option synthInstance.maxSize 100000
set_option synthInstance.maxHeartbeats 1000000
set_option maxHeartbeats 4000000
variable {B:Array Obj}
def bends (xs:List Int):List Int:=diffs (diffs xs)
theorem jcV (xs:List Int):(bends xs).length=xs.length-2:=by simp [bends,jbI];omega
theorem jdV (l:List Int) (k:Nat) (h:k+1<l.length):(diffs l).getD k 0=l.getD (k+1) 0-l.getD k 0:=by
 rw [List.getD_eq_getElem?_getD,jgd l k h];rfl
theorem jlk (xs:List Int) (k:Nat) (h:k+2<xs.length):(bends xs).getD k 0=xs.getD k 0+xs.getD (k+2) 0-2*xs.getD (k+1) 0:=by
 unfold bends
 rw [jdV _ _ (by rw [jbI];omega),jdV _ _ (by omega),jdV _ _ (by omega),show k+1+1=k+2 from rfl];omega
theorem getD_out (l:List Int) (k:Nat) (h:l.length≤k):l.getD k 0=0:=by
 rw [List.getD_eq_getElem?_getD,List.getElem?_eq_none (by omega)];rfl
def Small (m:Int) (xs:List Int):Prop:= ∀j,-m≤xs.getD j 0∧xs.getD j 0≤m
theorem Small.diffs {m:Int} {xs:List Int} (hb:Small m xs):Small (2*m) (diffs xs):=fun j=>by
 have h1:=hb j
 have h2:=hb (j+1)
 by_cases h:j+1<xs.length
 ·rw [jdV xs j h];omega
 ·rw [getD_out _ _ (by rw [jbI];omega)];omega
theorem Small.bends {m:Int} {xs:List Int} (hb:Small m xs):Small (4*m) (bends xs):=fun j=>by
 have:=hb.diffs.diffs j
 unfold Go.Proofs.Bt.bends
 omega
def turnSt (s:Int×Int) (k:Int):Int×Int:=(if (k>0∧s.2<0)∨(k<0∧s.2>0) then s.1+1 else s.1,if k≠0 then k else s.2)
def turnF (l:List Int):Int×Int:=l.foldl turnSt (0,0)
def turns (xs:List Int):Int:=(turnF (bends xs)).1
theorem jbZ (l:List Int) (k:Nat) (h:k<l.length):turnF (l.take (k+1))=turnSt (turnF (l.take k)) (l.getD k 0):=by
 rw [take_snoc' l k h,turnF,List.foldl_append];rfl
def jhb (l:List Int) (m:Int):Prop:= ∀x∈l,-m≤x∧x≤m
def fair (be tw tu:Int) (xs:List Int):Prop:=jhb (bends xs) be∧jhb (diffs (bends xs)) tw∧turns xs≤tu
end Go.Proofs.Bt
namespace Go.Proofs.Bt
open Go.Proofs
open Go.Lo
open Go.Conc (G)
set_option maxRecDepth 100000
set_option synthInstance.maxSize 100000
set_option synthInstance.maxHeartbeats 1000000
set_option maxHeartbeats 4000000
variable {B:Array Obj}
def okM (x:Sp):Prop:=0≤x.lo∧x.lo≤x.hi∧x.hi≤959∧x.hi-x.lo<3
instance (x:Sp):Decidable (okM x):=by unfold okM;infer_instance
instance (ms:List Sp):Decidable (∀x∈ms,okM x):=List.decidableBAll _ _
def marksS (ms:List Sp):Int:=if¬(3≤ms.length∧ms.length≤7) then 2 else if∀x∈ms,okM x then 0 else 1
def jaM (many:Int):List Ru→Int
 |[]=>0
 |r::t=>if¬(0≤r.a∧r.a≤many-1)∨ ¬(0≤r.b∧r.b≤many-1) then 6 else if r.a≥r.b then 7 else if¬(-959≤r.lo∧r.lo≤r.hi∧r.hi≤959) then 1 else jaM many t
def jax (many:Int) (rs:List Ru):Int:=if rs.length>4 then 2 else jaM many rs
def bookS (b:Bk):Int:=
 if¬(0≤b.bend∧b.bend≤99)∨ ¬(0≤b.twist∧b.twist≤99)∨ ¬(0≤b.turns∧b.turns≤5) then 1 else
 if marksS b.marks≠0 then marksS b.marks else jax b.marks.length b.rules
theorem f51_c (m:Md Tryz.prog B) (h:Hp) {pm:Option Addr} {nm cm:Nat} {ms:List Sp} (rdm:RdS B h 2 (.slice pm nm cm) nm (encs ms)) (hm:nm≤1000):FnC m 51 #[.slice pm nm cm] h fun v h'=>h'=h∧v= .int .i64 (marksS ms):=by
 have hml:=rdm.elen (by decide)
 refine jad Tryz.func51 rfl rfl (l:=(.slice pm nm cm)::uu33) rfl ?_
 intro cf cs K hK
 refine d67 ?_;refine d115 ?_;refine jcO rfl zq ?_
 refine jae (Post:=fun v=>IsB _ v) rfl zq (by kernel_rfl) (fun H' hH=>f50_c m H' _ _ _) ?_;rintro v (⟨hc,rfl⟩|⟨hc,rfl⟩)
 ·refine d31 ?_;refine d36 ?_;refine d98 ?_
  refine jag (fun nn l h'=> ∃(k:Nat),nn=nm-k∧(k≤nm)∧(∀i,i<k→okM (ms.getD i default))∧(∃U:Nat→Value,l=((.slice pm nm cm)::(U 1)::(U 2)::(.int .i64 (k:Int))::vw30 U 4 []))∧h=h') _ ⟨0,rfl,by omega,by omega,exU rfl,rfl⟩ ?_;rintro nn l h' ⟨k,rfl,hk,he,⟨U,rfl⟩,rfl⟩ hnext;refine d114 ?_
  refine jap rfl zq (fun hc=>?_) (fun hc=>?_)
  ·refine d97 ?_
   refine jah [(0,.pure),(1,.pure),(2,.pure),(3,.read),(4,.keep),(5,.pure),(6,.pure),(7,.pure),(8,.pure),(9,.pure),(10,.pure),(12,.pure),(13,.pure),(14,.pure),(15,.pure),(11,.read),(16,.read),(17,.pure),(18,.pure),(19,.pure)] (by kernel_rfl) (by kernel_rfl) (List.Sublist.refl _) ?_;refine d3 ?_
   obtain ⟨rdm_b,rdm_o,rfl⟩:=rdm.ptr (by omega)
   refine jaJ rfl zq (by first|rfl|assumption) (by omega) (by omega) ?_;refine jbf (vs:=[.int .i64 (ms.getD k default).lo,.int .i64 (ms.getD k default).hi]) rfl zq rfl (rdm.eat k (by omega) (by omega)) ?_;refine jae (Post:=fun v=>IsB _ v) rfl zq (by kernel_rfl) (fun H' hH=>f113_c m H' _ _ _ _) ?_;rintro v (⟨hc,rfl⟩|⟨hc,rfl⟩)
   ·refine d31 ?_;refine d22 ?_;refine d27 ?_;(first|refine jcc rfl rfl ?_|refine k_fa rfl rfl ?_);refine d164 ?_;(first|refine jcc rfl rfl ?_|refine k_fa rfl rfl ?_)
    refine k_ld rfl rfl (rdm.fat (v:= .int .i64 (ms.getD k default).hi) k 1 (by omega) (by omega) rfl) ?_;refine k_ld rfl rfl (rdm.fat (v:= .int .i64 (ms.getD k default).lo) k 0 (by omega) (by omega) rfl) ?_;refine jcj rfl rfl (by unfold In64;omega) ?_;refine jaY rfl rfl (fun hc=>?_) (fun hc=>?_)
    ·refine d123 ?_
     refine jab (h) rfl Tryz.func51 rfl jaa ?_;refine hK _ _ ?_;first
      |exact ⟨rfl,by rw [marksS,if_pos (by omega)]⟩
      |exact ⟨rfl,by rw [marksS,if_neg (by omega),if_neg (fun e=>by have:=e _ (jai.2 ⟨k,by omega,rfl⟩);unfold okM at this;omega)]⟩
      |exact ⟨rfl,by rw [marksS,if_neg (by omega),if_pos (fun x hx=>by obtain ⟨i,h1,rfl⟩:=jai.1 hx;exact he i (by omega))]⟩
    ·refine jau rfl zq ?_;refine d105 ?_;exact m.weak jaa (hnext _ _ _ (by omega) ⟨k+1,rfl,by omega,jeR he (by unfold okM;omega),exU rfl,rfl⟩)
   ·refine d33 ?_;refine d168 ?_;refine d2 ?_;refine jaz rfl zq ?_;refine d50 ?_
    refine jab (h) rfl Tryz.func51 rfl jaa ?_;refine hK _ _ ?_;first
     |exact ⟨rfl,by rw [marksS,if_pos (by omega)]⟩
     |exact ⟨rfl,by rw [marksS,if_neg (by omega),if_neg (fun e=>by have:=e _ (jai.2 ⟨k,by omega,rfl⟩);unfold okM at this;omega)]⟩
     |exact ⟨rfl,by rw [marksS,if_neg (by omega),if_pos (fun x hx=>by obtain ⟨i,h1,rfl⟩:=jai.1 hx;exact he i (by omega))]⟩
  ·refine d160 ?_
   refine jab (h) rfl Tryz.func51 rfl jaa ?_;refine hK _ _ ?_;first
    |exact ⟨rfl,by rw [marksS,if_pos (by omega)]⟩
    |exact ⟨rfl,by rw [marksS,if_neg (by omega),if_neg (fun e=>by have:=e _ (jai.2 ⟨k,by omega,rfl⟩);unfold okM at this;omega)]⟩
    |exact ⟨rfl,by rw [marksS,if_neg (by omega),if_pos (fun x hx=>by obtain ⟨i,h1,rfl⟩:=jai.1 hx;exact he i (by omega))]⟩
 ·refine d152 ?_
  refine jab (h) rfl Tryz.func51 rfl jaa ?_;refine hK _ _ ?_;first
   |exact ⟨rfl,by rw [marksS,if_pos (by omega)]⟩
   |exact ⟨rfl,by rw [marksS,if_neg (by omega),if_neg (fun e=>by have:=e _ (jai.2 ⟨k,by omega,rfl⟩);unfold okM at this;omega)]⟩
   |exact ⟨rfl,by rw [marksS,if_neg (by omega),if_pos (fun x hx=>by obtain ⟨i,h1,rfl⟩:=jai.1 hx;exact he i (by omega))]⟩
theorem f52_c (m:Md Tryz.prog B) (h:Hp) {b:Bk} {pm:Option Addr} {nm cm:Nat} {pr:Option Addr} {nr cr:Nat} (rdm:RdS B h 2 (.slice pm nm cm) nm (encs b.marks)) (hm:nm≤1000) (rdr:RdS B h 4 (.slice pr nr cr) nr (encs b.rules)) (hr:nr≤1000):FnC m 52 #[bkV b pm nm cm pr nr cr] h fun v h'=>h'=h∧v= .int .i64 (jax b.marks.length b.rules):=by
 have hml:=rdm.elen (by decide)
 have hrl:=rdr.elen (by decide)
 refine jad Tryz.func52 rfl rfl (l:=(bkV b pm nm cm pr nr cr)::uu41) rfl ?_
 intro cf cs K hK
 refine rs2 ?_;refine jaq rfl zq (fun q1=>k_hp (jac ?_));refine d10 ?_;refine rs4 ?_;refine d95 ?_
 refine jbz rfl zq (fun hc=>?_) (fun hc=>?_)
 ·refine d50 ?_
  refine jab (h) rfl Tryz.func52 rfl jaa ?_;refine hK _ _ ?_;refine ⟨rfl,?_⟩
  first
   |(rw [jax,if_pos (by omega)];done)
   |(rw [jax,if_neg (by omega),he,List.drop_eq_nil_of_le (by omega)];rfl)
   |(rw [jax,if_neg (by omega),he,jao b.rules k (by omega),jaM,if_pos (by omega)];done)
   |(rw [jax,if_neg (by omega),he,jao b.rules k (by omega),jaM,if_neg (by omega),if_pos (by omega)];done)
   |(rw [jax,if_neg (by omega),he,jao b.rules k (by omega),jaM,if_neg (by omega),if_neg (by omega),if_pos (by omega)];done)
 ·refine d36 ?_;refine d98 ?_
  refine jag (fun nn l h'=> ∃(k:Nat),nn=nr-k∧(k≤nr)∧(jaM b.marks.length b.rules=jaM b.marks.length (b.rules.drop k))∧(∃U:Nat→Value,l=((bkV b pm nm cm pr nr cr)::(.pointer (some ⟨q1,0,none⟩))::(U 2)::(.int .i64 (k:Int))::vw38 U 4 []))∧h++[⟨true,q1,.cells (bkL b pm nm cm pr nr cr).toArray 43 (0,0)⟩]=h') _ ⟨0,rfl,by omega,rfl,exU rfl,rfl⟩ ?_;rintro nn l h' ⟨k,rfl,hk,he,⟨U,rfl⟩,rfl⟩ hnext;refine d158 ?_;refine d95 ?_
  refine jap rfl zq (fun hc=>?_) (fun hc=>?_)
  ·refine d75 ?_;refine rs7 ?_;refine d1 ?_;refine mq rfl ?_
   obtain ⟨rdr_b,rdr_o,rfl⟩:=rdr.ptr (by omega)
   refine jaJ rfl zq (by first|rfl|assumption) (by omega) (by omega) ?_;refine jbf (vs:=[.int .i64 (b.rules.getD k default).a,.int .i64 (b.rules.getD k default).b,.int .i64 (b.rules.getD k default).lo,.int .i64 (b.rules.getD k default).hi]) rfl zq rfl (rdr.eat k (by omega) (by omega)) ?_;refine jaw rfl zq (fun q4=>k_hp (jac ?_));refine d142 ?_;refine rs12 ?_;refine jaT rfl zq ?_;refine d1 ?_
   refine jae (Post:=fun v=>IsB _ v) rfl zq (by kernel_rfl) (fun H' hH=>f114_c m H' _ _ _ _ _ _ _ _ _ _ (by omega)) ?_;rintro v (⟨hc,rfl⟩|⟨hc,rfl⟩)
   ·refine d31 ?_;refine d104 ?_;refine d12 ?_
    refine jae (Post:=fun v=>IsB _ v) rfl rfl (by kernel_rfl) (fun H' hH=>f114_c m H' _ _ _ _ _ _ _ _ _ _ (by omega)) ?_;rintro v (⟨hc,rfl⟩|⟨hc,rfl⟩)
    ·refine d156 ?_;refine d36 ?_;refine rs5 ?_;refine d1 ?_;refine d1 ?_
     refine jaY rfl zq (fun hc=>?_) (fun hc=>?_)
     ·refine d50 ?_
      refine jab (h) rfl Tryz.func52 rfl jaa ?_;refine hK _ _ ?_;refine ⟨rfl,?_⟩
      first
       |(rw [jax,if_pos (by omega)];done)
       |(rw [jax,if_neg (by omega),he,List.drop_eq_nil_of_le (by omega)];rfl)
       |(rw [jax,if_neg (by omega),he,jao b.rules k (by omega),jaM,if_pos (by omega)];done)
       |(rw [jax,if_neg (by omega),he,jao b.rules k (by omega),jaM,if_neg (by omega),if_pos (by omega)];done)
       |(rw [jax,if_neg (by omega),he,jao b.rules k (by omega),jaM,if_neg (by omega),if_neg (by omega),if_pos (by omega)];done)
     ·refine d9 ?_;refine rs4 ?_;refine d62 ?_
      refine jae (Post:=fun v=>IsB _ v) rfl zq (by kernel_rfl) (fun H' hH=>f113_c m H' _ _ _ _) ?_;rintro v (⟨hc,rfl⟩|⟨hc,rfl⟩)
      ·refine d31 ?_;refine d105 ?_
       exact m.weak jaa (hnext _ _ _ (by omega) ⟨k+1,rfl,by omega,by rw [he,jao b.rules k (by omega),jaM,if_neg (by omega),if_neg (by omega),if_neg (by omega)],exU rfl,rfl⟩)
      ·refine d152 ?_
       refine jab (h) rfl Tryz.func52 rfl jaa ?_;refine hK _ _ ?_;refine ⟨rfl,?_⟩
       first
        |(rw [jax,if_pos (by omega)];done)
        |(rw [jax,if_neg (by omega),he,List.drop_eq_nil_of_le (by omega)];rfl)
        |(rw [jax,if_neg (by omega),he,jao b.rules k (by omega),jaM,if_pos (by omega)];done)
        |(rw [jax,if_neg (by omega),he,jao b.rules k (by omega),jaM,if_neg (by omega),if_pos (by omega)];done)
        |(rw [jax,if_neg (by omega),he,jao b.rules k (by omega),jaM,if_neg (by omega),if_neg (by omega),if_pos (by omega)];done)
    ·refine d93 ?_;refine d123 ?_
     refine jab (h) rfl Tryz.func52 rfl jaa ?_;refine hK _ _ ?_;refine ⟨rfl,?_⟩
     first
      |(rw [jax,if_pos (by omega)];done)
      |(rw [jax,if_neg (by omega),he,List.drop_eq_nil_of_le (by omega)];rfl)
      |(rw [jax,if_neg (by omega),he,jao b.rules k (by omega),jaM,if_pos (by omega)];done)
      |(rw [jax,if_neg (by omega),he,jao b.rules k (by omega),jaM,if_neg (by omega),if_pos (by omega)];done)
      |(rw [jax,if_neg (by omega),he,jao b.rules k (by omega),jaM,if_neg (by omega),if_neg (by omega),if_pos (by omega)];done)
   ·refine d33 ?_;refine d49 ?_;refine d76 ?_;refine d50 ?_
    refine jab (h) rfl Tryz.func52 rfl jaa ?_;refine hK _ _ ?_;refine ⟨rfl,?_⟩
    first
     |(rw [jax,if_pos (by omega)];done)
     |(rw [jax,if_neg (by omega),he,List.drop_eq_nil_of_le (by omega)];rfl)
     |(rw [jax,if_neg (by omega),he,jao b.rules k (by omega),jaM,if_pos (by omega)];done)
     |(rw [jax,if_neg (by omega),he,jao b.rules k (by omega),jaM,if_neg (by omega),if_pos (by omega)];done)
     |(rw [jax,if_neg (by omega),he,jao b.rules k (by omega),jaM,if_neg (by omega),if_neg (by omega),if_pos (by omega)];done)
  ·refine d160 ?_
   refine jab (h) rfl Tryz.func52 rfl jaa ?_;refine hK _ _ ?_;refine ⟨rfl,?_⟩
   first
    |(rw [jax,if_pos (by omega)];done)
    |(rw [jax,if_neg (by omega),he,List.drop_eq_nil_of_le (by omega)];rfl)
    |(rw [jax,if_neg (by omega),he,jao b.rules k (by omega),jaM,if_pos (by omega)];done)
    |(rw [jax,if_neg (by omega),he,jao b.rules k (by omega),jaM,if_neg (by omega),if_pos (by omega)];done)
    |(rw [jax,if_neg (by omega),he,jao b.rules k (by omega),jaM,if_neg (by omega),if_neg (by omega),if_pos (by omega)];done)
theorem f12_c (m:Md Tryz.prog B) (h:Hp) {b:Bk} {pm:Option Addr} {nm cm:Nat} {pr:Option Addr} {nr cr:Nat} (rdm:RdS B h 2 (.slice pm nm cm) nm (encs b.marks)) (hm:nm≤1000) (rdr:RdS B h 4 (.slice pr nr cr) nr (encs b.rules)) (hr:nr≤1000):FnC m 12 #[bkV b pm nm cm pr nr cr] h fun v h'=>h'=h∧v= .int .i64 (bookS b):=by
 have hml:=rdm.elen (by decide)
 have hrl:=rdr.elen (by decide)
 refine jad Tryz.func12 rfl rfl (l:=(bkV b pm nm cm pr nr cr)::uu27) rfl ?_
 intro cf cs K hK
 refine rs2 ?_;refine jaq rfl zq (fun q1=>k_hp (jac ?_));refine d10 ?_;refine jak ?_;refine rr16 ?_;refine d1 ?_
 refine jae (Post:=fun v=>IsB _ v) rfl zq (by kernel_rfl) (fun H' hH=>f50_c m H' _ _ _) ?_;rintro v (⟨hc,rfl⟩|⟨hc,rfl⟩)
 ·refine d31 ?_;refine d101 ?_
  refine jae (Post:=fun v=>IsB _ v) rfl rfl (by kernel_rfl) (fun H' hH=>f50_c m H' _ _ _) ?_;rintro v (⟨hc,rfl⟩|⟨hc,rfl⟩)
  ·refine d156 ?_;refine d101 ?_
   refine jae (Post:=fun v=>IsB _ v) rfl rfl (by kernel_rfl) (fun H' hH=>f50_c m H' _ _ _) ?_;rintro v (⟨hc,rfl⟩|⟨hc,rfl⟩)
   ·refine d156 ?_;refine d36 ?_;refine rs4 ?_;refine d1 ?_
    refine jae (Post:=fun v=>v=_) rfl zq (by kernel_rfl) (fun H' hH=>f51_c m H' (rdm.keeps (sq hH)) hm) ?_;rintro v rfl;refine d135 ?_
    refine jaF rfl zq (fun hc=>?_) (fun hc=>?_)
    ·refine d166 ?_
     refine jab (h) rfl Tryz.func12 rfl jaa ?_;refine hK _ _ ?_;refine ⟨rfl,?_⟩
     rw [bookS];first|(rw [if_pos (by omega)];done)|(rw [if_neg (by omega),if_pos (by assumption)];done)|(rw [if_neg (by omega),if_neg (by omega)];done)
    ·refine d9 ?_;refine d96 ?_
     refine jae (Post:=fun v=>v=_) rfl zq (by kernel_rfl) (fun H' hH=>f52_c m H' (rdm.keeps (sq hH)) hm (rdr.keeps (sq hH)) hr) ?_;rintro v rfl;refine d87 ?_
     refine jab (h) rfl Tryz.func12 rfl jaa ?_;refine hK _ _ ?_;refine ⟨rfl,?_⟩
     rw [bookS];first|(rw [if_pos (by omega)];done)|(rw [if_neg (by omega),if_pos (by assumption)];done)|(rw [if_neg (by omega),if_neg (by omega)];done)
   ·refine d93 ?_;refine d123 ?_
    refine jab (h) rfl Tryz.func12 rfl jaa ?_;refine hK _ _ ?_;refine ⟨rfl,?_⟩
    rw [bookS];first|(rw [if_pos (by omega)];done)|(rw [if_neg (by omega),if_pos (by assumption)];done)|(rw [if_neg (by omega),if_neg (by omega)];done)
  ·refine d93 ?_;refine jau rfl zq ?_;refine d111 ?_;refine d50 ?_
   refine jab (h) rfl Tryz.func12 rfl jaa ?_;refine hK _ _ ?_;refine ⟨rfl,?_⟩
   rw [bookS];first|(rw [if_pos (by omega)];done)|(rw [if_neg (by omega),if_pos (by assumption)];done)|(rw [if_neg (by omega),if_neg (by omega)];done)
 ·refine d33 ?_;refine d111 ?_;refine d111 ?_;refine d50 ?_
  refine jab (h) rfl Tryz.func12 rfl jaa ?_;refine hK _ _ ?_;refine ⟨rfl,?_⟩
  rw [bookS];first|(rw [if_pos (by omega)];done)|(rw [if_neg (by omega),if_pos (by assumption)];done)|(rw [if_neg (by omega),if_neg (by omega)];done)
end Go.Proofs.Bt
namespace Go.Proofs.Bt
open Go.Proofs
open Go.Lo
open Go.Conc (G)
set_option maxRecDepth 100000
set_option synthInstance.maxSize 100000
set_option synthInstance.maxHeartbeats 1000000
set_option maxHeartbeats 4000000
variable {B:Array Obj}
def boat (b:Bk) (xs:List Int):Prop:=
 (∀i,i<xs.length→(b.marks.getD i default).lo≤xs.getD i 0∧xs.getD i 0≤(b.marks.getD i default).hi)∧
 (∀r∈b.rules,r.lo≤xs.getD r.b.toNat 0-xs.getD r.a.toNat 0∧xs.getD r.b.toNat 0-xs.getD r.a.toNat 0≤r.hi)∧fair b.bend b.twist b.turns xs
structure Valid (b:Bk):Prop where
 bend:0≤b.bend∧b.bend≤99
 twist:0≤b.twist∧b.twist≤99
 turns:0≤b.turns∧b.turns≤5
 many:3≤b.marks.length∧b.marks.length≤7
 marks: ∀x∈b.marks,okM x
 few:b.rules.length≤4
 rules: ∀r∈b.rules,(0≤r.a∧r.a<b.marks.length)∧(0≤r.b∧r.b<b.marks.length)∧r.a<r.b∧ -959≤r.lo∧r.lo≤r.hi∧r.hi≤959
theorem ji5 {ms:List Sp} (h:marksS ms=0):(3≤ms.length∧ms.length≤7)∧ ∀x∈ms,okM x:=by
 unfold marksS at h
 split at h
 ·omega
 ·split at h
  ·rename_i h1 h2
   exact ⟨by omega,h2⟩
  ·omega
theorem jfK {many:Int}: ∀{rs:List Ru},jaM many rs=0→ ∀r∈rs,(0≤r.a∧r.a<many)∧(0≤r.b∧r.b<many)∧r.a<r.b∧ -959≤r.lo∧r.lo≤r.hi∧r.hi≤959
 |[],_,r,hr=>by simp at hr
 |x::t,h,r,hr=>by
  unfold jaM at h
  split at h
  ·omega
  ·split at h
   ·omega
   ·split at h
    ·omega
    ·rcases List.mem_cons.1 hr with rfl|hr
     ·refine ⟨?_,?_,?_,?_,?_,?_⟩<;>omega
     ·exact jfK h r hr
theorem valid_of {b:Bk} (h:bookS b=0):Valid b:=by
 unfold bookS at h
 split at h
 ·omega
 ·split at h
  ·contradiction
  ·rename_i h1 h2
   obtain ⟨m1,m2⟩:=ji5 (ms:=b.marks) (by omega)
   unfold jax at h
   split at h
   ·omega
   ·exact ⟨by omega,by omega,by omega,m1,m2,by omega,fun r hr=>jfK h r hr⟩
end Go.Proofs.Bt
namespace Go.Proofs.Bt
open Go.Proofs
open Go.Lo
open Go.Conc (G)
set_option maxRecDepth 100000
set_option synthInstance.maxSize 100000
set_option synthInstance.maxHeartbeats 1000000
set_option maxHeartbeats 4000000
variable {B:Array Obj}
def spanL (x:Sp):List Int:=(List.range (x.hi-x.lo+1).toNat).map fun i:Nat=>x.lo+(i:Int)
theorem spanL_length (x:Sp):(spanL x).length=(x.hi-x.lo+1).toNat:=by simp [spanL]
theorem spanL_getD (x:Sp) (j:Nat) (h:j<(x.hi-x.lo+1).toNat):(spanL x).getD j 0=x.lo+j:=by
 rw [spanL,List.getD_eq_getElem?_getD,List.getElem?_map,List.getElem?_range h];rfl
def ext1 (l:List Int) (ns:List Int):List (List Int):=ns.map fun n=>l++[n]
def extL (all:List (List Int)) (x:Sp):List (List Int):=all.flatMap fun l=>ext1 l (spanL x)
def linesOf (ms:List Sp):List (List Int):=ms.foldl extL [[]]
instance (l:List Int) (m:Int):Decidable (jhb l m):=by unfold jhb;infer_instance
instance (be tw tu:Int) (xs:List Int):Decidable (fair be tw tu xs):=by unfold fair;infer_instance
instance (b:Bk) (xs:List Int):Decidable (boat b xs):=by unfold boat;infer_instance
def boatsOf (b:Bk):List (List Int):=(linesOf b.marks).filter fun l=>decide (boat b l)
theorem linesOf_take (ms:List Sp) (k:Nat) (h:k<ms.length):linesOf (ms.take (k+1))=extL (linesOf (ms.take k)) (ms.getD k default):=by
 rw [jfF ms k h,linesOf,List.foldl_append];rfl
theorem extL_length (all:List (List Int)) (x:Sp):(extL all x).length=all.length*(x.hi-x.lo+1).toNat:=by
 induction all with
 |nil=>simp [extL]
 |cons a r ih=>
  have:extL (a::r) x=ext1 a (spanL x)++extL r x:=by simp [extL]
  rw [this,List.length_append,ih,ext1,List.length_map,spanL_length,List.length_cons,Nat.add_mul,Nat.one_mul];omega
theorem linesOf_small {ms:List Sp} (hk: ∀x∈ms,okM x): ∀k,k≤ms.length→(linesOf (ms.take k)).length≤3^k
 |0,_=>by simp [linesOf]
 |k+1,h=>by
  have ih:=linesOf_small hk k (by omega)
  have ho:=hk _ (jai.2 ⟨k,by omega,rfl⟩)
  rw [linesOf_take ms k (by omega),extL_length];unfold okM at ho
  exact Nat.mul_le_mul ih (by omega)
theorem jkS {b:Bk} (hv:Valid b) (k:Nat) (h:k≤b.marks.length):(linesOf (b.marks.take k)).length≤2187:=by
 have h1:=linesOf_small hv.marks k h
 have h2:=hv.many
 have h3:3^k≤3^7:=Nat.pow_le_pow_right (by omega) (by omega)
 omega
theorem mem_extL {all:List (List Int)} {x:Sp} {l:List Int}:l∈extL all x↔ ∃a∈all,∃n∈spanL x,l=a++[n]:=by
 simp only [extL,ext1,List.mem_flatMap,List.mem_map]
 constructor
 ·rintro ⟨a,ha,n,hn,rfl⟩;exact ⟨a,ha,n,hn,rfl⟩
 ·rintro ⟨a,ha,n,hn,rfl⟩;exact ⟨a,ha,n,hn,rfl⟩
theorem mem_spanL {x:Sp} {n:Int}:n∈spanL x↔x.lo≤n∧n≤x.hi:=by
 simp only [spanL,List.mem_map,List.mem_range]
 constructor
 ·rintro ⟨i,hi,rfl⟩;omega
 ·intro h
  exact ⟨(n-x.lo).toNat,by omega,by omega⟩
theorem mem_linesOf {ms:List Sp}: ∀{k:Nat} {l:List Int},k≤ms.length→(l∈linesOf (ms.take k)↔l.length=k∧ ∀i,i<k→(ms.getD i default).lo≤l.getD i 0∧l.getD i 0≤(ms.getD i default).hi)
 |0,l,_=>by
  simp only [List.take_zero,linesOf,List.foldl_nil,List.mem_singleton]
  constructor
  ·rintro rfl;exact ⟨rfl,fun i hi=>by omega⟩
  ·rintro ⟨h,_⟩;exact List.length_eq_zero_iff.1 h
 |k+1,l,h=>by
  rw [linesOf_take ms k (by omega),mem_extL];constructor
  ·rintro ⟨a,ha,n,hn,rfl⟩;obtain ⟨h1,h2⟩:=(mem_linesOf (by omega)).1 ha
   have hn':=mem_spanL.1 hn
   refine ⟨by simp [h1],fun i hi=>?_⟩
   rcases Nat.lt_or_ge i k with h3|h3
   ·have:=h2 i h3
    simp only [List.getD_eq_getElem?_getD] at this⊢
    rw [List.getElem?_append_left (by omega)];exact this
   ·obtain rfl:i=k:=by omega
    simp only [List.getD_eq_getElem?_getD] at hn'⊢
    rw [List.getElem?_append_right (by omega),h1,Nat.sub_self];exact hn'
  ·rintro ⟨h1,h2⟩;refine ⟨l.take k,(mem_linesOf (by omega)).2 ⟨by simp;omega,fun i hi=>?_⟩,l.getD k 0,mem_spanL.2 (h2 k (by omega)),?_⟩
   ·have:=h2 i (by omega)
    simp only [List.getD_eq_getElem?_getD] at this⊢
    rw [List.getElem?_take,if_pos hi];exact this
   ·rw [←take_snoc' l k (by omega),List.take_of_length_le (by omega)]
def boatsF (b:Bk) (ll:List (List Int)) (e:Nat):List (List Int):=(ll.take e).filter fun l=>decide (boat b l)
theorem boatsF_le (b:Bk) (ll:List (List Int)) (e:Nat):(boatsF b ll e).length≤ll.length:=by
 have:=List.length_filter_le (fun l=>decide (boat b l)) (ll.take e)
 rw [List.length_take] at this
 unfold boatsF
 omega
theorem ji8 {b:Bk} {l:List Int} (hl:l∈linesOf b.marks):l.length=b.marks.length∧ ∀i,i<b.marks.length→(b.marks.getD i default).lo≤l.getD i 0∧l.getD i 0≤(b.marks.getD i default).hi:=by
 have:=(mem_linesOf (ms:=b.marks) (k:=b.marks.length) (l:=l) (Nat.le_refl _)).1 (by rw [List.take_length];exact hl)
 exact this
theorem jkT {b:Bk} (hv:Valid b) {l:List Int} (hl:l∈linesOf b.marks):Small 959 l:=fun j=>by
 obtain ⟨h1,h2⟩:=ji8 hl
 by_cases h:j<l.length
 ·have h3:=h2 j (by omega)
  have h4:=hv.marks _ (jai.2 ⟨j,by omega,rfl⟩)
  unfold okM at h4
  omega
 ·rw [getD_out _ _ (by omega)];omega
theorem Small.le {m m':Int} {xs:List Int} (h:Small m xs) (hm:m≤m'):Small m' xs:=fun j=>by have:=h j;omega
end Go.Proofs.Bt
namespace Go.Proofs.Bt
open Go.Proofs
open Go.Lo
open Go.Conc (G)
set_option maxRecDepth 100000
set_option synthInstance.maxSize 100000
set_option synthInstance.maxHeartbeats 1000000
set_option maxHeartbeats 4000000
variable {B:Array Obj}
def openS (b:Bk) (own:Int):Int:=if bookS b≠0 then bookS b else if own≠0 then own else if boatsOf b=[] then 9 else 0
def openL (b:Bk) (own:Int):List (List Int):=if openS b own=0 then boatsOf b else []
theorem openS_zero {b:Bk} {own:Int} (h:openS b own=0):bookS b=0∧own=0∧boatsOf b≠[]:=by
 unfold openS at h
 split at h
 ·omega
 ·split at h
  ·omega
  ·split at h
   ·omega
   ·refine ⟨by omega,by omega,by assumption⟩
theorem boats_le {b:Bk} (hv:Valid b):(boatsOf b).length≤2187:=by
 have:=boatsF_le b (linesOf b.marks) (linesOf b.marks).length
 rw [boatsF,List.take_length] at this
 have h2:=jkS hv b.marks.length (Nat.le_refl _)
 rw [List.take_length] at h2
 unfold boatsOf
 omega
theorem jiC {b:Bk} {l:List Int} (h:l∈boatsOf b):l∈linesOf b.marks:=(List.mem_filter.1 h).1
end Go.Proofs.Bt
namespace Go.Proofs.Bt
open Go.Proofs
open Go.Lo
open Go.Conc (G)
set_option maxRecDepth 100000
set_option synthInstance.maxSize 100000
set_option synthInstance.maxHeartbeats 1000000
set_option maxHeartbeats 4000000
variable {B:Array Obj}
def Asc (ys:List Int):Prop:=ys.Pairwise (· < ·)
end Go.Proofs.Bt
namespace Go.Proofs.Bt
open Go.Proofs
open Go.Lo
open Go.Conc (G)
set_option maxRecDepth 100000
set_option synthInstance.maxSize 100000
set_option synthInstance.maxHeartbeats 1000000
set_option maxHeartbeats 4000000
variable {B:Array Obj}
def heightsAt (ll:List (List Int)) (s:Nat):List Int:=ll.map fun l=>l.getD s 0
theorem jgu (ll:List (List Int)) (s k:Nat) (h:k<ll.length):heightsAt (ll.take (k+1)) s=heightsAt (ll.take k) s++[(ll.getD k []).getD s 0]:=by
 rw [jb0 ll k h,heightsAt,List.map_append];rfl
end Go.Proofs.Bt
