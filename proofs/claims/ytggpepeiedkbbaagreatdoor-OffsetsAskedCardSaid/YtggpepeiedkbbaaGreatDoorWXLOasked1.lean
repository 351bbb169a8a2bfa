/- A part of the proof of a law. Condition of each theorem: as its statement says. -/
import Derived.Test.YtggpepeiedkbbaaGreatDoorVN10
import Derived.Test.YtggpepeiedkbbaaGreatDoorProg
import Derived.Sort.Walk0
set_option linter.all false
variable {P:Go.Program} {B:Array Go.Obj} {S h H h':Go.Lo.Hp} {ops:Array Go.Oper} {r:List (Nat×Go.Lo.Kd)} {kd:Go.Lo.Kd} {l:List Go.Lo.Ce} {l' l'':List Go.Value} {C:List Go.Value→Go.Lo.Hp→Prop} {i n k ns ks nw cw nb cb j:Nat} {d:Option Go.Tmp} {ty t u:Go.TypeId} {pos:String} {af:Array Go.Edge} {g:Option (Nat×Bool)} {y:Go.Operand} {p ps pw pb:Option Go.Addr} {b:Go.Lo.Tb} {s:List UInt8} {v a:Int} {D:List Go.Lo.Cd} {f:Go.Lo.Str}
set_option maxHeartbeats 4000000
set_option maxRecDepth 100000
set_option synthInstance.maxHeartbeats 1000000
set_option synthInstance.maxSize 100000
namespace Go.Proofs
open Go.Lo
instance:ZeroT Tryz.prog 5 (.int .u8 0):=⟨by kernel_rfl⟩
end Go.Proofs
namespace Go.Lo
open Go.Conc
theorem str_app (s t:List UInt8):(⟨s.toArray⟩:ByteArray)++⟨t.toArray⟩=⟨(s++t).toArray⟩:=by
 apply ByteArray.ext
 simp
section
variable {m:Md P B} {l l' l'':List Value}
theorem jlI {x:Operand} {a b:ByteArray} {p q:List UInt8} (ho:ops[i]?=some ⟨d,.binOp .add t x y u,ty,pos,af,g⟩) (hw:Wt ops l g) [KHeap kd S h H] [ex:OpV l x (.string a)] [ey:OpV l y (.string b)] [pa:SV a p] [pb:SV b q] (hr:p.length+q.length≤9223372036854775807) [PutV l d (str (p++q)) l']
  (n:RegK m S ops r l' h C):RegK m S ops ((i,kd)::r) l h C:=
 RegK.rd (v:=str (p++q)) ho hw (jh3 ex.eq ey.eq zS (by
  rw [pa.eq,pb.eq];show Op.stringOp .add _ _=_
  unfold Op.stringOp
  have: ¬(((⟨p.toArray⟩:ByteArray).size+(⟨q.toArray⟩:ByteArray).size:Nat):Int)>IntKind.i64.max:=by
   rw [show IntKind.i64.max=9223372036854775807 by decide];simp only [ByteArray.size,List.size_toArray]
   omega
  simp only [if_neg this,str_app]
  rfl)) n
end
section
variable {m:Md P B} {l l' l'':List Value}
theorem jjD (f:Value→ByteArray→Sem (ForInStep ByteArray)) (hf: ∀(c:UInt8) (a:ByteArray),f (jbt c) a=Pure.pure (.yield (a.push c))): ∀(s t:List UInt8),Reads P B (forIn (s.map jbt) (⟨t.toArray⟩:ByteArray) f) H ⟨(t++s).toArray⟩
 |[],t=>by simp only [List.map_nil,List.forIn_nil,List.append_nil];exact Reads.pure _
 |c::s,t=>by
  rw [List.map_cons,List.forIn_cons,hf];refine Reads.bind (Reads.pure _) ?_
  dsimp only
  have e:(⟨t.toArray⟩:ByteArray).push c=⟨(t++[c]).toArray⟩:=by
   apply ByteArray.ext
   simp [ByteArray.push]
  rw [e];have:=jjD f hf s (t++[c])
  simpa using this
theorem jqk {b o:Nat} {c:Nat} (hl:s.length=n) (hr:RdN B H b o (s.map jbt)):Reads P B (Conv.bytesToString (.slice (some ⟨b,o,none⟩) n c)) H (str s):=by
 unfold Conv.bytesToString
 dsimp only
 refine Reads.bind (a:=(s.map jbt).toArray) ?_ ?_
 ·have:=jd1 (P:=P) (B:=B) (h:=H) (b:=b) (o:=o) n 0 (s.map jbt) [] (by simpa using hl) (fun j hj=>by rw [Nat.zero_add];exact hr j (by simpa [hl] using hj))
  simpa [loadCells] using this
 ·refine Reads.bind (a:=(⟨s.toArray⟩:ByteArray)) ?_ (Reads.pure _)
  rw [List.forIn_toArray];refine jjD (P:=P) (B:=B) (H:=H) _ (fun c a=>?_) s []
  simp only [jbt]
  have:UInt8.ofNat ((c.toNat:Int)).toNat=c:=by simp
  rw [this]
theorem jra {t t' e b o c:Nat} {x:Operand} (ho:ops[i]?=some ⟨d,.convert t t' x,ty,pos,af,g⟩) (hw:Wt ops l g) [KHeap kd S h H] [ex:OpV l x (.slice (some ⟨b,o,none⟩) n c)] (hs:P.underlying t=some (.slice e)) (he:P.underlying e=some (.int .u8)) (ht:P.underlying t'=some .string)
  (hl:s.length=n) (hr:RdN B H b o (s.map jbt)) [PutV l d (str s) l'] (q:RegK m S ops r l' h C):RegK m S ops ((i,kd)::r) l h C:=
 RegK.rd (v:=str s) ho hw (by
  simp only [execOp,ex.eq]
  refine Reads.value ?_
  unfold convert
  refine Reads.bind (jag hs).reads ?_;refine Reads.bind (jag ht).reads ?_
  dsimp only
  refine Reads.bind (jag he).reads ?_
  dsimp only
  exact jqk hl hr) q
end
end Go.Lo
namespace Go.Lo
def pL:Option SS→LS
 |none=> .fin
 |some (.m r _)=> .rest r
 |some (.w _ l _ _)=>l
section
variable {sm sm' v v' wt wt' ws ws' N r i k:Nat} {l l':LS}
end
end Go.Lo
namespace Go.Proofs
open Go.Lo
open Go.Conc (G)
section
variable {m:Md P B} {l l':List Value}
theorem k_neqT {x:Operand} {b:Int} {k:IntKind} (ho:ops[i]?=some ⟨d,.binOp .neq t x y u,ty,pos,af,g⟩) (hw:Wt ops l g) [kh:KHeap kd S h H] [ex:OpV l x (.int k a)] [ey:OpV l y (.int k b)] (e:a≠b) [pt:PutV l d (.bool true) l'] (q:RegK m S ops r l' h C):RegK m S ops ((i,kd)::r) l h C:=by
 have pq:=pt;rw [←decide_eq_true e] at pq;exact jqZ (l':=l') ho hw q
theorem k_geqT {x:Operand} {b:Int} {k:IntKind} (ho:ops[i]?=some ⟨d,.binOp .geq t x y u,ty,pos,af,g⟩) (hw:Wt ops l g) [kh:KHeap kd S h H] [ex:OpV l x (.int k a)] [ey:OpV l y (.int k b)] (e:b≤a) [pt:PutV l d (.bool true) l'] (q:RegK m S ops r l' h C):RegK m S ops ((i,kd)::r) l h C:=by
 have pq:=pt;rw [←decide_eq_true e] at pq;exact k_geq (l':=l') ho hw q
end
end Go.Proofs
namespace Go.Lo
open Go.Conc (G)
section
end
section
variable {m:Md P B} {l l' l'':List Value}
theorem k_eqlC {x:Operand} {b a' b':Int} {c c':Bool} (ho:ops[i]?=some ⟨d,.binOp .eql t x y u,ty,pos,af,g⟩) (hw:Wt ops l g) [kh:KHeap kd S h H] [ex:OpV l x (.agg [.bool c,.int .i64 a,.int .i64 b].toArray)] [ey:OpV l y (.agg [.bool c',.int .i64 a',.int .i64 b'].toArray)] [KeyCT P t]
  (hg:P.eqGuardType P.depth t=false) [pt:PutV l d (.bool true) l'] [pf:PutV l d (.bool false) l''] (yes:c=c'∧a=a'∧b=b'→RegK m S ops r l' h C) (no: ¬(c=c'∧a=a'∧b=b')→RegK m S ops r l'' h C):RegK m S ops ((i,kd)::r) l h C:=by
 have he:=jfG (P:=P) (B:=B) (h:=H) 9997 (t:=t) c c' a b a' b'
 by_cases hx:c=c'∧a=a'∧b=b'
 ·have e2:(c==c'&&(a==a'&&b==b'))=true:=by simp [hx]
  rw [e2] at he
  exact jjO ho hw hg he (yes hx)
 ·have e2:(c==c'&&(a==a'&&b==b'))=false:=by simpa using hx
  rw [e2] at he
  exact jjO ho hw hg he (no hx)
end
end Go.Lo
namespace Go.Lo
def canNd (D:List Cd):Prop:= ∀d∈D,d.can.Nodup
theorem jeL {d:Cd} {v:Int}: ∀{D:List Cd} {x:Bo} {k:Nat},x.length=D.length→xA x k=none→jap d v (D.eraseIdx k) (x.eraseIdx k)=jap d v D x
 |[],[],_,_,_=>rfl
 |[],_::_,_,h,_=>by simp at h
 |_::_,[],_,h,_=>by simp at h
 |e::D,some u::x,0,h,hk=>by simp at hk
 |e::D,none::x,0,h,hk=>by simp [jap]
 |e::D,some u::x,k+1,h,hk=>by
  simp only [List.eraseIdx_cons_succ,jap]
  rw [jeL (by simpa using h) (by simpa using hk)]
 |e::D,none::x,k+1,h,hk=>by
  simp only [List.eraseIdx_cons_succ,jap]
  rw [jeL (by simpa using h) (by simpa using hk)]
theorem jg9 (hk:k<D.length):(jaE D 0).filter (fun x=>(xA x k).isNone)=[]:=by
 rw [List.filter_eq_nil_iff];intro x hx
 have hl:=jgu hx
 have:=jiR hx (x[k]'(by omega)) (List.getElem_mem _)
 rw [xA,List.getD_eq_getElem?_getD,List.getElem?_eq_getElem zO];cases hxx:x[k]'(by omega) with
 |none=>exact absurd hxx this
 |some v=>simp [hxx]
theorem jha: ∀{D:List Cd} {k w:Nat},k<D.length→((jaE D (w+1)).filter fun x=>(xA x k).isNone).map (·.eraseIdx k)=jaE (D.eraseIdx k) w
 |[],_,_,h=>by simp at h
 |d::D,0,w,_=>by
  simp only [jbb,jej,List.filter_append,List.map_append,List.filter_flatMap,List.map_flatMap,List.eraseIdx_cons_zero]
  have e1:(d.can.flatMap fun v=>((((jaE D (w+1)).filter (jap d v D)).map (some v:: ·)).filter fun x=>(xA x 0).isNone).map (·.eraseIdx 0))=[]:=by
   rw [List.flatMap_eq_nil_iff];intro v _
   rw [List.map_eq_nil_iff,List.filter_map,List.map_eq_nil_iff,List.filter_eq_nil_iff];intro x _
   simp
  rw [e1,List.nil_append,List.filter_map,List.map_map];have:(jaE D w).filter ((fun x=>(xA x 0).isNone)∘(none:: ·))=jaE D w:=by
   rw [List.filter_eq_self];intro x _
   simp
  rw [this];exact (List.map_congr_left fun x _=>by simp).trans (List.map_id _)
 |d::D,k+1,w,h=>by
  have hk:k<D.length:=by simpa using h
  have ih:=fun w=>jha (D:=D) (k:=k) (w:=w) hk
  simp only [List.eraseIdx_cons_succ]
  rw [jbb,List.filter_append,List.map_append,List.filter_flatMap,List.map_flatMap];conv=>rhs;rw [jbb]
  congr 1
  ·congr 1
   funext v
   rw [List.filter_map,List.map_map,←ih w,List.filter_map,List.map_map,List.filter_filter,List.filter_filter];have e1:List.filter (fun x=>((fun x=>(xA x (k+1)).isNone)∘(some v:: ·)) x&&jap d v D x) (jaE D (w+1))=List.filter (fun x=>((jap d v (D.eraseIdx k))∘(·.eraseIdx k)) x&&(xA x k).isNone) (jaE D (w+1)):=by
    refine List.filter_congr fun x hx=>?_
    by_cases hn:xA x k=none
    ·simp only [Function.comp,List.getD_cons_succ,hn,Option.isNone_none,Bool.true_and,Bool.and_true]
     exact (jeL (jgu hx) hn).symm
    ·have:(xA x k).isNone=false:=by
      cases hh:xA x k with
      |none=>exact absurd hh hn
      |some u=>rfl
     simp only [Function.comp,List.getD_cons_succ,this,Bool.false_and,Bool.and_false]
   rw [e1];exact List.map_congr_left fun x _=>by simp
  ·cases w with
   |zero=>
    simp only [jej,List.filter_map,List.map_map]
    have:=jg9 (D:=D) hk
    have e:(jaE D 0).filter ((fun x=>(xA x (k+1)).isNone)∘(none:: ·))=[]:=by
     rw [←this];exact List.filter_congr fun x _=>by simp
    rw [e];rfl
   |succ w=>
    simp only [jej,List.filter_map,List.map_map]
    rw [←ih w,List.map_map];have e:(jaE D (w+1)).filter ((fun x=>(xA x (k+1)).isNone)∘(none:: ·))=(jaE D (w+1)).filter fun x=>(xA x k).isNone:=List.filter_congr fun x _=>by simp
    rw [e];exact List.map_congr_left fun x _=>by simp
def jdp:List Cd→Nat→List Int→List Cd
 |[],_,_=>[]
 |d::D,0,c=>{d with can:=c}::D
 |d::D,k+1,c=>d::jdp D k c
theorem jgL {d:Cd} {v:Int} {c:List Int}: ∀{D:List Cd} {x:Bo},jap {d with can:=c} v D x=jap d v D x
 |[],_=>rfl
 |_::_,[]=>rfl
 |e::D,some u::x=>by simp only [jap];rw [jgL];rfl
 |e::D,none::x=>by simp only [jap];rw [jgL]
theorem jef {d:Cd} {v:Int} {c:List Int}: ∀{D:List Cd} {x:Bo} {k:Nat},jap d v (jdp D k c) x=jap d v D x
 |[],_,_=>rfl
 |_::_,[],0=>rfl
 |_::_,[],_+1=>rfl
 |e::D,some u::x,0=>by simp only [jdp,jap];rfl
 |e::D,none::x,0=>by simp only [jdp,jap]
 |e::D,some u::x,k+1=>by simp only [jdp,jap];rw [jef]
 |e::D,none::x,k+1=>by simp only [jdp,jap];rw [jef]
def jhg (q:Int→Bool) (o:Option Int):Bool:=match o with|some v=>q v|none=>true
theorem jf9 {q:Int→Bool}: ∀{D:List Cd} {k w:Nat},k<D.length→jaE (jdp D k ((dA D k).can.filter q)) w=(jaE D w).filter fun x=>jhg q (xA x k)
 |[],_,_,h=>by simp at h
 |d::D,0,w,_=>by
  simp only [jdp,List.getD_cons_zero,jbb,List.filter_append,List.filter_flatMap]
  congr 1
  ·have: ∀l:List Int,((l.filter q).flatMap fun v=>((jaE D w).filter (jap {d with can:=d.can.filter q} v D)).map (some v:: ·))=l.flatMap fun v=>(((jaE D w).filter (jap d v D)).map (some v:: ·)).filter fun x=>jhg q (xA x 0):=by
    intro l
    induction l with
    |nil=>rfl
    |cons v l ih=>
     rw [List.flatMap_cons,←ih,List.filter_cons];by_cases hq:q v=true
     ·rw [if_pos hq,List.flatMap_cons];congr 1
      rw [List.filter_map];have:(List.filter ((fun x=>jhg q (xA x 0))∘(some v:: ·)) ((jaE D w).filter (jap d v D)))=(jaE D w).filter (jap d v D):=by
       rw [List.filter_eq_self];intro x _
       simp [jhg,hq]
      rw [this];congr 1
      exact List.filter_congr fun x _=>jgL
     ·rw [if_neg hq];have:(((jaE D w).filter (jap d v D)).map (some v:: ·)).filter (fun x=>jhg q (xA x 0))=[]:=by
       rw [List.filter_map,List.map_eq_nil_iff,List.filter_eq_nil_iff];intro x _
       simp [jhg,hq]
      rw [this,List.nil_append]
   exact this d.can
  ·cases w with
   |zero=>rfl
   |succ w=>
    simp only [jej,List.filter_map]
    congr 1
    symm
    rw [List.filter_eq_self];intro x _
    simp [jhg]
 |d::D,k+1,w,h=>by
  have hk:k<D.length:=by simpa using h
  have ih:=fun w=>jf9 (q:=q) (D:=D) (k:=k) (w:=w) hk
  simp only [jdp,List.getD_cons_succ,jbb,List.filter_append,List.filter_flatMap]
  congr 1
  ·congr 1
   funext v
   rw [ih w,List.filter_map,filter_comm'];congr 1
   have e1:((fun x=>jhg q (xA x (k+1)))∘(some v:: ·))=fun x=>jhg q (xA x k):=by funext x;simp
   rw [e1];congr 1
   exact List.filter_congr fun x _=>jef
  ·cases w with
   |zero=>rfl
   |succ w=>
    simp only [jej,List.filter_map]
    rw [ih w];congr 1
section
end
theorem fig_mem (k:TbOk b) {c:Ce} (h:jcb b c=true):jbI b c∈(jbH b c).figs:=by
 have h1:=jcR.1 h
 have:=((k.lines c.butt).ok _ (jdr h)).len
 rw [jbI,List.getD_eq_getElem?_getD,List.getElem?_eq_getElem zO];exact E44
theorem jhX (k:TbOk b) {c:Ce} (hc:c∈jab b) (hf:f≠jdl):jab (jbf b c f)=jab b:=by
 rw [jjw k (jbs hc).1,jbx];refine List.filter_congr fun d _=>?_
 rw [keepC'];by_cases e:d=c
 ·subst e
  rw [if_pos rfl,(jbs hc).1];simp [hf,(jbs hc).2]
 ·rw [if_neg e]
theorem jf3 (hn:l.Nodup) (hi:i<l.length):(l.filter fun d=>decide (d≠l.getD i default))=l.eraseIdx i:=by
 induction l generalizing i with
 |nil=>simp at hi
 |cons a l ih=>
  rw [List.nodup_cons] at hn
  cases i with
  |zero=>
   rw [List.filter_cons,if_neg zS,List.eraseIdx_cons_zero,List.filter_eq_self];intro x hx
   simp only [List.getD_cons_zero,decide_eq_true_eq]
   exact fun e=>hn.1 (e▸hx)
  |succ i=>
   have hi':i<l.length:=by simpa using hi
   have hm:l.getD i default∈l:=by rw [List.getD_eq_getElem?_getD,List.getElem?_eq_getElem hi'];exact E44
   rw [List.filter_cons,if_pos (by
    simp only [List.getD_cons_succ,decide_eq_true_eq]
    exact fun e=>hn.1 (e▸hm)),List.eraseIdx_cons_succ]
   congr 1
   simpa using ih hn.2 hi'
theorem jja (k:TbOk b) {c:Ce} (hc:jcb b c=true):jel (jbf b c f) c={jel b c with can:=jbz f}:=by
 simp only [jel,jnt hc hc,jkj k hc hc,if_pos]
theorem map_eraseIdx' {α β:Type} (f:α→β): ∀(l:List α) (i:Nat),(l.eraseIdx i).map f=(l.map f).eraseIdx i
 |[],_=>rfl
 |a::l,0=>rfl
 |a::l,i+1=>by simp [map_eraseIdx' f l i]
theorem cdT_drop (k:TbOk b) (hi:i<(jab b).length):cdT (jbf b ((jab b).getD i default) jdl)=(cdT b).eraseIdx i:=by
 have hm:(jab b).getD i default∈jab b:=by rw [List.getD_eq_getElem?_getD,List.getElem?_eq_getElem hi];exact E44
 have hc:=(jbs hm).1
 rw [cdT,jet k hc,cdT,←map_eraseIdx',←jf3 (jeI b) hi];refine List.map_congr_left fun d hd=>?_
 rw [List.mem_filter,decide_eq_true_eq] at hd
 exact jhY k hc (jbs hd.1).1 hd.2
theorem joJ {b':Tb} (hn:l.Nodup) {v:List Int} (hi:i<l.length) (h1: ∀d∈l,d≠l.getD i default→jel b' d=jel b d) (h2:jel b' (l.getD i default)={jel b (l.getD i default) with can:=v}):l.map (jel b')=jdp (l.map (jel b)) i v:=by
 induction l generalizing i with
 |nil=>simp at hi
 |cons a l ih=>
  rw [List.nodup_cons] at hn
  cases i with
  |zero=>
   simp only [List.getD_cons_zero] at h1 h2
   rw [List.map_cons,List.map_cons,jdp,h2];congr 1
   exact List.map_congr_left fun d hd=>h1 d (by simp [hd]) fun e=>hn.1 (e▸hd)
  |succ i=>
   have hi':i<l.length:=by simpa using hi
   have hm:l.getD i default∈l:=by rw [List.getD_eq_getElem?_getD,List.getElem?_eq_getElem hi'];exact E44
   simp only [List.getD_cons_succ] at h1 h2
   rw [List.map_cons,List.map_cons,jdp,h1 a zS (fun e=>hn.1 (e▸hm)),ih hn.2 hi' (fun d hd=>h1 d (by simp [hd])) h2]
theorem cdT_put (k:TbOk b) (hi:i<(jab b).length) (hf:f≠jdl):cdT (jbf b ((jab b).getD i default) f)=jdp (cdT b) i (jbz f):=by
 have hm:(jab b).getD i default∈jab b:=by rw [List.getD_eq_getElem?_getD,List.getElem?_eq_getElem hi];exact E44
 have hc:=(jbs hm).1
 rw [cdT,jhX k hm hf,cdT];exact joJ (jeI b) hi (fun d hd hne=>jhY k hc (jbs hd).1 hne) (jja k hc)
theorem jmr (hk:k<D.length):jbu (jaE D 0) k=0:=by
 have:=jg9 (D:=D) hk
 rw [jbu,List.countP_eq_length_filter,this];rfl
theorem jms {w:Nat} (hk:k<D.length):jbu (jaE D (w+1)) k=(jaE (D.eraseIdx k) w).length:=by
 rw [←jha hk,List.length_map,jbu,List.countP_eq_length_filter]
theorem jjT: ∀{l:List Int},l.Nodup→ ∀{v:Int},v∈l→l.filter (fun u=>decide (u=v))=[v]
 |[],_,_,h=>by simp at h
 |a::l,hn,v,h=>by
  have hn':=List.nodup_cons.1 hn
  by_cases e:a=v
  ·subst e
   have:l.filter (fun u=>decide (u=a))=[]:=List.filter_eq_nil_iff.2 fun u hu e=>hn'.1 (of_decide_eq_true e▸hu)
   simp [this]
  ·have hv:v∈l:=by
    rcases List.mem_cons.1 h with h|h
    ·exact absurd h.symm e
    ·exact h
   rw [List.filter_cons,if_neg (by simpa using e),jjT hn'.2 hv]
theorem jgD (k:Nat) (v:Int): ∀L:List Bo,L.countP (fun x=>jhg (fun u=>decide (u=v)) (xA x k))=jcW L k v+jbu L k
 |[]=>rfl
 |x::L=>by
  have ih:=jgD k v L
  unfold jcW jbu at ih⊢
  rw [List.countP_cons,List.countP_cons,List.countP_cons,ih];rcases h:xA x k with _|u
  ·simp [jhg]
   omega
  ·by_cases e:u=v<;>simp [jhg,e]<;>omega
theorem put_len {w:Nat} (hk:k<D.length) (hn:(dA D k).can.Nodup) (hv:v∈(dA D k).can):(jaE (jdp D k [v]) w).length=jcW (jaE D w) k v+jbu (jaE D w) k:=by
 have e:=jf9 (q:=fun u=>decide (u=v)) (w:=w) hk
 rw [jjT hn hv] at e
 rw [e,←List.countP_eq_length_filter,jgD]
theorem mem_canB {w:Nat} {x:Bo} (hx:x∈jaE D w) (e:xA x k=some v):v∈(dA D k).can:=(jdz.1 (jbr.1 hx).1).2.1 k v e
theorem jok {L:List Bo}:0<jcW L k v↔ ∃x∈L,xA x k=some v:=by
 unfold jcW
 rw [List.countP_pos_iff];simp
theorem jrN (L:List Bo) (k:Nat) (v:Int):jcW L k v+jbu L k≤L.length:=by
 rw [←jgD];exact List.countP_le_length
theorem jjJ (L0:List Bo) (i:Nat): ∀(L:List Bo) (s t:Nat),L.foldl (fun s x=>match xA x i with|some v=>max s (jcW L0 i v)|none=>s) s≤t↔s≤t∧ ∀x∈L,∀v,xA x i=some v→jcW L0 i v≤t
 |[],s,t=>by simp
 |x::L,s,t=>by
  rw [List.foldl_cons,jjJ L0 i L];rcases hx:xA x i with _|u
  ·simp only []
   constructor
   ·rintro ⟨h1,h2⟩;exact ⟨h1,fun y hy v e=>by
     rcases List.mem_cons.1 hy with rfl|hy
     ·rw [hx] at e
      cases e
     ·exact h2 y hy v e⟩
   ·rintro ⟨h1,h2⟩;exact ⟨h1,fun y hy v e=>h2 y (List.mem_cons_of_mem _ hy) v e⟩
  ·simp only []
   constructor
   ·rintro ⟨h1,h2⟩;exact ⟨by omega,fun y hy v e=>by
     rcases List.mem_cons.1 hy with rfl|hy
     ·rw [hx] at e
      obtain rfl:=Option.some.inj e
      omega
     ·exact h2 y hy v e⟩
   ·rintro ⟨h1,h2⟩;have:=h2 x zS u hx
    exact ⟨by omega,fun y hy v e=>h2 y (List.mem_cons_of_mem _ hy) v e⟩
theorem jlC {L:List Bo} {t:Nat}:ja7 L i≤t↔ ∀v,jcW L i v≤t:=by
 have e:=jjJ L i L 0 t
 refine Iff.trans (show ja7 L i≤t↔_ from e) ?_
 constructor
 ·rintro ⟨_,h⟩ v;by_cases e:0<jcW L i v
  ·obtain ⟨x,hx,e⟩:=jok.1 e
   exact h x hx v e
  ·omega
 ·intro h
  exact ⟨Nat.zero_le _,fun x _ v _=>h v⟩
theorem jfq (f:Int→Nat): ∀(l:List Int) (s t:Nat),l.foldl (fun s v=>max s (f v)) s≤t↔s≤t∧ ∀v∈l,f v≤t
 |[],s,t=>by simp
 |a::l,s,t=>by
  rw [List.foldl_cons,jfq f l];constructor
  ·rintro ⟨h1,h2⟩;refine ⟨by omega,fun v hv=>?_⟩
   rcases List.mem_cons.1 hv with rfl|hv
   ·omega
   ·exact h2 v hv
  ·rintro ⟨h1,h2⟩;have:=h2 a zS
   exact ⟨by omega,fun v hv=>h2 v (List.mem_cons_of_mem _ hv)⟩
theorem jqT {w:Nat}:ja7 (jaE D w) k=(dA D k).can.foldl (fun s v=>max s (jcW (jaE D w) k v)) 0:=by
 apply Nat.le_antisymm
 ·rw [jlC];intro v
  by_cases e:0<jcW (jaE D w) k v
  ·obtain ⟨x,hx,e⟩:=jok.1 e
   exact ((jfq (jcW (jaE D w) k) (dA D k).can 0 _).1 (Nat.le_refl _)).2 v (mem_canB hx e)
  ·omega
 ·rw [jfq];exact ⟨Nat.zero_le _,fun v _=>jlC.1 (Nat.le_refl _) v⟩
theorem dA_mem (h:i<D.length):dA D i∈D:=by
 unfold dA
 rw [List.getD_eq_getElem?_getD,List.getElem?_eq_getElem h];exact List.getElem_mem h
end Go.Lo
namespace Go.Proofs
open Go.Lo
open Go.Conc (G)
section
variable [LaidO B]
theorem jhx {v:List Int}:jd9 v n=true↔ ∀j,j<3→(v.getD j 0<0∨v.getD j 0=(jbE n).getD j 0):=by
 rw [jd9,List.all_eq_true];exact ⟨fun e j hj=>by simpa using e j (List.mem_range.2 hj),fun e j hj=>by simpa using e j (List.mem_range.1 hj)⟩
theorem ixN (hi:i<3):([.int .i64 ((n:Int)/96),.int .i64 ((n:Int)/8%12),.int .i64 ((n:Int)%8)]:List Value)[0+((i:Nat):Int).toNat*1]?=some (.int .i64 ((jbE n).getD i 0)):=by
 rcases (by omega:i=0∨i=1∨i=2) with rfl|rfl|rfl<;>rfl
theorem f101_c (m:Md Tryz.prog B) (h:Hp) {c:Nat} {v:List Int} (rd:RdS B h 1 (.slice p 3 c) 3 (jat v)) (n:Nat) (hn:n<960):FnC m 101 #[.slice p 3 c,.int .i64 (n:Int)] h fun w h'=>h'=h∧IsB (jd9 v n=true) w:=by
 refine jae Tryz.func101 rfl rfl (l:=(.slice p 3 c)::(.int .i64 (n:Int))::uu33) rfl ?_
 intro cf cs K hK
 refine Z7 ?_;refine jkw n 96 rfl zq rfl rfl zO zO ?_;refine Zs ?_;refine jkw n 8 rfl zq rfl rfl zO zO ?_;refine jip (a:=n/8) (b:=12) rfl zq zO ?_;refine Zs ?_;refine jip (a:=n) (b:=8) rfl zq zO ?_
 refine jdB kdq rfl zq zA zA rfl (fun q14=>jas (jad ?_));refine Z8 ?_
 refine jaj (fun nn l h'=> ∃(i:Nat),nn=3-i∧(i≤3)∧(∀j,j<i→(v.getD j 0<0∨v.getD j 0=(jbE n).getD j 0))∧(∃U:Nat→Value,l=((.slice p 3 c)::(.int .i64 (n:Int))::(U 2)::(U 3)::(U 4)::(.slice (some ⟨q14,0,none⟩) 3 3)::(.int .i64 (i:Int))::(U 7)::vw27 U 8 []))∧h++[⟨true,q14,.cells [.int .i64 ((n:Int)/96),.int .i64 ((n:Int)/8%12),.int .i64 ((n:Int)%8)].toArray 3 (0,0)⟩]=h') _ ⟨0,rfl,by omega,fun j hj=>absurd hj zO,exU rfl,rfl⟩ ?_;rintro nn l h' ⟨i,rfl,hi,hft,⟨U,rfl⟩,rfl⟩ hnext;refine Z4 ?_
 refine jal rfl zq (fun hc=>?_) (fun hc=>?_)
 ·refine Z6 ?_
  obtain ⟨b0,o0,rfl⟩:=rd.ptr zO
  refine jar [Zp 0,Zp 1,Zp 2,Zr 3,Zp 4,Zp 5,Zp 6,Zp 7,Zp 8,Zp 10,Zp 11,Zp 12,Zr 9,Zr 13,Zp 14,Zp 15] zK zK (List.Sublist.refl _) ?_;refine Z2 ?_;refine D10 ?_;refine jbc rfl zq (rd.iat i zO zO) ?_;refine jg3 rfl zq (fun hc=>?_) (fun hc=>?_)
  ·refine Z3 ?_;refine jci rfl rfl rfl zO zO ?_;refine Z2 ?_;refine jci rfl rfl rfl zO zO ?_;refine jbc rfl rfl (rd.iat i zO zO) ?_;refine jbc (v:= .int .i64 ((jbE n).getD i 0)) rfl rfl (Rd.held (Has.mem (b:=q14)) (by have:=ixN (n:=n) (i:=i) zO;simpa using this)) ?_
   refine ja9 rfl rfl (fun hc=>?_) (fun hc=>?_)
   ·refine Z8 ?_;refine jac (h) rfl Tryz.func101 rfl jaa ?_;refine Zs ?_
    first
     |exact ⟨rfl,IsB.yes (jhx.2 fun j hj=>hft j zO)⟩
     |exact ⟨rfl,IsB.no fun e=>by have:=jhx.1 e i zO;omega⟩
   ·refine Z10 ?_
    exact m.weak jaa (hnext _ _ _ zO ⟨i+1,rfl,by omega,fun j hj=>by
     by_cases e:j<i
     ·exact hft j e
     ·obtain rfl:j=i:=by omega
      omega,exU rfl,rfl⟩)
  ·refine Z20 ?_
   exact m.weak jaa (hnext _ _ _ zO ⟨i+1,rfl,by omega,fun j hj=>by
    by_cases e:j<i
    ·exact hft j e
    ·obtain rfl:j=i:=by omega
     omega,exU rfl,rfl⟩)
 ·refine Z8 ?_;refine jac (h) rfl Tryz.func101 rfl jaa ?_;refine Zs ?_
  first
   |exact ⟨rfl,IsB.yes (jhx.2 fun j hj=>hft j zO)⟩
   |exact ⟨rfl,IsB.no fun e=>by have:=jhx.1 e i zO;omega⟩
theorem f32_c (m:Md Tryz.prog B) (h:Hp) (s:Str) (hl:s.length≤100000):FnC m 32 #[str s] h fun w h'=> ∃new,h'=h++new∧OwnS 3 1 w (jbz s).length (jat (jbz s)) new:=by
 refine jae Tryz.func32 rfl rfl (l:=(str s)::uu26) rfl ?_
 intro cf cs K hK
 refine Z7 ?_;refine jaN rfl zq zK (Post:=fun v new=> ∃w,OwnS 3 1 w (lisP s).length (jat (lisP s)) new∧v= .tuple [w,.bool (ja0 s)].toArray) (fun H' hH=>f55p_c m H' s hl) ?_
 rintro v n1 ⟨w1,o1,rfl⟩;refine jaH (jad ?_);obtain ⟨p1,c1,rfl,hc1,r1⟩:=jao (B:=B) o1
 refine Z7 ?_
 cases hfo:ja0 s
 rotate_left
 have hls:lisP s=jaq s:=by rw [lisP,if_pos hfo]
 have hll:(lisP s).length=3:=by rw [hls];exact (jaW s).len
 rw [hls] at r1
 have h3:=(jaW s).len
 all_goals
  refine Z9 ?_
 ·rw [hll];refine jaj (fun nn l h'=> ∃(k:Nat) (wp:Option Addr) (wc:Nat) (M:Hp),nn=960-k∧(k≤960)∧(OwnS 3 1 (.slice wp (jgY (jaq s) k).length wc) (jgY (jaq s) k).length (jat (jgY (jaq s) k)) M)∧(∃U:Nat→Value,l=((str s)::(U 1)::(U 2)::(.slice p1 3 c1)::(.bool true)::(.slice wp (jgY (jaq s) k).length wc)::(.int .i64 (k:Int))::vw20 U 7 []))∧h++n1++M=h') _ ⟨0,none,0,[],rfl,by omega,OwnS.nil,exU rfl,zS⟩ ?_;rintro nn l h' ⟨k,wp,wc,M,rfl,hk,how,⟨U,rfl⟩,rfl⟩ hnext;have hml:=jmU (jaq s) k
  refine Z2 ?_
  skip
  ·refine Z2 ?_
   refine jeg rfl zq (fun hc=>?_) (fun hc=>?_)
   ·refine Z12 ?_;refine jah (Post:=fun v=>IsB _ v) rfl zq zK (fun H' hH=>f101_c m H' (c:=c1) (p:=p1) ((h3▸r1).keeps (sq hH)) k zO) ?_
    rintro v (⟨hc,rfl⟩|⟨hc,rfl⟩);refine Z6 ?_
    refine jdB kdq rfl zq zA zA rfl (fun q24=>jas (jad ?_));refine jbd rfl zq rfl how kdq zO zO (fun w9 n9 o9=>jad ?_);obtain ⟨p9,c9,rfl,hc9,r9⟩:=jao (B:=B) o9
    refine Z2 ?_
    rotate_left
    refine Z4 ?_
    all_goals
     refine Z6 ?_
    ·have hks:jgY (jaq s) (k+1)=jgY (jaq s) k:=by rw [jfN,if_neg hc,List.append_nil]
     rw [←hks];exact E7
    ·have hks:jgY (jaq s) (k+1)=jgY (jaq s) k++[(k:Int)]:=by rw [jfN,if_pos hc]
     have hkl:(jgY (jaq s) (k+1)).length=(jgY (jaq s) k).length+1:=by rw [hks];simp
     rw [←hkl];exact E8
   ·refine Z12 ?_;refine jac (h++M) rfl Tryz.func32 rfl jaa ?_;refine Zs ?_
    obtain rfl:k=960:=by omega
    exact ⟨M,rfl,by rw [jbz,hfo];exact how⟩
 ·refine jaj (fun nn l h'=> ∃(k:Nat),nn=0-k∧(k≤0)∧(∃U:Nat→Value,l=((str s)::(U 1)::(U 2)::(U 3)::(.bool false)::(.slice none 0 0)::(.int .i64 (k:Int))::vw20 U 7 []))∧h++n1=h') _ ⟨0,rfl,by omega,exU rfl,rfl⟩ ?_;rintro nn l h' ⟨k,rfl,hk,⟨U,rfl⟩,rfl⟩ hnext;refine Z2 ?_
  skip
  ·refine Z2 ?_
   refine jeg rfl zq (fun hc=>?_) (fun hc=>?_);refine Z3 ?_
   rotate_left
   refine Z3 ?_
   all_goals
    refine Z9 ?_;refine jac (h) rfl Tryz.func32 rfl jaa ?_;refine Zs ?_
    exact ⟨[],by simp,by rw [jbz,hfo];exact OwnS.nil⟩
end
section
variable [LaidO B]
theorem jpC (n:Nat) (h:n<10):IntKind.u8.wrap (48+(n:Int))=((UInt8.ofNat (48+n)).toNat:Int):=by
 have: ∀n<10,IntKind.u8.wrap (48+((n:Nat):Int))=((UInt8.ofNat (48+n)).toNat:Int):=by decide
 exact this n h
theorem jcv (n:Nat):(jgg n).length≤2:=by unfold jgg;split<;>simp
theorem figN_eq (n:Nat):jg6 n=jgg (n/96)++[45]++jgg (n/8%12)++[45]++jgg (n%8):=by
 have h (k:Nat):jdq ((k:Nat):Int)=jgg k:=by rw [jdq,if_neg zO,Int.toNat_natCast]
 rw [jg6,jeh,jbE];simp only [List.map,h]
 simp [jmW]
theorem jlt {q:Nat} {rw:Bool} {f:Nat×Nat} {c:UInt8} [x:Has h q rw (.cells [.int .u8 (c.toNat:Int)].toArray t f)]:RdN B h q 0 ([c].map jbt):=fun j hj=>by
 obtain rfl:j=0:=by simpa using hj
 exact Rd.held x.mem rfl
theorem jm1 (m:Md Tryz.prog B) (h:Hp) (n:Nat) (hn:n<10):FnC m 102 #[.int .i64 (n:Int)] h fun v h'=>h'=h∧v=str (jgg n):=by
 refine jae Tryz.func102 rfl rfl (l:=(.int .i64 (n:Int))::uu24) rfl ?_
 intro cf cs K hK
 refine Z8 ?_
 refine jal rfl zq (fun hc=>?_) (fun hc=>?_)
 ·refine Z3 ?_
  omega
 ·refine Z7 ?_
  refine jal rfl zq (fun hc=>?_) (fun hc=>?_)
  ·refine Z6 ?_;refine jcp (n':=((UInt8.ofNat (48+n)).toNat:Int)) rfl zq zK (jpC _ zO) ?_
   refine jdB kdq rfl zq zA zA rfl (fun q13=>jas (jad ?_));refine jra (s:=[UInt8.ofNat (48+n)]) rfl zq jhK zK jhn rfl jlt ?_;refine Z3 ?_;refine jac (h) rfl Tryz.func102 rfl jaa ?_;refine Zs ?_;exact ⟨rfl,by rw [jgg,if_pos hn]⟩
  ·refine Z4 ?_
   omega
theorem f102_c (m:Md Tryz.prog B) (h:Hp) (n:Nat) (hn:n<100):FnC m 102 #[.int .i64 (n:Int)] h fun v h'=>h'=h∧v=str (jgg n):=by
 refine jae Tryz.func102 rfl rfl (l:=(.int .i64 (n:Int))::uu24) rfl ?_
 intro cf cs K hK
 refine Z8 ?_
 refine jal rfl zq (fun hc=>?_) (fun hc=>?_)
 ·refine Z3 ?_
  omega
 ·refine Z7 ?_
  refine jal rfl zq (fun hc=>?_) (fun hc=>?_)
  ·refine Z6 ?_;refine jcp (n':=((UInt8.ofNat (48+n)).toNat:Int)) rfl zq zK (jpC _ zO) ?_
   refine jdB kdq rfl zq zA zA rfl (fun q13=>jas (jad ?_));refine jra (s:=[UInt8.ofNat (48+n)]) rfl zq jhK zK jhn rfl jlt ?_;refine Z3 ?_;refine jac (h) rfl Tryz.func102 rfl jaa ?_;refine Zs ?_;refine ⟨rfl,?_⟩
   first
    |(rw [jgg,if_pos zO,jgg,if_neg zO];rfl)
    |(rw [jgg,if_pos zO];done)
  ·refine Z4 ?_;refine jcg [0,1,2,3,4,5,6,7,8,9,10] zK zK (List.Sublist.refl _) ?_
   refine DrawT.split 2 7 zA ?_ (DrawT.split 2 8 zA ?_ ?_)
   refine DrawT.leaf [Zp 0,Zp 1,Zp 3,Zp 4,Zp 5,Zp 6,Zk 2,Zk 7,Zk 8,Zp 9,Zp 10] zK ?_;refine Zs ?_;refine jkw n 10 rfl zq rfl rfl zO zO ?_;refine Zs ?_;refine jip (a:=n) (b:=10) rfl zq zO ?_;refine Zs ?_;refine jcp (n':=((UInt8.ofNat (48+n%10)).toNat:Int)) rfl zq zK (jpC _ zO) ?_;refine jah (Post:=fun v=>v=_) rfl zq zK (fun H' hH=>jm1 m H' (n/10) zO) ?_
   rintro v rfl;refine Zs ?_
   refine jdB kdq rfl zq zA zA rfl (fun q22=>jas (jad ?_));refine jra (s:=[UInt8.ofNat (48+n%10)]) rfl zq jhK zK jhn rfl jlt ?_;rotate_left
   refine DrawT.leaf [Zp 0,Zp 1,Zp 3,Zp 4,Zp 5,Zp 6,Zk 7,Zk 2,Zk 8,Zp 9,Zp 10] zK ?_;refine Zs ?_;refine jkw n 10 rfl zq rfl rfl zO zO ?_;refine Zs ?_;refine jip (a:=n) (b:=10) rfl zq zO ?_;refine Zs ?_;refine jcp (n':=((UInt8.ofNat (48+n%10)).toNat:Int)) rfl zq zK (jpC _ zO) ?_
   refine jdB kdq rfl zq zA zA rfl (fun q22=>jas (jad ?_));refine jah (Post:=fun v=>v=_) rfl zq zK (fun H' hH=>jm1 m H' (n/10) zO) ?_;rintro v rfl;refine Zs ?_;refine jra (s:=[UInt8.ofNat (48+n%10)]) rfl zq jhK zK jhn rfl jlt ?_
   rotate_left
   refine DrawT.leaf [Zp 0,Zp 1,Zp 3,Zp 4,Zp 5,Zp 6,Zk 7,Zk 8,Zk 2,Zp 9,Zp 10] zK ?_;refine Zs ?_;refine jkw n 10 rfl zq rfl rfl zO zO ?_;refine Zs ?_;refine jip (a:=n) (b:=10) rfl zq zO ?_;refine Zs ?_;refine jcp (n':=((UInt8.ofNat (48+n%10)).toNat:Int)) rfl zq zK (jpC _ zO) ?_
   refine jdB kdq rfl zq zA zA rfl (fun q22=>jas (jad ?_));refine jra (s:=[UInt8.ofNat (48+n%10)]) rfl zq jhK zK jhn rfl jlt ?_;refine jah (Post:=fun v=>v=_) rfl zq zK (fun H' hH=>jm1 m H' (n/10) zO) ?_;rintro v rfl;refine Zs ?_
   all_goals
    refine jlI rfl zq (by have:=jcv (n/10);simp;omega) ?_;refine Z3 ?_;refine jac (h) rfl Tryz.func102 rfl jaa ?_;refine Zs ?_;refine ⟨rfl,?_⟩
    first
     |(rw [jgg,if_pos zO,jgg,if_neg zO];rfl)
     |(rw [jgg,if_pos zO];done)
theorem f34_c (m:Md Tryz.prog B) (h:Hp) (n:Nat) (hn:n<960):FnC m 34 #[.int .i64 (n:Int)] h fun v h'=>h'=h∧v=str (jg6 n):=by
 refine jae Tryz.func34 rfl rfl (l:=(.int .i64 (n:Int))::uu16) rfl ?_
 intro cf cs K hK
 refine Z5 ?_;refine ja4 [Zf 0,Zf 1,Zf 2,Zf 3,Zf 4,Zf 5,Zf 6,Zf 7,Zf 8,Zf 9,Zf 10,Zf 11,Zf 12,Zf 13,Zf 14] zK zK ?_;refine Zs ?_;refine jkw n 96 rfl zq rfl rfl zO zO ?_;refine jah (Post:=fun v=>v=str (jgg (n/96))) rfl zq zK (fun H' hH=>f102_c m H' (n/96) zO) ?_
 rintro v rfl;refine Zs ?_;refine jlI rfl zq (by have:=jcv (n/96);have:=jcv (n/8%12);have:=jcv (n%8);simp;omega) ?_;refine Zs ?_;refine jkw n 8 rfl zq rfl rfl zO zO ?_;refine jip (a:=n/8) (b:=12) rfl zq zO ?_;refine jah (Post:=fun v=>v=str (jgg (n/8%12))) rfl zq zK (fun H' hH=>f102_c m H' (n/8%12) zO) ?_
 rintro v rfl;refine Zs ?_;refine jlI rfl zq (by have:=jcv (n/96);have:=jcv (n/8%12);have:=jcv (n%8);simp;omega) ?_;refine jlI rfl zq (by have:=jcv (n/96);have:=jcv (n/8%12);have:=jcv (n%8);simp;omega) ?_;refine Zs ?_;refine jip (a:=n) (b:=8) rfl zq zO ?_;refine jah (Post:=fun v=>v=str (jgg (n%8))) rfl zq zK (fun H' hH=>f102_c m H' (n%8) zO) ?_
 rintro v rfl;refine Zs ?_;refine jlI rfl zq (by have:=jcv (n/96);have:=jcv (n/8%12);have:=jcv (n%8);simp;omega) ?_;refine Z3 ?_;refine jac (h) rfl Tryz.func34 rfl jaa ?_;refine Zs ?_
 exact ⟨rfl,by rw [figN_eq]⟩
end
section
variable [LaidO B]
def idxC (l:List Ce) (c:Ce):Int:=if l.findIdx (fun x=>decide (x=c))<l.length then (l.findIdx (fun x=>decide (x=c)):Int) else-1
theorem jrg {c:Ce} (hi:i<l.length) (h:l.getD i default=c) (hn: ∀j,j<i→l.getD j default≠c):idxC l c=(i:Int):=by
 have e:l.findIdx (fun x=>decide (x=c))=i:=by
  rw [List.findIdx_eq hi];refine ⟨?_,fun j hj=>?_⟩
  ·rw [List.getD_eq_getElem?_getD,List.getElem?_eq_getElem hi] at h
   simpa using h
  ·have:=hn j hj
   rw [List.getD_eq_getElem?_getD,List.getElem?_eq_getElem zO] at this
   simpa using this
 rw [idxC,e,if_pos hi]
theorem idx_none {c:Ce} (hn: ∀j,j<l.length→l.getD j default≠c):idxC l c= -1:=by
 rw [idxC,if_neg];intro h
 have h1:=List.findIdx_getElem (w:=h)
 have h2:=hn _ h
 rw [List.getD_eq_getElem?_getD,List.getElem?_eq_getElem h] at h2
 exact h2 (of_decide_eq_true h1)
theorem cells_le (rd:RdTb B h b ps ns ks pw nw cw pb nb cb):(jab b).length≤21:=by
 rw [←jhB];exact jr7 b zO zO (by rw [rd.sl];exact rd.n3) zO
theorem f51_c (m:Md Tryz.prog B) (h:Hp) (rd:RdTb B h b ps ns ks pw nw cw pb nb cb) (c:Ce):FnC m 51 #[tbV b ps ns ks pw nw cw pb nb cb,cV c.butt c.line c.st] h fun v h'=>h'=h∧v= .int .i64 (idxC (jab b) c):=by
 refine jae Tryz.func51 rfl rfl (l:=[tbV b ps ns ks pw nw cw pb nb cb,cV c.butt c.line c.st,undef,undef,undef,undef,undef,undef,undef,undef,undef,undef,undef,undef,undef,undef,undef,undef,undef,undef,undef,undef]) rfl ?_
 intro cf cs K hK
 refine Z2 ?_
 refine jaR rfl zq (fun q1=>jas (jad ?_));refine jaR rfl zq (fun q3=>jas (jad ?_));refine Z5 ?_;refine jaN rfl zq zK (Post:=fun w new=>OwnS 37 3 w (jab b).length (jax (jab b)) new) (fun H' hH=>f26_c m H' (rd.keeps (sq hH))) ?_
 rintro w n5 o5;refine jaH (jad ?_);obtain ⟨p5,c5,rfl,hc5,r5⟩:=jao (B:=B) o5
 have hcl:=cells_le rd
 refine Z8 ?_
 refine jaj (fun nn l h'=> ∃(i:Nat),nn=(jab b).length-i∧(i≤(jab b).length)∧(∀j,j<i→(jab b).getD j default≠c)∧(∃U:Nat→Value,l=((tbV b ps ns ks pw nw cw pb nb cb)::(cV c.butt c.line c.st)::(U 2)::(.pointer (some ⟨q3,0,none⟩))::(U 4)::(.slice p5 (jab b).length c5)::(.int .i64 (i:Int))::vw15 U 7 []))∧h++[⟨true,q1,.cells (tbL b ps ns ks pw nw cw pb nb cb).toArray 25 (0,0)⟩,⟨true,q3,.cells [.bool c.butt,.int .i64 c.line,.int .i64 c.st].toArray 37 (0,0)⟩]++n5=h') _ ⟨0,rfl,by omega,fun j hj=>absurd hj zO,exU rfl,rfl⟩ ?_;rintro nn l h' ⟨i,rfl,hi,hno,⟨U,rfl⟩,rfl⟩ hnext;refine Z6 ?_
 refine jal rfl zq (fun hc=>?_) (fun hc=>?_)
 ·refine Z6 ?_
  obtain ⟨b5,o5_,rfl⟩:=r5.ptr zO
  refine jar [Zp 0,Zp 1,Zp 2,Zr 3,Zr 4,Zp 5] zK zK (List.Sublist.refl _) ?_;refine Z2 ?_;refine D10 ?_;refine jcD (vs:=[.bool ((jab b).getD i default).butt,.int .i64 ((jab b).getD i default).line,.int .i64 ((jab b).getD i default).st]) rfl zq rfl (r5.eat i zO zO) ?_;refine Zs ?_;refine k_eqlC rfl zq zK (fun hc=>?_) (fun hc=>?_)
  ·refine Z8 ?_;refine jac (h) rfl Tryz.func51 rfl jaa ?_;refine Zs ?_
   exact ⟨rfl,by rw [jrg (i:=i) zO (by obtain ⟨e1,e2,e3⟩:=hc;cases hx:(jab b).getD i default;cases c;simp_all) hno]⟩
  ·refine Z9 ?_
   exact m.weak jaa (hnext _ _ _ zO ⟨i+1,rfl,by omega,fun j hj=>by
    by_cases e:j<i
    ·exact hno j e
    ·obtain rfl:j=i:=by omega
     exact fun e2=>hc (by rw [e2];exact ⟨rfl,rfl,rfl⟩),exU rfl,rfl⟩)
 ·refine Z8 ?_;refine jac (h) rfl Tryz.func51 rfl jaa ?_;refine Zs ?_
  exact ⟨rfl,by rw [idx_none fun j hj=>hno j zO]⟩
end
end Go.Proofs
namespace Go.Proofs
open Go.Lo
theorem meaP_asc (p:List Int):Asc (jhf p):=by
 unfold Asc jhf
 rw [List.pairwise_map];exact (List.Pairwise.filter _ List.pairwise_lt_range).imp fun h=>by omega
theorem meaS_up (s:Str):Asc (jbz s):=by
 unfold jbz
 split
 ·exact meaP_asc _
 ·exact List.Pairwise.nil
theorem asc_nd {l:List Int} (h:Asc l):l.Nodup:=List.Pairwise.imp (fun h=>by omega) h
theorem meaS_rng {s:Str} (h:v∈jbz s):0≤v∧v≤959:=by
 unfold jbz at h
 split at h
 ·unfold jhf at h
  obtain ⟨n,hn,rfl⟩:=List.mem_map.1 h
  have:=List.mem_range.1 (List.mem_filter.1 hn).1
  omega
 ·cases h
section
theorem jrX (b:Tb):canNd (cdT b):=fun d hd=>by
 obtain ⟨c,_,rfl⟩:=List.mem_map.1 hd
 exact asc_nd (meaS_up _)
theorem can_at (hi:i<(jab b).length):(dA (cdT b) i).can=jbz (jbI b ((jab b).getD i default)):=by rw [jau b hi];rfl
end
end Go.Proofs
namespace Go.Proofs
open Go.Lo
open Go.Conc (G)
section
variable [LaidO B]
section
variable {m:Md P B} {l l' l'':List Value}
theorem k_neqC {x:Operand} {b a' b':Int} {c c':Bool} (ho:ops[i]?=some ⟨d,.binOp .neq t x y u,ty,pos,af,g⟩) (hw:Wt ops l g) [kh:KHeap kd S h H] [ex:OpV l x (.agg [.bool c,.int .i64 a,.int .i64 b].toArray)] [ey:OpV l y (.agg [.bool c',.int .i64 a',.int .i64 b'].toArray)] [KeyCT P t]
  (hg:P.eqGuardType P.depth t=false) [pt:PutV l d (.bool true) l'] [pf:PutV l d (.bool false) l''] (yes: ¬(c=c'∧a=a'∧b=b')→RegK m S ops r l' h C) (no:(c=c'∧a=a'∧b=b')→RegK m S ops r l'' h C):RegK m S ops ((i,kd)::r) l h C:=by
 have he:=jfG (P:=P) (B:=B) (h:=H) 9997 (t:=t) c c' a b a' b'
 by_cases hx:c=c'∧a=a'∧b=b'
 ·have e2:(c==c'&&(a==a'&&b==b'))=true:=by simp [hx]
  rw [e2] at he
  haveI:PutV l d (.bool !true) l'':=pf
  exact jn0 ho hw hg he (no hx)
 ·have e2:(c==c'&&(a==a'&&b==b'))=false:=by simpa using hx
  rw [e2] at he
  haveI:PutV l d (.bool !false) l':=pt
  exact jn0 ho hw hg he (yes hx)
end
section
theorem fig_sm (sm:TbSm b) (k:TbOk b) {c:Ce} (hc:jcb b c=true):(jbI b c).length≤100000:=by
 have h1:=fig_mem k hc
 have h2:=jdr hc
 unfold jaA at h2
 split at h2
 ·exact (sm.but _ h2).2 _ h1
 ·exact (sm.wat _ h2).2 _ h1
theorem jqn (ra:RawTb B h b ps ns ks pw nw cw pb nb cb) (w:Int):RawTb B h {b with wrong:=w} ps ns ks pw nw cw pb nb cb:=⟨ra.s,ra.sc,ra.sn,ra.w,ra.wn,ra.u,ra.un,⟨ra.sm.sts,ra.sm.wat,ra.sm.but⟩⟩
end
theorem ok_wrong (k:TbOk b) {w:Int} (h0:0≤w) (h2:w≤2):TbOk {b with wrong:=w}:=⟨⟨h0,h2⟩,k.n1,k.n3,k.names,k.waters,k.butts,k.smu⟩
theorem jrV (b:Tb) (w:Int):cdT {b with wrong:=w}=cdT b:=rfl
theorem jpm (k:TbOk b) (hi:i<(jab b).length) (hw:0<b.wrong):(jaf {jbf b ((jab b).getD i default) jdl with wrong:=b.wrong-1}).length=jbu (jaf b) i:=by
 have hi':i<(cdT b).length:=by rw [jav];exact hi
 unfold jaf
 rw [jrV,cdT_drop k hi];show (jaE ((cdT b).eraseIdx i) (b.wrong-1).toNat).length=_
 rw [←jms hi',show (b.wrong-1).toNat+1=b.wrong.toNat by omega]
theorem jr0 (k:TbOk b) (hi:i<(jab b).length) (hv:v∈jbz (jbI b ((jab b).getD i default))) (hf:jbz f=[v]) (hd:f≠jdl):(jaf (jbf b ((jab b).getD i default) f)).length=jcW (jaf b) i v+jbu (jaf b) i:=by
 have hi':i<(cdT b).length:=by rw [jav];exact hi
 unfold jaf
 rw [cdT_put k hi hd,setF_wrong,hf];exact put_len hi' (jrX b _ (dA_mem hi')) (by rw [can_at hi];exact hv)
theorem f28_w (m:Md Tryz.prog B) (h:Hp) {c:Ce} (ra:RawTb B h (jbf b c jdl) ps ns ks pw nw cw pb nb cb) (ok:TbOk b) (hk:k<(jab b).length) (hcx:c=(jab b).getD k default) (hw0:0<b.wrong):
  FnC m 28 #[.agg [.int .i64 (b.wrong-1),.slice ps ns ks,.slice pw nw cw,.slice pb nb cb].toArray] h fun v h'=>h'=h∧v= .tuple [.int .i64 (jbu (jaf b) k:Int),.int .i64 0].toArray:=by
 have hht:jcb b c=true:=hcx▸(jgG hk).1
 have hwr:=ok.wrong
 have hok:TbOk {jbf b c jdl with wrong:=b.wrong-1}:=ok_wrong (jgP ok hht) zO zO
 have hzo:=ja8.2 hok
 have hbo:(jaf {jbf b c jdl with wrong:=b.wrong-1}).length=jbu (jaf b) k:=by rw [hcx];exact jpm ok hk hw0
 have:=f28_c m h (jqn ra (b.wrong-1))
 rw [if_pos hzo,hzo,hbo] at this
 exact this
theorem f31_c (m:Md Tryz.prog B) (h:Hp) (ra:RawTb B h b ps ns ks pw nw cw pb nb cb) (ok:TbOk b) (hk:k<(jab b).length) {c:Ce} (hcx:c=(jab b).getD k default):FnC m 31 #[tbV b ps ns ks pw nw cw pb nb cb,cV c.butt c.line c.st] h fun v h'=>h'=h∧v= .tuple [.int .i64 (jbu (jaf b) k:Int),.bool true].toArray:=by
 have hht:jcb b c=true:=hcx▸(jgG hk).1
 have hwr:=ok.wrong
 refine jae Tryz.func31 rfl rfl (l:=(tbV b ps ns ks pw nw cw pb nb cb)::(cV c.butt c.line c.st)::uu29) rfl ?_
 intro cf cs K hK
 refine Z2 ?_
 refine jaR rfl zq (fun q1=>jas (jad ?_));refine jaR rfl zq (fun q3=>jas (jad ?_));refine Z8 ?_
 refine jaL rfl zq (fun hc=>?_) (fun hc=>?_)
 ·have hw0:=hc
  refine Z8 ?_;refine jac (h) rfl Tryz.func31 rfl jaa ?_;refine Zs ?_
  exact ⟨rfl,by rw [show jbu (jaf b) k=0 from by unfold jaf;rw [hw0];exact jmr (by rw [jav];exact hk)];rfl⟩
 ·have hw0:0<b.wrong:=by have:=ok.wrong;omega
  refine Z7 ?_;refine jaN rfl zq zK (Post:=fun v nz=> ∃pw' cw' pb' cb',v=tbV (jbf b c jdl) ps ns ks pw' nw cw' pb' nb cb'∧RdLn B nz (.slice pw' nw cw') nw (jbf b c jdl).waters∧RdLn B nz (.slice pb' nb cb') nb (jbf b c jdl).butts) (fun H' hH=>f33_r m H' (ra.keeps (sq hH)) ok hht jdl zA) ?_
  rintro v nz ⟨pw',cw',pb',cb',rfl,ew,eb⟩;refine jaH (jad ?_);refine jaw rfl zq (fun q6=>jas (jad ?_));refine D5 ?_;refine Z7 ?_;refine D9 ?_;refine Z4 ?_;refine jah (Post:=fun v=>v= .tuple [.int .i64 (jbu (jaf b) k:Int),.int .i64 0].toArray) rfl zq zK (fun H' hH=>f28_w m H' (jmG ra ra.sm zA ew eb (sq hH) (sq hH)) ok hk hcx hw0) ?_
  rintro v rfl;refine Z11 ?_;refine jco rfl zq rfl ?_;refine Z2 ?_;refine k_geqT rfl rfl zO ?_;refine Z5 ?_;refine jac (h) rfl Tryz.func31 rfl jaa ?_;refine Zs ?_
  exact ⟨rfl,rfl⟩
end
end Go.Proofs
namespace Go.Lo
open Go.Proofs
theorem jrx:((List.range 960).all fun n=>ja0 (jg6 n)&&decide (jaq (jg6 n)=jbE n))=true:=by kernel_rfl
theorem jf4 (h:n<960):ja0 (jg6 n)=true∧jaq (jg6 n)=jbE n:=by
 have:=List.all_eq_true.1 jrx n (List.mem_range.2 h)
 simpa using this
theorem jrs {m:Nat} (hn:n<960) (hm:m<960):jd9 (jbE n) m=decide (m=n):=by
 have h3:List.range 3=[0,1,2]:=rfl
 rw [jd9,h3];by_cases e:m=n
 ·subst e
  simp
 ·rw [decide_eq_false e,Bool.eq_false_iff];intro h
  simp only [jbE,List.all_cons,List.all_nil,Bool.and_true,Bool.and_eq_true,Bool.or_eq_true,decide_eq_true_iff,List.getD_cons_zero,List.getD_cons_succ] at h
  omega
theorem jqL (hn:n<960):jhf (jbE n)=[(n:Int)]:=by
 have h1:(List.range 960).filter (jd9 (jbE n))=[n]:=by
  have h2:(List.range 960).filter (jd9 (jbE n))=(List.range 960).filter (fun m=>decide (m=n)):=List.filter_congr fun m hm=>jrs hn (List.mem_range.1 hm)
  rw [h2];have h3:(List.range 960).filter (fun m=>decide (m=n))=List.replicate ((List.range 960).count n) n:=by
   rw [←List.filter_beq];exact List.filter_congr fun m _=>by rw [Bool.beq_eq_decide_eq]
  rw [h3,List.nodup_range.count,if_pos (List.mem_range.2 hn)];rfl
 rw [jhf,h1];rfl
theorem meaS_fig (hn:n<960):jbz (jg6 n)=[(n:Int)]:=by
 obtain ⟨h1,h2⟩:=jf4 hn
 rw [jbz,if_pos h1,h2,jqL hn]
def gp (n b i:Nat):Str:=if b.testBit i then [63] else (ji4 (jg6 n) 45).getD i []
theorem meaS_in {s:Str} {z:Int} (h:z∈jbz s):0≤z∧z≤959:=by
 unfold jbz at h
 split at h
 ·rw [jhf] at h
  obtain ⟨k,hk,rfl⟩:=List.mem_map.1 h
  have:=List.mem_range.1 (List.mem_filter.1 hk).1
  omega
 ·cases h
end Go.Lo
namespace Go.Proofs
open Go.Lo
open Go.Conc (G)
section
variable [LaidO B]
theorem figN_smu (h:n<960):jdj (jg6 n)=0:=by
 rw [jdj,(jf4 h).2,List.countP_eq_zero];intro x hx
 simp only [jbE,List.mem_cons,List.not_mem_nil,or_false] at hx
 rw [decide_eq_true_eq];omega
theorem figN_ok (h:n<960):jbe (jg6 n)=true:=by rw [jbe,(jf4 h).1];rfl
theorem jry (h:n<960):jg6 n≠jdl:=fun e=>by
 have:=(jf4 h).1
 rw [e] at this
 exact absurd this zA
theorem put_ok (k:TbOk b) {c:Ce} (hc:jcb b c=true) (h:n<960):TbOk (jbf b c (jg6 n)):=jp7 k hc (figN_ok h) (by rw [figN_smu h];have:=k.smu;omega)
theorem jpe:((List.range 960).all fun n=>decide ((jg6 n).length≤9))=true:=by kernel_rfl
theorem joc (h:n<960):(jg6 n).length≤9:=of_decide_eq_true (List.all_eq_true.1 jpe n (List.mem_range.2 h))
theorem meaS_nat {s:Str} (hj:j<(jbz s).length): ∃n:Nat,n<960∧(jbz s).getD j 0=(n:Int)∧(n:Int)∈jbz s:=by
 have hm:(jbz s).getD j 0∈jbz s:=by rw [List.getD_eq_getElem?_getD,List.getElem?_eq_getElem hj];exact List.getElem_mem hj
 have:=meaS_rng hm
 exact ⟨((jbz s).getD j 0).toNat,by omega,by omega,by rw [show ((((jbz s).getD j 0).toNat:Nat):Int)=(jbz s).getD j 0 by omega];exact hm⟩
theorem f28_p (m:Md Tryz.prog B) (h:Hp) {c:Ce} (hn:n<960) (ra:RawTb B h (jbf b c (jg6 n)) ps ns ks pw nw cw pb nb cb) (ok:TbOk b) (hk:k<(jab b).length) (hcx:c=(jab b).getD k default) (hv:(n:Int)∈jbz (jbI b c)):
  FnC m 28 #[tbV (jbf b c (jg6 n)) ps ns ks pw nw cw pb nb cb] h fun v h'=>h'=h∧v= .tuple [.int .i64 (jcW (jaf b) k (n:Int)+jbu (jaf b) k:Nat),.int .i64 0].toArray:=by
 have hht:jcb b c=true:=hcx▸(jgG hk).1
 have hzo:=ja8.2 (put_ok ok hht hn)
 have hbo:(jaf (jbf b c (jg6 n))).length=jcW (jaf b) k (n:Int)+jbu (jaf b) k:=by
  subst hcx
  exact jr0 ok hk hv (meaS_fig hn) (jry hn)
 have:=f28_c m h ra
 rw [if_pos hzo,hzo,hbo] at this
 exact this
end
section
variable [LaidO B]
theorem jpd (f:Int→Nat) (l:List Int) (hj:j<l.length):(l.take (j+1)).foldl (fun s v=>max s (f v)) 0=max ((l.take j).foldl (fun s v=>max s (f v)) 0) (f (l.getD j 0)):=by
 rw [List.take_add_one,List.getElem?_eq_getElem hj,Option.toList_some,List.foldl_append,List.getD_eq_getElem?_getD,List.getElem?_eq_getElem hj];rfl
def mxK (b:Tb) (k j:Nat):Nat:=((jbz (jbI b ((jab b).getD k default))).take j).foldl (fun s v=>max s (jcW (jaf b) k v)) 0
theorem mxK_succ (hj:j<(jbz (jbI b ((jab b).getD k default))).length) (e:(jbz (jbI b ((jab b).getD k default))).getD j 0=(n:Int)):mxK b k (j+1)=max (mxK b k j) (jcW (jaf b) k (n:Int)):=by
 rw [mxK,jpd _ _ hj,mxK,←e]
theorem mxK_all (hk:k<(jab b).length):mxK b k (jbz (jbI b ((jab b).getD k default))).length=ja7 (jaf b) k:=by
 rw [mxK,List.take_length,jaf,jqT,can_at hk]
theorem mxK_le: ∀j,mxK b k j≤(jaf b).length:=fun j=>by
 have: ∀(l:List Int) (s:Nat),s≤(jaf b).length→l.foldl (fun s v=>max s (jcW (jaf b) k v)) s≤(jaf b).length:=by
  intro l
  induction l with
  |nil=>exact fun s h=>h
  |cons v r ih=>exact fun s h=>ih _ (Nat.max_le.2 ⟨h,Nat.le_trans (Nat.le_add_right _ _) (jrN _ _ _)⟩)
 exact this _ _ (Nat.zero_le _)
theorem f52_c (m:Md Tryz.prog B) (h:Hp) (ra:RawTb B h b ps ns ks pw nw cw pb nb cb) (ok:TbOk b) (hk:k<(jab b).length) {c:Ce} (hcx:c=(jab b).getD k default):FnC m 52 #[tbV b ps ns ks pw nw cw pb nb cb,cV c.butt c.line c.st] h fun v h'=> ∃new,h'=h++new∧v= .tuple [.int .i64 (ja7 (jaf b) k:Int),.bool true].toArray:=by
 have rd:=ra.rd ok
 have h12:=jbj ok
 have hbl:=jbA ok
 have hht:jcb b c=true:=hcx▸(jgG hk).1
 refine jae Tryz.func52 rfl rfl (l:=[tbV b ps ns ks pw nw cw pb nb cb,cV c.butt c.line c.st,undef,undef,undef,undef,undef,undef,undef,undef,undef,undef,undef,undef,undef,undef,undef,undef,undef,undef,undef,undef,undef,undef,undef,undef,undef,undef,undef,undef,undef,undef,undef,undef,undef,undef,undef,undef,undef,undef,undef,undef,undef,undef,undef,undef,undef,undef,undef,undef,undef,undef,undef,undef,undef,undef]) rfl ?_
 intro cf cs K hK
 refine Z2 ?_
 refine jaR rfl zq (fun q1=>jas (jad ?_));refine jaR rfl zq (fun qc=>jas (jad ?_));refine Z7 ?_;refine jah (Post:=fun v=>v= .tuple [str (jbI b c),.bool true].toArray) rfl zq zK (fun H' hH=>by have:=f27_c m H' (rd.keeps (sq hH)) (bt:=c.butt) (li:=c.line) (st:=c.st);rw [show jcb b ⟨c.butt,c.line,c.st⟩=true from hht,if_pos rfl] at this;exact this) ?_
 rintro v rfl;refine Z10 ?_;refine jaN rfl zq zK (Post:=fun w new=>OwnS 3 1 w (jbz (jbI b c)).length (jat (jbz (jbI b c))) new) (fun H' hH=>f32_c _ H' (jbI b c) (fig_sm ra.sm ok hht)) ?_
 rintro w nL oL;refine jaH (jad ?_);obtain ⟨pL,cL,rfl,hcL,rL⟩:=jao (B:=B) oL
 have h960:=jnS (jbI b c)
 refine Z6 ?_;refine jah (Post:=fun v=>v= .tuple [.int .i64 (jbu (jaf b) k:Int),.bool true].toArray) rfl zq zK (fun H' hH=>f31_c _ H' (ra.keeps (sq hH)) ok hk hcx) ?_
 rintro v rfl;refine Z17 ?_;refine m.weak (h':=h++[⟨true,q1,.cells (tbL b ps ns ks pw nw cw pb nb cb).toArray 25 (0,0)⟩,⟨true,qc,.cells [.bool c.butt,.int .i64 c.line,.int .i64 c.st].toArray 37 (0,0)⟩]++nL) jaa ?_
 refine jaj (fun nn l h'=> ∃(j:Nat),nn=(jbz (jbI b c)).length-j∧(j≤(jbz (jbI b c)).length)∧(∃U:Nat→Value,l=((tbV b ps ns ks pw nw cw pb nb cb)::(cV c.butt c.line c.st)::(.pointer (some ⟨q1,0,none⟩))::(.pointer (some ⟨qc,0,none⟩))::vw4 U 4 ((.slice pL (jbz (jbI b c)).length cL)::(.int .i64 (jbu (jaf b) k:Int))::(.bool true)::(.int .i64 (mxK b k j:Int))::(.int .i64 (j:Int))::(U 13)::vw42 U 14 [])))∧h++[⟨true,q1,.cells (tbL b ps ns ks pw nw cw pb nb cb).toArray 25 (0,0)⟩,⟨true,qc,.cells [.bool c.butt,.int .i64 c.line,.int .i64 c.st].toArray 37 (0,0)⟩]++nL=h') _ ⟨0,rfl,by omega,exU rfl,rfl⟩ ?_;rintro nn l h' ⟨j,rfl,hj,⟨U,rfl⟩,rfl⟩ hnext;refine Z6 ?_
 refine jal rfl zq (fun hc=>?_) (fun hc=>?_)
 ·refine Z6 ?_
  have hjl:j<(jbz (jbI b c)).length:=by omega
  obtain ⟨vn,hvn,hvj,hvm⟩:=meaS_nat hjl
  have hsj:mxK b k (j+1)=max (mxK b k j) (jcW (jaf b) k (vn:Int)):=by subst hcx;exact mxK_succ hjl hvj
  have hsl:=mxK_le (b:=b) (k:=k) j
  have hcl:=jrN (jaf b) k (vn:Int)
  obtain ⟨bL,oL_,rfl⟩:=rL.ptr zO
  refine jar [Zp 2,Zp 3,Zp 4,Zr 0,Zr 1,Zr 5,Zk 6,Zk 7,Zk 8,Zp 9,Zp 10,Zp 11,Zp 12,Zp 13] zK zK (List.Sublist.refl _) ?_;refine Z2 ?_;refine D10 ?_;refine Z2 ?_;refine jbc rfl zq (rL.iat j zO zO) ?_;rw [hvj];refine jah (Post:=fun v=>v=str (jg6 vn)) rfl zq zK (fun H' hH=>f34_c _ H' vn hvn) ?_;rintro v rfl;refine Zs ?_;refine jaN rfl zq zK (Post:=fun v nz=> ∃pw' cw' pb' cb',v=tbV (jbf b c (jg6 vn)) ps ns ks pw' nw cw' pb' nb cb'∧RdLn B nz (.slice pw' nw cw') nw (jbf b c (jg6 vn)).waters∧RdLn B nz (.slice pb' nb cb') nb (jbf b c (jg6 vn)).butts) (fun H' hH=>f33_r _ H' (ra.keeps (sq hH)) ok hht (jg6 vn) (Nat.le_trans (joc hvn) zA)) ?_
  rintro v nzW ⟨pwW,cwW,pbW,cbW,rfl,ewW,ebW⟩;refine jaH (jad ?_);refine jah (Post:=fun v=>v= .tuple [.int .i64 (jcW (jaf b) k (vn:Int)+jbu (jaf b) k:Nat),.int .i64 0].toArray) rfl zq zK (fun H' hH=>f28_p _ H' hvn (jmG ra ra.sm (Nat.le_trans (joc hvn) zA) ewW ebW (sq hH) (sq hH)) ok hk hcx hvm) ?_;rintro v rfl;refine Z11 ?_;refine jds rfl zq rfl ?_;refine Z8 ?_;refine jo2 rfl zq ?_;refine Z8 ?_
  rw [show max ((mxK b k j:Nat):Int) (((jcW (jaf b) k (vn:Int)+jbu (jaf b) k:Nat):Int)-(jbu (jaf b) k:Int))=(mxK b k (j+1):Int) by rw [hsj,Nat.max_def,Int.max_def];split<;>split<;>omega];exact E45
 ·refine Z4 ?_
  obtain rfl:j=(jbz (jbI b c)).length:=by omega
  have hma:mxK b k (jbz (jbI b c)).length=ja7 (jaf b) k:=by subst hcx;exact mxK_all hk
  rw [hma];refine Z7 ?_;refine jac (h++nL) rfl Tryz.func52 rfl jaa ?_;refine Zs ?_
  exact ⟨nL,rfl,rfl⟩
end
section
variable [LaidO B]
theorem jmj (L:List Bo): ∀n,((ji6 L n).1=none∧(ji6 L n).2=L.length∧ ∀i,i<n→ja7 L i=0∨L.length≤ja7 L i)∨ ∃k,(ji6 L n).1=some k∧k<n∧(ji6 L n).2=ja7 L k∧0<ja7 L k∧ja7 L k<L.length∧(∀i,i<n→ja7 L i=0∨ja7 L k≤ja7 L i)∧ ∀i,i<k→ja7 L i=0∨ja7 L k<ja7 L i
 |0=> .inl ⟨rfl,rfl,fun i h=>by omega⟩
 |n+1=>by
  rw [jeK,jft];rcases jmj L n with ⟨h1,h2,h3⟩|⟨k,h1,h2,h3,h4,h5,h6,h7⟩
  ·rw [h2];by_cases hc:0<ja7 L n∧ja7 L n<L.length
   ·rw [if_pos hc];refine .inr ⟨n,rfl,by omega,rfl,hc.1,hc.2,fun i hi=>?_,fun i hi=>?_⟩
    ·by_cases e:i=n
     ·rw [e];exact .inr (Nat.le_refl _)
     ·have:=h3 i zO;omega
    ·have:=h3 i hi;omega
   ·rw [if_neg hc];refine .inl ⟨h1,h2,fun i hi=>?_⟩
    by_cases e:i=n
    ·rw [e];omega
    ·exact h3 i zO
  ·rw [h3];by_cases hc:0<ja7 L n∧ja7 L n<ja7 L k
   ·rw [if_pos hc];refine .inr ⟨n,rfl,by omega,rfl,hc.1,by omega,fun i hi=>?_,fun i hi=>?_⟩
    ·by_cases e:i=n
     ·rw [e];exact .inr (Nat.le_refl _)
     ·have:=h6 i zO;omega
    ·have:=h6 i hi;omega
   ·rw [if_neg hc];refine .inr ⟨k,h1,by omega,h3,h4,h5,fun i hi=>?_,h7⟩
    by_cases e:i=n
    ·rw [e];omega
    ·exact h6 i zO
theorem idx_cell (ok:TbOk b) (hk:k<(jab b).length):idxC (jab b) ((jab b).getD k default)=(k:Int):=jrg hk rfl fun j hj e=>by
 have:=jmf (b:=b) zO hk e
 omega
theorem f10_t (h:Hp) (rds:RdS B h 1 (.slice ps ns ks) ns (jax b.sts)) (hcs:ns≤ks) (rdw:RdLn B h (.slice pw nw cw) nw b.waters) (rdb:RdLn B h (.slice pb nb cb) nb b.butts) (y:Nat) (hy:y≤255):(Md.starC Tryz.prog B).R (jml Tryz.prog B fun v _=>v= .bool true) (G (Frame.enter Tryz.prog 10 #[tbV b ps ns ks pw nw cw pb nb cb,.int .u8 (y:Int)] .normal) []) h:=by
 refine jk0 Tryz.func10 rfl rfl (l:=[tbV b ps ns ks pw nw cw pb nb cb,.int .u8 (y:Int),undef,undef,undef,undef,undef,undef,undef,undef,undef,undef,undef,undef,undef,undef,undef,undef,undef,undef,undef,undef,undef,undef,undef,undef,undef,undef,undef,undef,undef,undef,undef,undef,undef,undef,undef,undef,undef,undef,undef,undef,undef,undef,undef,undef,undef,undef,undef,undef,undef,undef,undef,undef,undef,undef,undef,undef,undef,undef,undef,undef,undef,undef,undef,undef,undef,undef,undef,undef,undef,undef,undef,undef,undef,undef,undef,undef,undef,undef,undef,undef,undef,undef,undef,undef,undef,undef,undef,undef,undef,undef,undef,undef,undef,undef,undef,undef,undef,undef,undef,undef,undef,undef,undef,undef,undef,undef,undef,undef,undef,undef,undef,undef,undef,undef,undef,undef,undef,undef,undef,undef,undef,undef,undef,undef,undef,undef,undef,undef,undef,undef,undef,undef,undef,undef,undef,undef,undef,undef,undef,undef,undef,undef,undef,undef,undef,undef,undef,undef,undef,undef,undef,undef,undef,undef,undef,undef,undef,undef]) rfl ?_;refine Z2 ?_
 refine jaR rfl zq (fun q1=>jas (jad ?_));refine Z6 ?_;refine jah (Post:=fun v=>IsB _ v) rfl zq zK (fun H' hH=>f25_c _ H' (rds.keeps (sq hH)) hcs (rdw.keeps (sq hH)) (rdb.keeps (sq hH))) ?_
 rintro v (⟨hc,rfl⟩|⟨hc,rfl⟩)
 ·refine Zs ?_
  have hfit:=hc
  have ra:=raw_of rds hcs rdw rdb hfit.1
  have hz:=hfit.2
  have ok:=ja8.1 hz
  have rd:=ra.rd ok
  have h12:=jbj ok
  have hbl:=jbA ok
  refine Z5 ?_
  by_cases hne:jaf b=[]
  rotate_left
  have ho:ja3 b 0=0:=jqy hz rfl hne
  have hpos:=List.length_pos_iff.2 hne
  have har:jr5 b=ji6 (jaf b) (jab b).length:=by rw [jr5,if_pos ho]
  rcases jmj (jaf b) (jab b).length with ⟨a1,a2,a3⟩|⟨k0,a1,a2,a3,a4,a5,a6,a7⟩
  refine D53 ?_;refine Zs ?_;refine jah (Post:=fun v=>v= .tuple [ceV default,.int .i64 ((jaf b).length:Int),.bool false,.int .i64 0].toArray) rfl zq zK (fun H' hH=>by have:=f50_c (Md.starC Tryz.prog B) H' (ra.keeps (sq hH));rw [har,ho,a1,a2] at this;exact this) ?_
  rotate_left
  refine D53 ?_;refine Zs ?_;refine jah (Post:=fun v=>v= .tuple [ceV ((jab b).getD k0 default),.int .i64 (ja7 (jaf b) k0:Int),.bool true,.int .i64 0].toArray) rfl zq zK (fun H' hH=>by have:=f50_c (Md.starC Tryz.prog B) H' (ra.keeps (sq hH));rw [har,ho,a1,a3] at this;exact this) ?_
  rotate_left
  have ho:ja3 b 0=9:=jqx hz rfl hne
  have hn0:(jaf b).length=0:=by rw [hne];rfl
  refine D53 ?_;refine Zs ?_;refine jah (Post:=fun v=>v= .tuple [ceV default,.int .i64 0,.bool false,.int .i64 9].toArray) rfl zq zK (fun H' hH=>by have:=f50_c (Md.starC Tryz.prog B) H' (ra.keeps (sq hH));rw [jr5,ho,if_neg zA] at this;exact this) ?_
  all_goals
   rintro v rfl;refine Z4 ?_;refine jjN rfl zq ?_;refine jq3 rfl zq ?_
   refine jaw rfl zq (fun qa=>jas (jad ?_));refine D5 ?_;refine Z7 ?_;refine jah (Post:=fun v=>v= .tuple [.int .i64 ((jaf b).length:Int),.int .i64 0].toArray) rfl zq zK (fun H' hH=>by have:=f28_c (Md.starC Tryz.prog B) H' (b:=b) (ra.keeps (sq hH));rw [if_pos hz,hz] at this;exact this) ?_
   rintro v rfl;refine Z11 ?_;refine jds rfl zq rfl ?_;refine Z2 ?_
  ·refine jfW rfl rfl zA ?_;refine Zs ?_;refine jn3 rfl rfl zO ?_;refine jiq rfl rfl zK rfl ?_;refine Z8 ?_;refine k_neqT rfl zq zA ?_;refine Z3 ?_;refine ja4 [Zf 0,Zf 1,Zf 2,Zf 3,Zf 4,Zf 5,Zf 6,Zf 7,Zf 8,Zf 9,Zf 10,Zf 11,Zf 12,Zf 13,Zf 14,Zf 15,Zf 16,Zf 17,Zf 18] zK zK ?_;refine Zs ?_;refine jco rfl zq rfl ?_;refine Z2 ?_;refine jeC rfl rfl ?_;refine Z3 ?_;refine jco rfl rfl rfl ?_;refine Z2 ?_;refine jjk rfl rfl ?_;refine jq9 rfl rfl ?_;refine jq6 rfl rfl zK zA ?_;refine Z2 ?_;refine jb9 rfl rfl zK (f20_c _) ?_;rintro v h' ⟨nF,rfl,rfl⟩;refine Z5 ?_;refine jdb rfl Tryz.func10 zK rfl ?_
   rfl
  ·refine jco rfl rfl rfl ?_;refine Zs ?_;refine jjM rfl rfl zO ?_;refine jiq rfl rfl zK rfl ?_;refine Z8 ?_;refine jds rfl zq rfl ?_;refine Z6 ?_;refine jaN rfl zq zK (Post:=fun w new=>OwnS 37 3 w (jab b).length (jax (jab b)) new) (fun H' hH=>f26_c _ H' (rd.keeps (sq hH))) ?_;rintro w n27 o27;refine jaH (jad ?_);obtain ⟨p27,c27,rfl,hc27,r27⟩:=jao (B:=B) o27
   refine Z6 ?_;refine jah (Post:=fun v=>v= .int .i64 (idxC (jab b) default)) rfl zq zK (fun H' hH=>f51_c _ H' (rd.keeps (sq hH)) default) ?_
   rintro v rfl;refine Z5 ?_;refine ja4 [Zf 0,Zf 1,Zf 2,Zf 3,Zf 4,Zf 5,Zf 6,Zf 7,Zf 8,Zf 9,Zf 10,Zf 11,Zf 12,Zf 13,Zf 14,Zf 15,Zf 16,Zf 17,Zf 18,Zf 19,Zf 20,Zf 21,Zf 22,Zf 23,Zf 24,Zf 25,Zf 26,Zf 27] zK zK ?_;refine Z5 ?_;refine jds rfl rfl rfl ?_;refine Zs ?_;refine jjk rfl rfl ?_;refine jq9 rfl rfl ?_
   refine k_neqC rfl rfl zK (fun hc=>absurd ⟨rfl,rfl,rfl⟩ hc) (fun hc=>?_)
   ·refine Z26 ?_
    refine jaL rfl zq (fun hc=>?_) (fun hc=>?_);refine Z2 ?_
    rotate_left
    refine Z3 ?_
    all_goals
     refine Z3 ?_
    ·refine jcp rfl zq zK (n':=(y:Int)) zF ?_;refine Z2 ?_;refine jip rfl zq zO ?_;obtain ⟨i,hix⟩: ∃i,i=y%(jab b).length:=⟨_,rfl⟩
     rw [←hix];have hi:i<(jab b).length:=hix▸Nat.mod_lt _ zO
     obtain ⟨b27,o27_,rfl⟩:=r27.ptr zO
     refine Z3 ?_;refine jar [Zp 1,Zp 2,Zp 3,Zr 0,Zr 4,Zk 5,Zp 6,Zp 7,Zp 8,Zp 9,Zp 10] zK zK (List.Sublist.refl _) ?_;refine Z2 ?_;refine D10 ?_;refine Zs ?_;refine jcD (vs:=[.bool ((jab b).getD i default).butt,.int .i64 ((jab b).getD i default).line,.int .i64 ((jab b).getD i default).st]) rfl zq rfl (r27.eat i zO zO) ?_;refine jaN rfl zq zK (Post:=fun v nw=>v= .tuple [.int .i64 (ja7 (jaf b) i:Int),.bool true].toArray) (fun H' hH=>f52_c _ H' (ra.keeps (sq hH)) ok hi rfl) ?_
     rintro v nV rfl;refine jaH (jad ?_);refine Z8 ?_
     by_cases hm0:ja7 (jaf b) i=0
     all_goals
      refine ja4 [Zf 0,Zf 1,Zf 2,Zf 3,Zf 4,Zf 5,Zf 6,Zf 7,Zf 8,Zf 9,Zf 10,Zf 11,Zf 12,Zf 13,Zf 14,Zf 15,Zf 16,Zf 17,Zf 18,Zf 19,Zf 20,Zf 21,Zf 22,Zf 23] zK zK ?_;refine Z4 ?_
     ·refine jn3 rfl rfl zO ?_;refine Z9 ?_;refine jfW rfl rfl zO ?_;refine Z20 ?_;refine joN ?_;refine Z3 ?_;refine jeC rfl rfl ?_;refine Z7 ?_;refine jb9 rfl rfl zK (f20_c _) ?_;rintro v h' ⟨nF,rfl,rfl⟩;refine Z5 ?_;refine jdb rfl Tryz.func10 zK rfl ?_
      rfl
     ·refine jjM rfl rfl zO ?_;refine Z3 ?_;refine jir rfl rfl (by have:=a3 i hi;omega) ?_;refine Z5 ?_;refine jaL rfl rfl (fun hc=>?_) (fun hc=>?_);refine Z3 ?_
      rotate_left
      refine Z3 ?_
      all_goals
       refine Z17 ?_;refine joN ?_;refine Z3 ?_;refine jeC rfl rfl ?_;refine Z7 ?_;refine jb9 rfl rfl zK (f20_c _) ?_
       rintro v h' ⟨nF,rfl,rfl⟩;refine Z5 ?_;refine jdb rfl Tryz.func10 zK rfl ?_
       rfl
    ·refine Z2 ?_;refine jb9 rfl rfl zK (f20_c _) ?_
     rintro v h' ⟨nF,rfl,rfl⟩;refine Z5 ?_;refine jdb rfl Tryz.func10 zK rfl ?_
     rfl
  ·refine jco rfl rfl rfl ?_;refine Zs ?_;refine jjM rfl rfl zO ?_;refine jiq rfl rfl zK rfl ?_;refine Z8 ?_;refine jds rfl zq rfl ?_;refine Z6 ?_;refine jaN rfl zq zK (Post:=fun w new=>OwnS 37 3 w (jab b).length (jax (jab b)) new) (fun H' hH=>f26_c _ H' (rd.keeps (sq hH))) ?_;rintro w n27 o27;refine jaH (jad ?_);obtain ⟨p27,c27,rfl,hc27,r27⟩:=jao (B:=B) o27
   refine Z6 ?_;refine jah (Post:=fun v=>v= .int .i64 (k0:Int)) rfl zq zK (fun H' hH=>by rw [←idx_cell ok a2];exact f51_c _ H' (rd.keeps (sq hH)) _) ?_
   rintro v rfl;refine Z5 ?_;refine ja4 [Zf 0,Zf 1,Zf 2,Zf 3,Zf 4,Zf 5,Zf 6,Zf 7,Zf 8,Zf 9,Zf 10,Zf 11,Zf 12,Zf 13,Zf 14,Zf 15,Zf 16,Zf 17,Zf 18,Zf 19,Zf 20,Zf 21,Zf 22,Zf 23,Zf 24,Zf 25,Zf 26,Zf 27] zK zK ?_;refine Z16 ?_;refine jir rfl rfl zO ?_;refine Z3 ?_;refine k_geqF rfl rfl zO ?_;refine Z3 ?_;refine jir rfl rfl zO ?_;refine Z11 ?_
   refine jaL rfl zq (fun hc=>?_) (fun hc=>?_)
   ·exfalso
    omega
   ·refine Z6 ?_;refine jcp rfl zq zK (n':=(y:Int)) zF ?_;refine Z2 ?_;refine jip rfl zq zO ?_
    obtain ⟨i,hix⟩: ∃i,i=y%(jab b).length:=⟨_,rfl⟩
    rw [←hix];have hi:i<(jab b).length:=hix▸Nat.mod_lt _ zO
    obtain ⟨b27,o27_,rfl⟩:=r27.ptr zO
    refine Z3 ?_;refine jar [Zp 1,Zp 2,Zp 3,Zr 0,Zr 4,Zk 5,Zp 6,Zp 7,Zp 8,Zp 9,Zp 10] zK zK (List.Sublist.refl _) ?_;refine Z2 ?_;refine D10 ?_;refine Zs ?_;refine jcD (vs:=[.bool ((jab b).getD i default).butt,.int .i64 ((jab b).getD i default).line,.int .i64 ((jab b).getD i default).st]) rfl zq rfl (r27.eat i zO zO) ?_;refine jaN rfl zq zK (Post:=fun v nw=>v= .tuple [.int .i64 (ja7 (jaf b) i:Int),.bool true].toArray) (fun H' hH=>f52_c _ H' (ra.keeps (sq hH)) ok hi rfl) ?_
    rintro v nV rfl;refine jaH (jad ?_);refine Z8 ?_
    by_cases hm0:ja7 (jaf b) i=0
    all_goals
     refine ja4 [Zf 0,Zf 1,Zf 2,Zf 3,Zf 4,Zf 5,Zf 6,Zf 7,Zf 8,Zf 9,Zf 10,Zf 11,Zf 12,Zf 13,Zf 14,Zf 15,Zf 16,Zf 17,Zf 18,Zf 19,Zf 20,Zf 21,Zf 22,Zf 23] zK zK ?_;refine Z4 ?_
    ·refine jn3 rfl rfl zO ?_;refine Z9 ?_;refine jfW rfl rfl zO ?_;refine Z21 ?_;refine jaN rfl zq zK (Post:=fun v nw=>v= .tuple [.int .i64 (ja7 (jaf b) k0:Int),.bool true].toArray) (fun H' hH=>f52_c _ H' (ra.keeps (sq hH)) ok a2 rfl) ?_;rintro v nW rfl;refine jaH (jad ?_);refine Z7 ?_;refine joN ?_;refine Z3 ?_;refine jlJ rfl rfl ?_;refine Z3 ?_;refine jco rfl rfl rfl ?_;refine Z3 ?_;refine jb9 rfl rfl zK (f20_c _) ?_
     rintro v h' ⟨nF,rfl,rfl⟩;refine Z5 ?_;refine jdb rfl Tryz.func10 zK rfl ?_
     rfl
    ·refine jjM rfl rfl zO ?_;refine Z3 ?_;refine jir rfl rfl (by have:=a6 i hi;omega) ?_;refine Z5 ?_;refine jaL rfl rfl (fun hc=>?_) (fun hc=>?_);refine Z6 ?_;refine jir rfl rfl (by rcases Nat.lt_or_ge i k0 with e|e;(have:=a7 i e;omega);omega) ?_;refine Zs ?_
     rotate_left
     refine Z8 ?_
     all_goals
      refine Z13 ?_;refine jaN rfl zq zK (Post:=fun v nw=>v= .tuple [.int .i64 (ja7 (jaf b) k0:Int),.bool true].toArray) (fun H' hH=>f52_c _ H' (ra.keeps (sq hH)) ok a2 rfl) ?_
      rintro v nW rfl;refine jaH (jad ?_);refine Z7 ?_;refine joN ?_;refine Z3 ?_;refine jlJ rfl rfl ?_;refine Z3 ?_;refine jco rfl rfl rfl ?_;refine Z3 ?_;refine jb9 rfl rfl zK (f20_c _) ?_
      rintro v h' ⟨nF,rfl,rfl⟩;refine Z5 ?_;refine jdb rfl Tryz.func10 zK rfl ?_
      rfl
 ·refine Z6 ?_;refine jb9 rfl zq zK (f20_c _) ?_
  rintro v h' ⟨nF,rfl,rfl⟩;refine Z4 ?_;refine jdb rfl Tryz.func10 zK rfl ?_
  rfl
end
end Go.Proofs
