/- A part of the proof of a law. Condition of each theorem: as its statement says. -/
import Derived.Test.YtggpepeiedkbbaaGreatDoorVG10
import Derived.Test.YtggpepeiedkbbaaGreatDoorProg
import Derived.Sort.Walk0
set_option linter.all false
variable {P:Go.Program} {B:Array Go.Obj} {S h H:Go.Lo.Hp} {ops:Array Go.Oper} {r:List (Nat×Go.Lo.Kd)} {kd:Go.Lo.Kd} {l l' l'':List Go.Value} {C:List Go.Value→Go.Lo.Hp→Prop} {i n k j ns ks nw cw nb cb:Nat} {d:Option Go.Tmp} {ty t u:Go.TypeId} {pos:String} {af:Array Go.Edge} {g:Option (Nat×Bool)} {y:Go.Operand} {p ps pw pb pw' pb':Option Go.Addr} {b:Go.Lo.Tb} {s:List UInt8} {v a:Int} {D:List Go.Lo.Cd} {f:Go.Lo.Str} {ls:List Go.Lo.Ln}
set_option maxHeartbeats 4000000
set_option maxRecDepth 100000
set_option synthInstance.maxHeartbeats 1000000
set_option synthInstance.maxSize 100000
namespace Go.Proofs
open Go.Lo
instance:ZeroT Tryz.prog 5 (.int .u8 0):=⟨by kernel_rfl⟩
end Go.Proofs
namespace Go.Lo
open Go.Conc
theorem str_app (s t:List UInt8):(⟨s.toArray⟩:ByteArray)++⟨t.toArray⟩=⟨(s++t).toArray⟩:=by
 apply ByteArray.ext
 simp
section
variable {m:Md P B}
theorem k_sadd {x:Operand} {a b:ByteArray} {p q:List UInt8} (ho:ops[i]?=some ⟨d,.binOp .add t x y u,ty,pos,af,g⟩) (hw:Wt ops l g) [KHeap kd S h H] [ex:OpV l x (.string a)] [ey:OpV l y (.string b)] [pa:SV a p] [pb:SV b q] (hr:p.length+q.length≤9223372036854775807) [PutV l d (str (p++q)) l']
  (n:RegK m S ops r l' h C):RegK m S ops ((i,kd)::r) l h C:=
 RegK.rd (v:=str (p++q)) ho hw (jfF ex.eq ey.eq zS (by
  rw [pa.eq,pb.eq];show Op.stringOp .add _ _=_
  unfold Op.stringOp
  have: ¬(((⟨p.toArray⟩:ByteArray).size+(⟨q.toArray⟩:ByteArray).size:Nat):Int)>IntKind.i64.max:=by
   rw [show IntKind.i64.max=9223372036854775807 by decide];simp only [ByteArray.size,List.size_toArray]
   omega
  simp only [if_neg this,str_app]
  rfl)) n
end
section
variable {m:Md P B}
theorem reads_push (f:Value→ByteArray→Sem (ForInStep ByteArray)) (hf: ∀(c:UInt8) (a:ByteArray),f (jbV c) a=Pure.pure (.yield (a.push c))): ∀(s t:List UInt8),Reads P B (forIn (s.map jbV) (⟨t.toArray⟩:ByteArray) f) H ⟨(t++s).toArray⟩
 |[],t=>by simp only [List.map_nil,List.forIn_nil,List.append_nil];exact Reads.pure _
 |c::s,t=>by
  rw [List.map_cons,List.forIn_cons,hf];refine Reads.bind (Reads.pure _) ?_
  dsimp only
  have e:(⟨t.toArray⟩:ByteArray).push c=⟨(t++[c]).toArray⟩:=by
   apply ByteArray.ext
   simp [ByteArray.push]
  rw [e];have:=reads_push f hf s (t++[c])
  simpa using this
theorem reads_b2s {b o:Nat} {c:Nat} (hl:s.length=n) (hr:RdN B H b o (s.map jbV)):Reads P B (Conv.bytesToString (.slice (some ⟨b,o,none⟩) n c)) H (str s):=by
 unfold Conv.bytesToString
 dsimp only
 refine Reads.bind (a:=(s.map jbV).toArray) ?_ ?_
 ·have:=jeg (P:=P) (B:=B) (h:=H) (b:=b) (o:=o) n 0 (s.map jbV) [] (by simpa using hl) (fun j hj=>by rw [Nat.zero_add];exact hr j (by simpa [hl] using hj))
  simpa [loadCells] using this
 ·refine Reads.bind (a:=(⟨s.toArray⟩:ByteArray)) ?_ (Reads.pure _)
  rw [List.forIn_toArray];refine reads_push (P:=P) (B:=B) (H:=H) _ (fun c a=>?_) s []
  simp only [jbV]
  have:UInt8.ofNat ((c.toNat:Int)).toNat=c:=by simp
  rw [this]
theorem k_b2s {t t' e b o c:Nat} {x:Operand} (ho:ops[i]?=some ⟨d,.convert t t' x,ty,pos,af,g⟩) (hw:Wt ops l g) [KHeap kd S h H] [ex:OpV l x (.slice (some ⟨b,o,none⟩) n c)] (hs:P.underlying t=some (.slice e)) (he:P.underlying e=some (.int .u8)) (ht:P.underlying t'=some .string)
  (hl:s.length=n) (hr:RdN B H b o (s.map jbV)) [PutV l d (str s) l'] (q:RegK m S ops r l' h C):RegK m S ops ((i,kd)::r) l h C:=
 RegK.rd (v:=str s) ho hw (by
  simp only [execOp,ex.eq]
  refine Reads.value ?_
  unfold convert
  refine Reads.bind (jaj hs).reads ?_;refine Reads.bind (jaj ht).reads ?_
  dsimp only
  refine Reads.bind (jaj he).reads ?_
  dsimp only
  exact reads_b2s hl hr) q
end
end Go.Lo
namespace Go.Lo
def pL:Option SS→LS
 |none=> .fin
 |some (.m r _)=> .rest r
 |some (.w _ l _ _)=>l
section
variable {sm sm' v v' wt wt' ws ws' N r i k:Nat} {l l':LS}
end
end Go.Lo
namespace Go.Proofs
open Go.Lo
open Go.Conc (G)
section
variable {m:Md P B} {S h h' H:Hp}
theorem k_neqT {x:Operand} {b:Int} {k:IntKind} (ho:ops[i]?=some ⟨d,.binOp .neq t x y u,ty,pos,af,g⟩) (hw:Wt ops l g) [kh:KHeap kd S h H] [ex:OpV l x (.int k a)] [ey:OpV l y (.int k b)] (e:a≠b) [pt:PutV l d (.bool true) l'] (q:RegK m S ops r l' h C):RegK m S ops ((i,kd)::r) l h C:=by
 have pq:=pt;rw [←decide_eq_true e] at pq;exact jnD (l':=l') ho hw q
theorem k_geqT {x:Operand} {b:Int} {k:IntKind} (ho:ops[i]?=some ⟨d,.binOp .geq t x y u,ty,pos,af,g⟩) (hw:Wt ops l g) [kh:KHeap kd S h H] [ex:OpV l x (.int k a)] [ey:OpV l y (.int k b)] (e:b≤a) [pt:PutV l d (.bool true) l'] (q:RegK m S ops r l' h C):RegK m S ops ((i,kd)::r) l h C:=by
 have pq:=pt;rw [←decide_eq_true e] at pq;exact jry (l':=l') ho hw q
theorem k_neqBF {x:Operand} {a c:Bool} (ho:ops[i]?=some ⟨d,.binOp .neq t x y u,ty,pos,af,g⟩) (hw:Wt ops l g) (hb:P.underlying t=some .bool) [KHeap kd S h H] [ex:OpV l x (.bool a)] [ey:OpV l y (.bool c)] (e:a=c) [PutV l d (.bool false) l'] (q:RegK m S ops r l' h C):RegK m S ops ((i,kd)::r) l h C:=
 RegK.rd (v:= .bool false) ho hw (by
  subst e
  simp only [execOp,ex.eq,ey.eq]
  refine Reads.value (Reads.bind (a:=()) (Reads.pure _) ?_)
  show Reads P B (Op.equal t (.bool a) (.bool a)>>=fun b=>pure (Value.bool !b)) H _
  have:=jcC (P:=P) (B:=B) (H:=H) hb a a
  rw [beq_self_eq_true] at this
  exact E70) q
end
end Go.Proofs
namespace Go.Lo
def canNd (D:List Cd):Prop:= ∀d∈D,d.can.Nodup
theorem jpv {κ:Type} [DecidableEq κ] (c:κ) (n:Nat): ∀{K:List κ},K.Nodup→(K.map fun k=>if c=k then n else 0).sum=if c∈K then n else 0
 |[],_=>by simp
 |k::K,h=>by
  rw [List.nodup_cons] at h
  rw [List.map_cons,List.sum_cons,jpv c n h.2];by_cases hc:c=k
  ·subst hc
   rw [if_pos rfl,if_neg h.1,if_pos zS];rfl
  ·rw [if_neg hc];by_cases hm:c∈K
   ·rw [if_pos hm,if_pos (by simp [hm])];omega
   ·rw [if_neg hm,if_neg (by simp [hc,hm])]
theorem jfZ {d:Cd} {v:Int}: ∀{D:List Cd} {x:Bo} {k:Nat},x.length=D.length→xA x k=none→jam d v (D.eraseIdx k) (x.eraseIdx k)=jam d v D x
 |[],[],_,_,_=>rfl
 |[],_::_,_,h,_=>by simp at h
 |_::_,[],_,h,_=>by simp at h
 |e::D,some u::x,0,h,hk=>by simp at hk
 |e::D,none::x,0,h,hk=>by simp [jam]
 |e::D,some u::x,k+1,h,hk=>by
  simp only [List.eraseIdx_cons_succ,jam]
  rw [jfZ (by simpa using h) (by simpa using hk)]
 |e::D,none::x,k+1,h,hk=>by
  simp only [List.eraseIdx_cons_succ,jam]
  rw [jfZ (by simpa using h) (by simpa using hk)]
theorem boatsA_none0 (hk:k<D.length):(jak D 0).filter (fun x=>(xA x k).isNone)=[]:=by
 rw [List.filter_eq_nil_iff];intro x hx
 have hl:=jcd hx
 have:=jgP hx (x[k]'(by omega)) (List.getElem_mem _)
 rw [xA,List.getD_eq_getElem?_getD,List.getElem?_eq_getElem zO];cases hxx:x[k]'(by omega) with
 |none=>exact absurd hxx this
 |some v=>simp [hxx]
theorem jiv: ∀{D:List Cd} {k w:Nat},k<D.length→((jak D (w+1)).filter fun x=>(xA x k).isNone).map (·.eraseIdx k)=jak (D.eraseIdx k) w
 |[],_,_,h=>by simp at h
 |d::D,0,w,_=>by
  simp only [jaO,jdX,List.filter_append,List.map_append,List.filter_flatMap,List.map_flatMap,List.eraseIdx_cons_zero]
  have e1:(d.can.flatMap fun v=>((((jak D (w+1)).filter (jam d v D)).map (some v:: ·)).filter fun x=>(xA x 0).isNone).map (·.eraseIdx 0))=[]:=by
   rw [List.flatMap_eq_nil_iff];intro v _
   rw [List.map_eq_nil_iff,List.filter_map,List.map_eq_nil_iff,List.filter_eq_nil_iff];intro x _
   simp
  rw [e1,List.nil_append,List.filter_map,List.map_map];have:(jak D w).filter ((fun x=>(xA x 0).isNone)∘(none:: ·))=jak D w:=by
   rw [List.filter_eq_self];intro x _
   simp
  rw [this];exact (List.map_congr_left fun x _=>by simp).trans (List.map_id _)
 |d::D,k+1,w,h=>by
  have hk:k<D.length:=by simpa using h
  have ih:=fun w=>jiv (D:=D) (k:=k) (w:=w) hk
  simp only [List.eraseIdx_cons_succ]
  rw [jaO,List.filter_append,List.map_append,List.filter_flatMap,List.map_flatMap];conv=>rhs;rw [jaO]
  congr 1
  ·congr 1
   funext v
   rw [List.filter_map,List.map_map,←ih w,List.filter_map,List.map_map,List.filter_filter,List.filter_filter];have e1:List.filter (fun x=>((fun x=>(xA x (k+1)).isNone)∘(some v:: ·)) x&&jam d v D x) (jak D (w+1))=List.filter (fun x=>((jam d v (D.eraseIdx k))∘(·.eraseIdx k)) x&&(xA x k).isNone) (jak D (w+1)):=by
    refine List.filter_congr fun x hx=>?_
    by_cases hn:xA x k=none
    ·simp only [Function.comp,List.getD_cons_succ,hn,Option.isNone_none,Bool.true_and,Bool.and_true]
     exact (jfZ (jcd hx) hn).symm
    ·have:(xA x k).isNone=false:=by
      cases hh:xA x k with
      |none=>exact absurd hh hn
      |some u=>rfl
     simp only [Function.comp,List.getD_cons_succ,this,Bool.false_and,Bool.and_false]
   rw [e1];exact List.map_congr_left fun x _=>by simp
  ·cases w with
   |zero=>
    simp only [jdX,List.filter_map,List.map_map]
    have:=boatsA_none0 (D:=D) hk
    have e:(jak D 0).filter ((fun x=>(xA x (k+1)).isNone)∘(none:: ·))=[]:=by
     rw [←this];exact List.filter_congr fun x _=>by simp
    rw [e];rfl
   |succ w=>
    simp only [jdX,List.filter_map,List.map_map]
    rw [←ih w,List.map_map];have e:(jak D (w+1)).filter ((fun x=>(xA x (k+1)).isNone)∘(none:: ·))=(jak D (w+1)).filter fun x=>(xA x k).isNone:=List.filter_congr fun x _=>by simp
    rw [e];exact List.map_congr_left fun x _=>by simp
def setCan:List Cd→Nat→List Int→List Cd
 |[],_,_=>[]
 |d::D,0,c=>{d with can:=c}::D
 |d::D,k+1,c=>d::setCan D k c
theorem agreeA_can {d:Cd} {v:Int} {c:List Int}: ∀{D:List Cd} {x:Bo},jam {d with can:=c} v D x=jam d v D x
 |[],_=>rfl
 |_::_,[]=>rfl
 |e::D,some u::x=>by simp only [jam];rw [agreeA_can];rfl
 |e::D,none::x=>by simp only [jam];rw [agreeA_can]
theorem agreeA_setCan {d:Cd} {v:Int} {c:List Int}: ∀{D:List Cd} {x:Bo} {k:Nat},jam d v (setCan D k c) x=jam d v D x
 |[],_,_=>rfl
 |_::_,[],0=>rfl
 |_::_,[],_+1=>rfl
 |e::D,some u::x,0=>by simp only [setCan,jam];rfl
 |e::D,none::x,0=>by simp only [setCan,jam]
 |e::D,some u::x,k+1=>by simp only [setCan,jam];rw [agreeA_setCan]
 |e::D,none::x,k+1=>by simp only [setCan,jam];rw [agreeA_setCan]
def keepV (q:Int→Bool) (o:Option Int):Bool:=match o with|some v=>q v|none=>true
theorem boatsA_setCan {q:Int→Bool}: ∀{D:List Cd} {k w:Nat},k<D.length→jak (setCan D k ((dA D k).can.filter q)) w=(jak D w).filter fun x=>keepV q (xA x k)
 |[],_,_,h=>by simp at h
 |d::D,0,w,_=>by
  simp only [setCan,List.getD_cons_zero,jaO,List.filter_append,List.filter_flatMap]
  congr 1
  ·have: ∀l:List Int,((l.filter q).flatMap fun v=>((jak D w).filter (jam {d with can:=d.can.filter q} v D)).map (some v:: ·))=l.flatMap fun v=>(((jak D w).filter (jam d v D)).map (some v:: ·)).filter fun x=>keepV q (xA x 0):=by
    intro l
    induction l with
    |nil=>rfl
    |cons v l ih=>
     rw [List.flatMap_cons,←ih,List.filter_cons];by_cases hq:q v=true
     ·rw [if_pos hq,List.flatMap_cons];congr 1
      rw [List.filter_map];have:(List.filter ((fun x=>keepV q (xA x 0))∘(some v:: ·)) ((jak D w).filter (jam d v D)))=(jak D w).filter (jam d v D):=by
       rw [List.filter_eq_self];intro x _
       simp [keepV,hq]
      rw [this];congr 1
      exact List.filter_congr fun x _=>agreeA_can
     ·rw [if_neg hq];have:(((jak D w).filter (jam d v D)).map (some v:: ·)).filter (fun x=>keepV q (xA x 0))=[]:=by
       rw [List.filter_map,List.map_eq_nil_iff,List.filter_eq_nil_iff];intro x _
       simp [keepV,hq]
      rw [this,List.nil_append]
   exact this d.can
  ·cases w with
   |zero=>rfl
   |succ w=>
    simp only [jdX,List.filter_map]
    congr 1
    symm
    rw [List.filter_eq_self];intro x _
    simp [keepV]
 |d::D,k+1,w,h=>by
  have hk:k<D.length:=by simpa using h
  have ih:=fun w=>boatsA_setCan (q:=q) (D:=D) (k:=k) (w:=w) hk
  simp only [setCan,List.getD_cons_succ,jaO,List.filter_append,List.filter_flatMap]
  congr 1
  ·congr 1
   funext v
   rw [ih w,List.filter_map,filter_comm'];congr 1
   have e1:((fun x=>keepV q (xA x (k+1)))∘(some v:: ·))=fun x=>keepV q (xA x k):=by funext x;simp
   rw [e1];congr 1
   exact List.filter_congr fun x _=>agreeA_setCan
  ·cases w with
   |zero=>rfl
   |succ w=>
    simp only [jdX,List.filter_map]
    rw [ih w];congr 1
section
end
theorem fig_mem (k:TbOk b) {c:Ce} (h:jbO b c=true):jbo b c∈(jaT b c).figs:=by
 have h1:=jbk.1 h
 have:=((k.lines c.butt).ok _ (jbz h)).len
 rw [jbo,List.getD_eq_getElem?_getD,List.getElem?_eq_getElem zO];exact E52
theorem setF_lat {c:Ce} (hc:jbO b c=true) {d:Ce} (hd:jbO b d=true):(jaT (jat b c f) d).lat=(jaT b d).lat:=by
 rw [jfD hc d hd];split
 ·rename_i h
  simp only [jaT,h.1,h.2]
 ·rfl
theorem setF_cells_same (k:TbOk b) {c:Ce} (hc:c∈jaa b) (hf:f≠jbG):jaa (jat b c f)=jaa b:=by
 rw [jf5 k (jaA hc).1,jbq];refine List.filter_congr fun d _=>?_
 rw [keepC'];by_cases e:d=c
 ·subst e
  rw [if_pos rfl,(jaA hc).1];simp [hf,(jaA hc).2]
 ·rw [if_neg e]
theorem setF_cdOf (k:TbOk b) {c:Ce} (hc:jbO b c=true) {d:Ce} (hd:jbO b d=true) (hne:d≠c):jcI (jat b c f) d=jcI b d:=by
 simp only [jcI,setF_lat hc hd,jdU k hc hd,if_neg hne]
theorem setF_cdOf_self (k:TbOk b) {c:Ce} (hc:jbO b c=true):jcI (jat b c f) c={jcI b c with can:=jbl f}:=by
 simp only [jcI,setF_lat hc hc,jdU k hc hc,if_pos]
theorem map_eraseIdx' {α β:Type} (f:α→β): ∀(l:List α) (i:Nat),(l.eraseIdx i).map f=(l.map f).eraseIdx i
 |[],_=>rfl
 |a::l,0=>rfl
 |a::l,i+1=>by simp [map_eraseIdx' f l i]
theorem cdT_drop (k:TbOk b) (hi:i<(jaa b).length):cdT (jat b ((jaa b).getD i default) jbG)=(cdT b).eraseIdx i:=by
 have hm:(jaa b).getD i default∈jaa b:=by rw [List.getD_eq_getElem?_getD,List.getElem?_eq_getElem hi];exact E52
 have hc:=(jaA hm).1
 rw [cdT,jby k hc,cdT,←map_eraseIdx',←ja9 (jbu b) hi];refine List.map_congr_left fun d hd=>?_
 rw [List.mem_filter,decide_eq_true_eq] at hd
 exact setF_cdOf k hc (jaA hd.1).1 hd.2
theorem setCan_map {b':Tb} {l:List Ce} (hn:l.Nodup) {v:List Int} (hi:i<l.length) (h1: ∀d∈l,d≠l.getD i default→jcI b' d=jcI b d) (h2:jcI b' (l.getD i default)={jcI b (l.getD i default) with can:=v}):l.map (jcI b')=setCan (l.map (jcI b)) i v:=by
 induction l generalizing i with
 |nil=>simp at hi
 |cons a l ih=>
  rw [List.nodup_cons] at hn
  cases i with
  |zero=>
   simp only [List.getD_cons_zero] at h1 h2
   rw [List.map_cons,List.map_cons,setCan,h2];congr 1
   exact E71
  |succ i=>
   have hi':i<l.length:=by simpa using hi
   have hm:l.getD i default∈l:=by rw [List.getD_eq_getElem?_getD,List.getElem?_eq_getElem hi'];exact E52
   simp only [List.getD_cons_succ] at h1 h2
   rw [List.map_cons,List.map_cons,setCan,h1 a zS (fun e=>hn.1 (e▸hm)),ih hn.2 hi' (fun d hd=>h1 d (by simp [hd])) h2]
theorem cdT_put (k:TbOk b) (hi:i<(jaa b).length) (hf:f≠jbG):cdT (jat b ((jaa b).getD i default) f)=setCan (cdT b) i (jbl f):=by
 have hm:(jaa b).getD i default∈jaa b:=by rw [List.getD_eq_getElem?_getD,List.getElem?_eq_getElem hi];exact E52
 have hc:=(jaA hm).1
 rw [cdT,setF_cells_same k hm hf,cdT];exact E72
theorem sum_set (l:List Nat) (i:Nat) (x:Nat) (hi:i<l.length):(l.set i x).sum+l.getD i 0=l.sum+x:=by
 induction l generalizing i with
 |nil=>simp at hi
 |cons a l ih=>
  cases i with
  |zero=>simp;omega
  |succ i=>
   have:=ih i (by simpa using hi)
   simp only [List.set_cons_succ,List.sum_cons,List.getD_cons_succ]
   omega
theorem updL_smu (hi:i<ls.length) (hk:k<(ls.getD i default).figs.length):jb1 (jex ls i k f)+jb0 ((ls.getD i default).figs.getD k [])=jb1 ls+jb0 f:=by
 have e1:jb1 (jex ls i k f)=((ls.map jcQ).set i (jcQ {ls.getD i default with figs:=(ls.getD i default).figs.set k f})).sum:=by
  rw [jb1,jex,List.map_set]
 have e2:=sum_set (ls.map jcQ) i (jcQ {ls.getD i default with figs:=(ls.getD i default).figs.set k f}) (by simpa using hi)
 have e3:(ls.map jcQ).getD i 0=jcQ (ls.getD i default):=by
  rw [List.getD_eq_getElem?_getD,List.getElem?_map,List.getElem?_eq_getElem hi,List.getD_eq_getElem?_getD,List.getElem?_eq_getElem hi];rfl
 have e4:jcQ {ls.getD i default with figs:=(ls.getD i default).figs.set k f}=(((ls.getD i default).figs.map jb0).set k (jb0 f)).sum:=by
  rw [jcQ,List.map_set]
 have e5:=sum_set ((ls.getD i default).figs.map jb0) k (jb0 f) (by simpa using hk)
 have e6:((ls.getD i default).figs.map jb0).getD k 0=jb0 ((ls.getD i default).figs.getD k []):=by
  generalize (ls.getD i default).figs=gg at hk⊢
  rw [List.getD_eq_getElem?_getD,List.getElem?_map,List.getElem?_eq_getElem hk,List.getD_eq_getElem?_getD,List.getElem?_eq_getElem hk];rfl
 have e7:jcQ (ls.getD i default)=((ls.getD i default).figs.map jb0).sum:=rfl
 have e8:jb1 ls=(ls.map jcQ).sum:=rfl
 omega
theorem updL_ok (k:LsOk n ls) (hi:i<ls.length) (hf:jbx f=true):LsOk n (jex ls i j f):=by
 have hmem:ls.getD i default∈ls:=jah hi
 have ho:=k.ok _ hmem
 refine ⟨by rw [jd8];exact k.two,fun l hl=>?_,?_⟩
 ·rcases List.mem_or_eq_of_mem_set hl with hl|rfl
  ·exact k.ok l hl
  ·refine ⟨ho.lat,by simpa using ho.len,fun g hg=>?_⟩
   rcases List.mem_or_eq_of_mem_set hg with hg|rfl
   ·exact ho.fig g hg
   ·exact hf
 ·have:(jex ls i j f).map (·.lat)=ls.map (·.lat):=by
   rw [jex,List.map_set];refine List.ext_getElem zS fun a h1 h2=>?_
   rw [List.getElem_set];split
   ·rename_i e
    subst e
    rw [List.getElem_map,List.getD_eq_getElem?_getD,List.getElem?_eq_getElem hi];rfl
   ·rfl
  have h1:((jex ls i j f).map (·.lat)).Pairwise (· < ·):=by rw [this,List.pairwise_map];exact k.up
  rwa [List.pairwise_map] at h1
theorem setF_ok (k:TbOk b) {c:Ce} (hc:jbO b c=true) (hf:jbx f=true) (hs:jb1 b.waters+jb1 b.butts+jb0 f≤2+jb0 (jbo b c)):TbOk (jat b c f):=by
 have h1:=jbk.1 hc
 have hlen:=((k.lines c.butt).ok _ (jbz hc)).len
 have hsm:=updL_smu (ls:=jap b c.butt) (i:=c.line.toNat) (k:=c.st.toNat) (f:=f) zO (by rw [jaT] at hlen;omega)
 have hfe:jb0 (((jap b c.butt).getD c.line.toNat default).figs.getD c.st.toNat [])=jb0 (jbo b c):=rfl
 refine ⟨by simpa using k.wrong,by simpa using k.n1,by simpa using k.n3,by simpa using k.names,?_,?_,?_⟩
 ·have:(jat b c f).waters=jap (jat b c f) false:=rfl
  rw [this,jbb,jbF];split
  ·rename_i e
   exact updL_ok k.waters (by
   have h3:c.line<((jap b false).length:Int):=by rw [e];exact h1.2.1
   have h4:(jap b false).length=b.waters.length:=rfl
   show c.line.toNat<b.waters.length
   omega) hf
  ·exact k.waters
 ·have:(jat b c f).butts=jap (jat b c f) true:=rfl
  rw [this,jbb,jbF];split
  ·rename_i e
   exact updL_ok k.butts (by
   have h3:c.line<((jap b true).length:Int):=by rw [e];exact h1.2.1
   have h4:(jap b true).length=b.butts.length:=rfl
   show c.line.toNat<b.butts.length
   omega) hf
  ·exact k.butts
 ·have e1:(jat b c f).waters=jap (jat b c f) false:=rfl
  have e2:(jat b c f).butts=jap (jat b c f) true:=rfl
  rw [e1,e2,jbb,jbb];cases hb:c.butt with
  |false=>
   rw [hb] at hsm hfe
   rw [if_pos rfl,if_neg zS];have:jb1 (jap b false)=jb1 b.waters:=rfl
   have:jb1 (jap b true)=jb1 b.butts:=rfl
   omega
  |true=>
   rw [hb] at hsm hfe
   rw [if_neg zS,if_pos rfl];have:jb1 (jap b false)=jb1 b.waters:=rfl
   have:jb1 (jap b true)=jb1 b.butts:=rfl
   omega
theorem smuF_dash:jb0 jbG=0:=by decide
theorem isFig_dash:jbx jbG=true:=by decide
theorem setF_ok_drop (k:TbOk b) {c:Ce} (hc:jbO b c=true):TbOk (jat b c jbG):=setF_ok k hc isFig_dash (by rw [smuF_dash];have:=k.smu;omega)
theorem wrongN_zero (hk:k<D.length):jaU (jak D 0) k=0:=by
 have:=boatsA_none0 (D:=D) hk
 rw [jaU,List.countP_eq_length_filter,this];rfl
theorem jou {w:Nat} (hk:k<D.length):jaU (jak D (w+1)) k=(jak (D.eraseIdx k) w).length:=by
 rw [←jiv hk,List.length_map,jaU,List.countP_eq_length_filter]
theorem filter_one: ∀{l:List Int},l.Nodup→ ∀{v:Int},v∈l→l.filter (fun u=>decide (u=v))=[v]
 |[],_,_,h=>by simp at h
 |a::l,hn,v,h=>by
  have hn':=List.nodup_cons.1 hn
  by_cases e:a=v
  ·subst e
   have:l.filter (fun u=>decide (u=a))=[]:=List.filter_eq_nil_iff.2 fun u hu e=>hn'.1 (of_decide_eq_true e▸hu)
   simp [this]
  ·have hv:v∈l:=by
    rcases List.mem_cons.1 h with h|h
    ·exact absurd h.symm e
    ·exact h
   rw [List.filter_cons,if_neg (by simpa using e),filter_one hn'.2 hv]
theorem count_keep (k:Nat) (v:Int): ∀L:List Bo,L.countP (fun x=>keepV (fun u=>decide (u=v)) (xA x k))=jcy L k v+jaU L k
 |[]=>rfl
 |x::L=>by
  have ih:=count_keep k v L
  unfold jcy jaU at ih⊢
  rw [List.countP_cons,List.countP_cons,List.countP_cons,ih];rcases h:xA x k with _|u
  ·simp [keepV]
   omega
  ·by_cases e:u=v<;>simp [keepV,e]<;>omega
theorem put_len {w:Nat} (hk:k<D.length) (hn:(dA D k).can.Nodup) (hv:v∈(dA D k).can):(jak (setCan D k [v]) w).length=jcy (jak D w) k v+jaU (jak D w) k:=by
 have e:=boatsA_setCan (q:=fun u=>decide (u=v)) (w:=w) hk
 rw [filter_one hn hv] at e
 rw [e,←List.countP_eq_length_filter,count_keep]
theorem jpy {α:Type} (f g:α→Nat): ∀l:List α,(l.map fun a=>f a+g a).sum=(l.map f).sum+(l.map g).sum
 |[]=>rfl
 |a::l=>by simp only [List.map_cons,List.sum_cons,jpy f g l];omega
theorem ji8 {α:Type}: ∀l:List α,(l.map fun _=>0).sum=0
 |[]=>rfl
 |a::l=>by simp [ji8 l]
theorem jmV {K:List Int} (hK:K.Nodup) (k:Nat): ∀{L:List Bo},(∀x∈L,∀v,xA x k=some v→v∈K)→L.length=jaU L k+(K.map (jcy L k)).sum
 |[],_=>by
  have:K.map (jcy [] k)=K.map fun _=>0:=List.map_congr_left fun _ _=>rfl
  rw [this,ji8];rfl
 |x::L,h=>by
  have ih:=jmV hK k (L:=L) fun y hy=>h y (List.mem_cons_of_mem _ hy)
  have e:K.map (jcy (x::L) k)=K.map fun v=>jcy L k v+if xA x k=some v then 1 else 0:=by
   refine List.map_congr_left fun v _=>?_
   unfold jcy
   rw [List.countP_cons];simp
  rw [e,jpy,List.length_cons,jaU,List.countP_cons];unfold jaU at ih
  rcases hx:xA x k with _|u
  ·have h0:(K.map fun v=>if (none:Option Int)=some v then 1 else 0)=K.map fun _=>0:=List.map_congr_left fun _ _=>by simp
   rw [h0,ji8];simp only [Option.isNone_none,if_true]
   omega
  ·have h1:=jpv u 1 hK
   rw [if_pos (h x zS u hx)] at h1
   have h0:(K.map fun v=>if some u=some v then 1 else 0)=K.map fun v=>if u=v then 1 else 0:=List.map_congr_left fun _ _=>by simp
   rw [h0,h1,if_neg zS];omega
theorem mem_canB {w:Nat} {x:Bo} (hx:x∈jak D w) (e:xA x k=some v):v∈(dA D k).can:=(jcv.1 (jaL.1 hx).1).2.1 k v e
theorem jpe {w:Nat} (hn:(dA D k).can.Nodup):(jak D w).length=jaU (jak D w) k+((dA D k).can.map (jcy (jak D w) k)).sum:=
 jmV hn k fun _ hx _ e=>mem_canB hx e
theorem cntV_pos {L:List Bo}:0<jcy L k v↔ ∃x∈L,xA x k=some v:=by
 unfold jcy
 rw [List.countP_pos_iff];simp
theorem mem_canC {L:List Bo}:v∈jck D L k↔v∈(dA D k).can∧0<jcy L k v:=by
 unfold jck
 rw [List.mem_filter,cntV_pos];simp
theorem cntV_le (L:List Bo) (k:Nat) (v:Int):jcy L k v+jaU L k≤L.length:=by
 rw [←count_keep];exact List.countP_le_length
theorem dA_mem (h:i<D.length):dA D i∈D:=by
 unfold dA
 rw [List.getD_eq_getElem?_getD,List.getElem?_eq_getElem h];exact List.getElem_mem h
def shf (i j:Nat):Nat:=if j<i then j else j+1
theorem getD_erase {α:Type} (l:List α) (d:α) (i j:Nat):(l.eraseIdx i).getD j d=l.getD (shf i j) d:=by
 rw [List.getD_eq_getElem?_getD,List.getD_eq_getElem?_getD,List.getElem?_eraseIdx,shf];split<;>rfl
end Go.Lo
namespace Go.Proofs
open Go.Lo
open Go.Conc (G)
section
theorem f35_c (m:Md Tryz.prog B) (h:Hp) {c:Nat} {xs:List Int} (x:Int) (rd:RdS B h 1 (.slice p n c) n (jaI xs)) (hn:n≤1000000):FnC m 35 #[.slice p n c,.int .i64 x] h fun v h'=>h'=h∧IsB (x∈xs) v:=by
 have hl:=rd.ilen
 refine jaf Tryz.func35 rfl rfl (l:=(.slice p n c)::(.int .i64 x)::uu16) rfl ?_
 intro cf cs K hK
 refine Z10 ?_
 refine jai (fun nn l h'=> ∃(k:Nat),nn=n-k∧(k≤n)∧(∀i,i<k→xs.getD i 0≠x)∧(∃U:Nat→Value,l=((.slice p n c)::(.int .i64 x)::(U 2)::(U 3)::(U 4)::(.int .i64 (k:Int))::vw12 U 6 []))∧h=h') _ ⟨0,rfl,by omega,by omega,exU rfl,rfl⟩ ?_;rintro nn l h' ⟨k,rfl,hk,he,⟨U,rfl⟩,rfl⟩ hnext;refine Z6 ?_
 refine jao rfl zq (fun hc=>?_) (fun hc=>?_)
 ·refine Z9 ?_
  obtain ⟨rd_b,rd_o,rfl⟩:=rd.ptr zO
  refine D0 ?_;refine jaW rfl zq (rd.iat k zO zO) ?_;refine Zs ?_
  refine jaS rfl zq (fun hc=>?_) (fun hc=>?_)
  ·refine Z7 ?_;refine jad (h) rfl Tryz.func35 rfl jab ?_;refine Zs ?_
   exact E73
  ·refine Z9 ?_
   exact m.weak jab (hnext _ _ _ zO ⟨k+1,rfl,by omega,fun i hi=>by
    rcases Nat.lt_or_ge i k with h1|h1
    ·exact he i h1
    ·obtain rfl:i=k:=by omega
     assumption,exU rfl,rfl⟩)
 ·refine Z8 ?_;refine jad (h) rfl Tryz.func35 rfl jab ?_;refine Zs ?_
  exact ⟨rfl,IsB.no fun e=>by
   obtain ⟨i,h1,h2⟩:=jcU.1 e
   exact he i zO h2⟩
theorem f36_c (m:Md Tryz.prog B) (h:Hp) (x y:Int):FnC m 36 #[.int .i64 x,.int .i64 y] h fun v h'=>h'=h∧v= .int .i64 (if x=0 then 2 else if x=y then 1 else 0):=by
 refine jaf Tryz.func36 rfl rfl (l:=(.int .i64 x)::(.int .i64 y)::uu8) rfl ?_
 intro cf cs K hK
 refine Z8 ?_
 refine jaS rfl zq (fun hc=>?_) (fun hc=>?_)
 ·refine Z7 ?_;refine jad (h) rfl Tryz.func36 rfl jab ?_;refine Zs ?_
  refine ⟨rfl,?_⟩
  first|(rw [if_pos zD];done)|(rw [if_neg zD,if_pos zD];done)|(rw [if_neg zD,if_neg zD];done)
 ·refine Z8 ?_
  refine jaS rfl zq (fun hc=>?_) (fun hc=>?_);refine Z2 ?_
  rotate_left
  refine Z3 ?_
  all_goals
   refine Z5 ?_;refine jad (h) rfl Tryz.func36 rfl jab ?_;refine Zs ?_
   refine ⟨rfl,?_⟩
   first|(rw [if_pos zD];done)|(rw [if_neg zD,if_pos zD];done)|(rw [if_neg zD,if_neg zD];done)
end
section
variable [LaidO B]
theorem fits_iff {v:List Int}:jcr v n=true↔ ∀j,j<3→(v.getD j 0<0∨v.getD j 0=(jbr n).getD j 0):=by
 rw [jcr,List.all_eq_true];exact E74
theorem ixN (hi:i<3):([.int .i64 ((n:Int)/96),.int .i64 ((n:Int)/8%12),.int .i64 ((n:Int)%8)]:List Value)[0+((i:Nat):Int).toNat*1]?=some (.int .i64 ((jbr n).getD i 0)):=by
 rcases (by omega:i=0∨i=1∨i=2) with rfl|rfl|rfl<;>rfl
theorem f101_c (m:Md Tryz.prog B) (h:Hp) {c:Nat} {v:List Int} (rd:RdS B h 1 (.slice p 3 c) 3 (jaI v)) (n:Nat) (hn:n<960):FnC m 101 #[.slice p 3 c,.int .i64 (n:Int)] h fun w h'=>h'=h∧IsB (jcr v n=true) w:=by
 refine jaf Tryz.func101 rfl rfl (l:=(.slice p 3 c)::(.int .i64 (n:Int))::uu33) rfl ?_
 intro cf cs K hK
 refine Z7 ?_;refine jfc n 96 rfl zq rfl rfl zO zO ?_;refine Zs ?_;refine jfc n 8 rfl zq rfl rfl zO zO ?_;refine jcp (a:=n/8) (b:=12) rfl zq zO ?_;refine Zs ?_;refine jcp (a:=n) (b:=8) rfl zq zO ?_
 refine jdk kdq rfl zq zA zA rfl (fun q14=>jau (jae ?_));refine Z8 ?_
 refine jai (fun nn l h'=> ∃(i:Nat),nn=3-i∧(i≤3)∧(∀j,j<i→(v.getD j 0<0∨v.getD j 0=(jbr n).getD j 0))∧(∃U:Nat→Value,l=((.slice p 3 c)::(.int .i64 (n:Int))::(U 2)::(U 3)::(U 4)::(.slice (some ⟨q14,0,none⟩) 3 3)::(.int .i64 (i:Int))::(U 7)::vw27 U 8 []))∧h++[⟨true,q14,.cells [.int .i64 ((n:Int)/96),.int .i64 ((n:Int)/8%12),.int .i64 ((n:Int)%8)].toArray 3 (0,0)⟩]=h') _ ⟨0,rfl,by omega,fun j hj=>absurd hj zO,exU rfl,rfl⟩ ?_;rintro nn l h' ⟨i,rfl,hi,hft,⟨U,rfl⟩,rfl⟩ hnext;refine Z4 ?_
 refine jao rfl zq (fun hc=>?_) (fun hc=>?_)
 ·refine Z6 ?_
  obtain ⟨b0,o0,rfl⟩:=rd.ptr zO
  refine jar [Zp 0,Zp 1,Zp 2,Zr 3,Zp 4,Zp 5,Zp 6,Zp 7,Zp 8,Zp 10,Zp 11,Zp 12,Zr 9,Zr 13,Zp 14,Zp 15] zK zK (List.Sublist.refl _) ?_;refine Z2 ?_;refine D12 ?_;refine jaW rfl zq (rd.iat i zO zO) ?_;refine jcH rfl zq (fun hc=>?_) (fun hc=>?_)
  ·refine Z3 ?_;refine jcq rfl rfl rfl zO zO ?_;refine Z2 ?_;refine jcq rfl rfl rfl zO zO ?_;refine jaW rfl rfl (rd.iat i zO zO) ?_;refine jaW (v:= .int .i64 ((jbr n).getD i 0)) rfl rfl (Rd.held (Has.mem (b:=q14)) (by have:=ixN (n:=n) (i:=i) zO;simpa using this)) ?_
   refine jbK rfl rfl (fun hc=>?_) (fun hc=>?_)
   ·refine Z8 ?_;refine jad (h) rfl Tryz.func101 rfl jab ?_;refine Zs ?_
    first
     |exact E75
     |exact E76
   ·refine Z10 ?_
    exact m.weak jab (hnext _ _ _ zO ⟨i+1,rfl,by omega,fun j hj=>by
     by_cases e:j<i
     ·exact hft j e
     ·obtain rfl:j=i:=by omega
      omega,exU rfl,rfl⟩)
  ·refine Z20 ?_
   exact m.weak jab (hnext _ _ _ zO ⟨i+1,rfl,by omega,fun j hj=>by
    by_cases e:j<i
    ·exact hft j e
    ·obtain rfl:j=i:=by omega
     omega,exU rfl,rfl⟩)
 ·refine Z8 ?_;refine jad (h) rfl Tryz.func101 rfl jab ?_;refine Zs ?_
  first
   |exact E75
   |exact E76
theorem f32_c (m:Md Tryz.prog B) (h:Hp) (s:Str) (hl:s.length≤100000):FnC m 32 #[str s] h fun w h'=> ∃new,h'=h++new∧OwnS 3 1 w (jbl s).length (jaI (jbl s)) new:=by
 refine jaf Tryz.func32 rfl rfl (l:=(str s)::uu26) rfl ?_
 intro cf cs K hK
 refine Z7 ?_;refine jaD rfl zq zK (Post:=fun v new=> ∃w,OwnS 3 1 w (joZ s).length (jaI (joZ s)) new∧v= .tuple [w,.bool (ja6 s)].toArray) (fun H' hH=>juf m H' s hl) ?_
 rintro v n1 ⟨w1,o1,rfl⟩;refine jaH (jae ?_);obtain ⟨p1,c1,rfl,hc1,r1⟩:=jav (B:=B) o1
 refine Z7 ?_
 cases hfo:ja6 s
 rotate_left
 have hls:joZ s=jal s:=by rw [joZ,if_pos hfo]
 have hll:(joZ s).length=3:=by rw [hls];exact (jbi s).len
 rw [hls] at r1
 have h3:=(jbi s).len
 all_goals
  refine Z9 ?_
 ·rw [hll];refine jai (fun nn l h'=> ∃(k:Nat) (wp:Option Addr) (wc:Nat) (M:Hp),nn=960-k∧(k≤960)∧(OwnS 3 1 (.slice wp (jfv (jal s) k).length wc) (jfv (jal s) k).length (jaI (jfv (jal s) k)) M)∧(∃U:Nat→Value,l=((str s)::(U 1)::(U 2)::(.slice p1 3 c1)::(.bool true)::(.slice wp (jfv (jal s) k).length wc)::(.int .i64 (k:Int))::jr6 U 7 []))∧h++n1++M=h') _ ⟨0,none,0,[],rfl,by omega,OwnS.nil,exU rfl,zS⟩ ?_;rintro nn l h' ⟨k,wp,wc,M,rfl,hk,how,⟨U,rfl⟩,rfl⟩ hnext;have hml:=jl4 (jal s) k
  refine Z2 ?_
  skip
  ·refine Z2 ?_
   refine jcn rfl zq (fun hc=>?_) (fun hc=>?_)
   ·refine Z12 ?_;refine jag (Post:=fun v=>IsB _ v) rfl zq zK (fun H' hH=>f101_c m H' (c:=c1) (p:=p1) ((h3▸r1).keeps (sq hH)) k zO) ?_
    rintro v (⟨hc,rfl⟩|⟨hc,rfl⟩);refine Z6 ?_
    refine jdk kdq rfl zq zA zA rfl (fun q24=>jau (jae ?_));refine jbL rfl zq rfl how kdq zO zO (fun w9 n9 o9=>jae ?_);obtain ⟨p9,c9,rfl,hc9,r9⟩:=jav (B:=B) o9
    refine Z2 ?_
    rotate_left
    refine Z4 ?_
    all_goals
     refine Z6 ?_
    ·have hks:jfv (jal s) (k+1)=jfv (jal s) k:=by rw [jeO,if_neg hc,List.append_nil]
     rw [←hks];exact E19
    ·have hks:jfv (jal s) (k+1)=jfv (jal s) k++[(k:Int)]:=by rw [jeO,if_pos hc]
     have hkl:(jfv (jal s) (k+1)).length=(jfv (jal s) k).length+1:=by rw [hks];simp
     rw [←hkl];exact E20
   ·refine Z12 ?_;refine jad (h++M) rfl Tryz.func32 rfl jab ?_;refine Zs ?_
    obtain rfl:k=960:=by omega
    exact ⟨M,rfl,by rw [jbl,hfo];exact how⟩
 ·refine jai (fun nn l h'=> ∃(k:Nat),nn=0-k∧(k≤0)∧(∃U:Nat→Value,l=((str s)::(U 1)::(U 2)::(U 3)::(.bool false)::(.slice none 0 0)::(.int .i64 (k:Int))::jr6 U 7 []))∧h++n1=h') _ ⟨0,rfl,by omega,exU rfl,rfl⟩ ?_;rintro nn l h' ⟨k,rfl,hk,⟨U,rfl⟩,rfl⟩ hnext;refine Z2 ?_
  skip
  ·refine Z2 ?_
   refine jcn rfl zq (fun hc=>?_) (fun hc=>?_);refine Z3 ?_
   rotate_left
   refine Z3 ?_
   all_goals
    refine Z9 ?_;refine jad (h) rfl Tryz.func32 rfl jab ?_;refine Zs ?_
    exact ⟨[],by simp,by rw [jbl,hfo];exact OwnS.nil⟩
end
section
variable [LaidO B]
theorem wrap8 (n:Nat) (h:n<10):IntKind.u8.wrap (48+(n:Int))=((UInt8.ofNat (48+n)).toNat:Int):=by
 have: ∀n<10,IntKind.u8.wrap (48+((n:Nat):Int))=((UInt8.ofNat (48+n)).toNat:Int):=by decide
 exact this n h
theorem dig_len (n:Nat):(jdj n).length≤2:=by unfold jdj;split<;>simp
theorem figN_eq (n:Nat):jce n=jdj (n/96)++[45]++jdj (n/8%12)++[45]++jdj (n%8):=by
 have h (k:Nat):jaG ((k:Nat):Int)=jdj k:=by rw [jaG,if_neg zO,Int.toNat_natCast]
 rw [jce,jcJ,jbr];simp only [List.map,h]
 simp [jl9]
theorem rd_one {q:Nat} {rw:Bool} {f:Nat×Nat} {c:UInt8} [x:Has h q rw (.cells [.int .u8 (c.toNat:Int)].toArray t f)]:RdN B h q 0 ([c].map jbV):=fun j hj=>by
 obtain rfl:j=0:=by simpa using hj
 exact Rd.held x.mem rfl
theorem f102s_c (m:Md Tryz.prog B) (h:Hp) (n:Nat) (hn:n<10):FnC m 102 #[.int .i64 (n:Int)] h fun v h'=>h'=h∧v=str (jdj n):=by
 refine jaf Tryz.func102 rfl rfl (l:=(.int .i64 (n:Int))::jpn) rfl ?_
 intro cf cs K hK
 refine Z8 ?_
 refine jao rfl zq (fun hc=>?_) (fun hc=>?_)
 ·refine Z3 ?_
  omega
 ·refine Z7 ?_
  refine jao rfl zq (fun hc=>?_) (fun hc=>?_)
  ·refine Z6 ?_;refine jbg (n':=((UInt8.ofNat (48+n)).toNat:Int)) rfl zq zK (wrap8 _ zO) ?_
   refine jdk kdq rfl zq zA zA rfl (fun q13=>jau (jae ?_));refine k_b2s (s:=[UInt8.ofNat (48+n)]) rfl zq jfo zK jgR rfl rd_one ?_;refine Z3 ?_;refine jad (h) rfl Tryz.func102 rfl jab ?_;refine Zs ?_;exact ⟨rfl,by rw [jdj,if_pos hn]⟩
  ·refine Z4 ?_
   omega
theorem f102_c (m:Md Tryz.prog B) (h:Hp) (n:Nat) (hn:n<100):FnC m 102 #[.int .i64 (n:Int)] h fun v h'=>h'=h∧v=str (jdj n):=by
 refine jaf Tryz.func102 rfl rfl (l:=(.int .i64 (n:Int))::jpn) rfl ?_
 intro cf cs K hK
 refine Z8 ?_
 refine jao rfl zq (fun hc=>?_) (fun hc=>?_)
 ·refine Z3 ?_
  omega
 ·refine Z7 ?_
  refine jao rfl zq (fun hc=>?_) (fun hc=>?_)
  ·refine Z6 ?_;refine jbg (n':=((UInt8.ofNat (48+n)).toNat:Int)) rfl zq zK (wrap8 _ zO) ?_
   refine jdk kdq rfl zq zA zA rfl (fun q13=>jau (jae ?_));refine k_b2s (s:=[UInt8.ofNat (48+n)]) rfl zq jfo zK jgR rfl rd_one ?_;refine Z3 ?_;refine jad (h) rfl Tryz.func102 rfl jab ?_;refine Zs ?_;refine ⟨rfl,?_⟩
   first
    |(rw [jdj,if_pos zO,jdj,if_neg zO];rfl)
    |(rw [jdj,if_pos zO];done)
  ·refine Z4 ?_;refine jb3 [0,1,2,3,4,5,6,7,8,9,10] zK zK (List.Sublist.refl _) ?_
   refine DrawT.split 2 7 zA ?_ (DrawT.split 2 8 zA ?_ ?_)
   refine DrawT.leaf [Zp 0,Zp 1,Zp 3,Zp 4,Zp 5,Zp 6,Zk 2,Zk 7,Zk 8,Zp 9,Zp 10] zK ?_;refine Zs ?_;refine jfc n 10 rfl zq rfl rfl zO zO ?_;refine Zs ?_;refine jcp (a:=n) (b:=10) rfl zq zO ?_;refine Zs ?_;refine jbg (n':=((UInt8.ofNat (48+n%10)).toNat:Int)) rfl zq zK (wrap8 _ zO) ?_;refine jag (Post:=fun v=>v=_) rfl zq zK (fun H' hH=>f102s_c m H' (n/10) zO) ?_
   rintro v rfl;refine Zs ?_
   refine jdk kdq rfl zq zA zA rfl (fun q22=>jau (jae ?_));refine k_b2s (s:=[UInt8.ofNat (48+n%10)]) rfl zq jfo zK jgR rfl rd_one ?_;rotate_left
   refine DrawT.leaf [Zp 0,Zp 1,Zp 3,Zp 4,Zp 5,Zp 6,Zk 7,Zk 2,Zk 8,Zp 9,Zp 10] zK ?_;refine Zs ?_;refine jfc n 10 rfl zq rfl rfl zO zO ?_;refine Zs ?_;refine jcp (a:=n) (b:=10) rfl zq zO ?_;refine Zs ?_;refine jbg (n':=((UInt8.ofNat (48+n%10)).toNat:Int)) rfl zq zK (wrap8 _ zO) ?_
   refine jdk kdq rfl zq zA zA rfl (fun q22=>jau (jae ?_));refine jag (Post:=fun v=>v=_) rfl zq zK (fun H' hH=>f102s_c m H' (n/10) zO) ?_;rintro v rfl;refine Zs ?_;refine k_b2s (s:=[UInt8.ofNat (48+n%10)]) rfl zq jfo zK jgR rfl rd_one ?_
   rotate_left
   refine DrawT.leaf [Zp 0,Zp 1,Zp 3,Zp 4,Zp 5,Zp 6,Zk 7,Zk 8,Zk 2,Zp 9,Zp 10] zK ?_;refine Zs ?_;refine jfc n 10 rfl zq rfl rfl zO zO ?_;refine Zs ?_;refine jcp (a:=n) (b:=10) rfl zq zO ?_;refine Zs ?_;refine jbg (n':=((UInt8.ofNat (48+n%10)).toNat:Int)) rfl zq zK (wrap8 _ zO) ?_
   refine jdk kdq rfl zq zA zA rfl (fun q22=>jau (jae ?_));refine k_b2s (s:=[UInt8.ofNat (48+n%10)]) rfl zq jfo zK jgR rfl rd_one ?_;refine jag (Post:=fun v=>v=_) rfl zq zK (fun H' hH=>f102s_c m H' (n/10) zO) ?_;rintro v rfl;refine Zs ?_
   all_goals
    refine k_sadd rfl zq (by have:=dig_len (n/10);simp;omega) ?_;refine Z3 ?_;refine jad (h) rfl Tryz.func102 rfl jab ?_;refine Zs ?_;refine ⟨rfl,?_⟩
    first
     |(rw [jdj,if_pos zO,jdj,if_neg zO];rfl)
     |(rw [jdj,if_pos zO];done)
theorem f34_c (m:Md Tryz.prog B) (h:Hp) (n:Nat) (hn:n<960):FnC m 34 #[.int .i64 (n:Int)] h fun v h'=>h'=h∧v=str (jce n):=by
 refine jaf Tryz.func34 rfl rfl (l:=(.int .i64 (n:Int))::uu16) rfl ?_
 intro cf cs K hK
 refine Z5 ?_;refine jaK [Zf 0,Zf 1,Zf 2,Zf 3,Zf 4,Zf 5,Zf 6,Zf 7,Zf 8,Zf 9,Zf 10,Zf 11,Zf 12,Zf 13,Zf 14] zK zK ?_;refine Zs ?_;refine jfc n 96 rfl zq rfl rfl zO zO ?_;refine jag (Post:=fun v=>v=str (jdj (n/96))) rfl zq zK (fun H' hH=>f102_c m H' (n/96) zO) ?_
 rintro v rfl;refine Zs ?_;refine k_sadd rfl zq (by have:=dig_len (n/96);have:=dig_len (n/8%12);have:=dig_len (n%8);simp;omega) ?_;refine Zs ?_;refine jfc n 8 rfl zq rfl rfl zO zO ?_;refine jcp (a:=n/8) (b:=12) rfl zq zO ?_;refine jag (Post:=fun v=>v=str (jdj (n/8%12))) rfl zq zK (fun H' hH=>f102_c m H' (n/8%12) zO) ?_
 rintro v rfl;refine Zs ?_;refine k_sadd rfl zq (by have:=dig_len (n/96);have:=dig_len (n/8%12);have:=dig_len (n%8);simp;omega) ?_;refine k_sadd rfl zq (by have:=dig_len (n/96);have:=dig_len (n/8%12);have:=dig_len (n%8);simp;omega) ?_;refine Zs ?_;refine jcp (a:=n) (b:=8) rfl zq zO ?_;refine jag (Post:=fun v=>v=str (jdj (n%8))) rfl zq zK (fun H' hH=>f102_c m H' (n%8) zO) ?_
 rintro v rfl;refine Zs ?_;refine k_sadd rfl zq (by have:=dig_len (n/96);have:=dig_len (n/8%12);have:=dig_len (n%8);simp;omega) ?_;refine Z3 ?_;refine jad (h) rfl Tryz.func34 rfl jab ?_;refine Zs ?_
 exact ⟨rfl,by rw [figN_eq]⟩
end
end Go.Proofs
namespace Go.Proofs
open Go.Lo
theorem meaP_asc (p:List Int):Asc (jdJ p):=by
 unfold Asc jdJ
 rw [List.pairwise_map];exact (List.Pairwise.filter _ List.pairwise_lt_range).imp fun h=>by omega
theorem meaS_up (s:Str):Asc (jbl s):=by
 unfold jbl
 split
 ·exact meaP_asc _
 ·exact List.Pairwise.nil
theorem asc_nd {l:List Int} (h:Asc l):l.Nodup:=List.Pairwise.imp (fun h=>by omega) h
theorem meaS_rng {s:Str} (h:v∈jbl s):0≤v∧v≤959:=by
 unfold jbl at h
 split at h
 ·unfold jdJ at h
  obtain ⟨n,hn,rfl⟩:=List.mem_map.1 h
  have:=List.mem_range.1 (List.mem_filter.1 hn).1
  omega
 ·cases h
section
theorem cell_at (hi:i<(jaa b).length):jbO b ((jaa b).getD i default)=true∧jbo b ((jaa b).getD i default)≠jbG:=jaA (jah hi)
theorem canNd_cdT (b:Tb):canNd (cdT b):=fun d hd=>by
 obtain ⟨c,_,rfl⟩:=List.mem_map.1 hd
 exact asc_nd (meaS_up _)
theorem can_at (hi:i<(jaa b).length):(dA (cdT b) i).can=jbl (jbo b ((jaa b).getD i default)):=by rw [jaF b hi];rfl
end
end Go.Proofs
namespace Go.Proofs
open Go.Lo
open Go.Conc (G)
section
variable [LaidO B]
section
variable {m:Md P B} {S h h' H:Hp}
end
theorem told_eq (n m:Nat):(if (n:Int)=0 then (2:Int) else if (n:Int)=(m:Int) then 1 else 0)=jeH n m:=by
 unfold jeH
 by_cases h:n=0
 ·rw [if_pos h,if_pos zO]
 ·rw [if_neg h,if_neg zO];by_cases h2:n=m
  ·rw [if_pos h2,if_pos zO]
  ·rw [if_neg h2,if_neg zO]
section
theorem fig_sm (sm:TbSm b) (k:TbOk b) {c:Ce} (hc:jbO b c=true):(jbo b c).length≤100000:=by
 have h1:=fig_mem k hc
 have h2:=jbz hc
 unfold jap at h2
 split at h2
 ·exact (sm.but _ h2).2 _ h1
 ·exact (sm.wat _ h2).2 _ h1
theorem figs_rd {lps:List Lp} (hn:1≤n) (k:LsOk n ls) (e:lps.map (·.ln)=ls) (hf: ∀x∈lps,x.ln.figs.length≤x.c∧(0<x.ln.figs.length→RdS B h 1 (.slice x.p x.ln.figs.length x.c) x.ln.figs.length (jaC x.ln.figs))): ∀x∈lps,x.ln.figs.length≤x.c∧RdS B h 1 (.slice x.p x.ln.figs.length x.c) x.ln.figs.length (jaC x.ln.figs):=fun x hx=>by
 have hm:x.ln∈ls:=e▸List.mem_map.2 ⟨x,hx,rfl⟩
 have:=(k.ok _ hm).len
 exact E77
theorem f33_r (m:Md Tryz.prog B) (h:Hp) (ra:RawTb B h b ps ns ks pw nw cw pb nb cb) (k:TbOk b) {c:Ce} (hc:jbO b c=true) (f:Str) (hf:f.length≤100000):FnC m 33 #[tbV b ps ns ks pw nw cw pb nb cb,cV c.butt c.line c.st,str f] h fun v h'=> ∃nz,h'=h++nz∧ ∃pw' cw' pb' cb',v=tbV (jat b c f) ps ns ks pw' nw cw' pb' nb cb'∧RdLn B nz (.slice pw' nw cw') nw (jat b c f).waters∧RdLn B nz (.slice pb' nb cb') nb (jat b c f).butts:=by
 obtain ⟨lw,hlw,rlw,hfw⟩:=ra.w
 obtain ⟨lb,hlb,rlb,hfb⟩:=ra.u
 have hn1:=k.n1
 have hsl:=ra.s.elen zA
 have hfw':=figs_rd hn1 k.waters hlw hfw
 have hfb':=figs_rd hn1 k.butts hlb hfb
 have hh:=jbk.1 hc
 have hll:jap b c.butt=(if c.butt then lb else lw).map (·.ln):=by unfold jap;split;exact hlb.symm;exact hlw.symm
 have hlen:((if c.butt then lb else lw).length:Int)=((jap b c.butt).length:Int):=by rw [hll,List.length_map]
 have hfl:((if c.butt then lb else lw).getD c.line.toNat default).ln.figs.length=b.sts.length:=by
  have e1:(jaT b c)=((if c.butt then lb else lw).getD c.line.toNat default).ln:=by
   rw [jaT,hll,ja1 _ _ zO]
  rw [←e1];exact E78
 refine CallF.mono (f33_c m h (b:=b) rlw rlb ra.wn ra.un hfw' hfb' (by rw [hlw];exact fun l hl=>(ra.sm.wat l hl).1) (by rw [hlb];exact fun l hl=>(ra.sm.but l hl).1) c.butt c.line c.st f hh.1 (by rw [hlen];exact hh.2.1) hh.2.2.1 (by rw [hfl];exact hh.2.2.2)) ?_
 rintro v h' ⟨nz,pw',cw',pb',cb',e1,e2,e3,e4⟩;refine ⟨nz,e1,pw',cw',pb',cb',by rw [e2,tbV,tbV,tbL,tbL,setF_wrong],?_,?_⟩
 ·rw [hlw] at e3
  unfold jat
  cases hb:c.butt
  ·rw [hb] at e3
   exact e3
  ·rw [hb] at e3
   exact e3
 ·rw [hlb] at e4
  unfold jat
  cases hb:c.butt
  ·rw [hb] at e4
   exact e4
  ·rw [hb] at e4
   exact e4
theorem raw_set {nz:Hp} {cw':Nat} {cb':Nat} (ra:RawTb B h b ps ns ks pw nw cw pb nb cb) (sm:TbSm b) {c:Ce} (hf:f.length≤100000) (e1:RdLn B nz (.slice pw' nw cw') nw (jat b c f).waters) (e2:RdLn B nz (.slice pb' nb cb') nb (jat b c f).butts) (s1:h.Sublist H) (s2:nz.Sublist H):RawTb B H (jat b c f) ps ns ks pw' nw cw' pb' nb cb':=
 ⟨by rw [(jbF b c f).1];exact ra.s.keeps s1,ra.sc,ra.sn,e1.keeps s2,ra.wn,e2.keeps s2,ra.un,jjk sm hf⟩
theorem jsZ (ra:RawTb B h b ps ns ks pw nw cw pb nb cb) (w:Int):RawTb B h {b with wrong:=w} ps ns ks pw nw cw pb nb cb:=⟨ra.s,ra.sc,ra.sn,ra.w,ra.wn,ra.u,ra.un,⟨ra.sm.sts,ra.sm.wat,ra.sm.but⟩⟩
end
theorem ok_wrong (k:TbOk b) {w:Int} (h0:0≤w) (h2:w≤2):TbOk {b with wrong:=w}:=⟨⟨h0,h2⟩,k.n1,k.n3,k.names,k.waters,k.butts,k.smu⟩
theorem juB (b:Tb) (w:Int):cdT {b with wrong:=w}=cdT b:=rfl
theorem jrQ (k:TbOk b) (hi:i<(jaa b).length) (hw:0<b.wrong):(jac {jat b ((jaa b).getD i default) jbG with wrong:=b.wrong-1}).length=jaU (jac b) i:=by
 have hi':i<(cdT b).length:=by rw [jaq];exact hi
 unfold jac
 rw [juB,cdT_drop k hi];show (jak ((cdT b).eraseIdx i) (b.wrong-1).toNat).length=_
 rw [←jou hi',show (b.wrong-1).toNat+1=b.wrong.toNat by omega]
theorem boats_put (k:TbOk b) (hi:i<(jaa b).length) (hv:v∈jbl (jbo b ((jaa b).getD i default))) (hf:jbl f=[v]) (hd:f≠jbG):(jac (jat b ((jaa b).getD i default) f)).length=jcy (jac b) i v+jaU (jac b) i:=by
 have hi':i<(cdT b).length:=by rw [jaq];exact hi
 unfold jac
 rw [cdT_put k hi hd,setF_wrong,hf];exact put_len hi' (canNd_cdT b _ (dA_mem hi')) (by rw [can_at hi];exact hv)
theorem juE (hi:i<(jaa b).length):(jac b).length=jaU (jac b) i+((jbl (jbo b ((jaa b).getD i default))).map (jcy (jac b) i)).sum:=by
 have hi':i<(cdT b).length:=by rw [jaq];exact hi
 rw [←can_at hi];exact jpe (canNd_cdT b _ (dA_mem hi'))
theorem f28_w (m:Md Tryz.prog B) (h:Hp) {c:Ce} (ra:RawTb B h (jat b c jbG) ps ns ks pw nw cw pb nb cb) (ok:TbOk b) (hk:k<(jaa b).length) (hcx:c=(jaa b).getD k default) (hw0:0<b.wrong):
  FnC m 28 #[.agg [.int .i64 (b.wrong-1),.slice ps ns ks,.slice pw nw cw,.slice pb nb cb].toArray] h fun v h'=>h'=h∧v= .tuple [.int .i64 (jaU (jac b) k:Int),.int .i64 0].toArray:=by
 have hht:jbO b c=true:=hcx▸(cell_at hk).1
 have hwr:=ok.wrong
 have hok:TbOk {jat b c jbG with wrong:=b.wrong-1}:=ok_wrong (setF_ok_drop ok hht) zO zO
 have hzo:=jaN.2 hok
 have hbo:(jac {jat b c jbG with wrong:=b.wrong-1}).length=jaU (jac b) k:=by rw [hcx];exact jrQ ok hk hw0
 have:=f28_c m h (jsZ ra (b.wrong-1))
 rw [if_pos hzo,hzo,hbo] at this
 exact this
theorem f31_c (m:Md Tryz.prog B) (h:Hp) (ra:RawTb B h b ps ns ks pw nw cw pb nb cb) (ok:TbOk b) (hk:k<(jaa b).length) {c:Ce} (hcx:c=(jaa b).getD k default):FnC m 31 #[tbV b ps ns ks pw nw cw pb nb cb,cV c.butt c.line c.st] h fun v h'=>h'=h∧v= .tuple [.int .i64 (jaU (jac b) k:Int),.bool true].toArray:=by
 have hht:jbO b c=true:=hcx▸(cell_at hk).1
 have hwr:=ok.wrong
 refine jaf Tryz.func31 rfl rfl (l:=(tbV b ps ns ks pw nw cw pb nb cb)::(cV c.butt c.line c.st)::uu29) rfl ?_
 intro cf cs K hK
 refine Z2 ?_
 refine jaX rfl zq (fun q1=>jau (jae ?_));refine jaX rfl zq (fun q3=>jau (jae ?_));refine Z8 ?_
 refine jaS rfl zq (fun hc=>?_) (fun hc=>?_);have hw0:=hc
 refine Z4 ?_
 rotate_left
 have hw0:0<b.wrong:=by have:=ok.wrong;omega
 refine Z7 ?_;refine jaD rfl zq zK (Post:=fun v nz=> ∃pw' cw' pb' cb',v=tbV (jat b c jbG) ps ns ks pw' nw cw' pb' nb cb'∧RdLn B nz (.slice pw' nw cw') nw (jat b c jbG).waters∧RdLn B nz (.slice pb' nb cb') nb (jat b c jbG).butts) (fun H' hH=>f33_r m H' (ra.keeps (sq hH)) ok hht jbG zA) ?_
 rintro v nz ⟨pw',cw',pb',cb',rfl,ew,eb⟩;refine jaH (jae ?_);refine jax rfl zq (fun q6=>jau (jae ?_));refine D6 ?_;refine Z7 ?_;refine D9 ?_;refine Z4 ?_;refine jag (Post:=fun v=>v= .tuple [.int .i64 (jaU (jac b) k:Int),.int .i64 0].toArray) rfl zq zK (fun H' hH=>f28_w m H' (raw_set ra ra.sm zA ew eb (sq hH) (sq hH)) ok hk hcx hw0) ?_
 rintro v rfl;refine Z11 ?_;refine jbn rfl zq rfl ?_;refine Z2 ?_;refine k_geqT rfl rfl zO ?_;refine Zs ?_
 all_goals
  refine Z4 ?_;refine jad (h) rfl Tryz.func31 rfl jab ?_;refine Zs ?_
 ·exact ⟨rfl,rfl⟩
 ·exact ⟨rfl,by rw [show jaU (jac b) k=0 from by unfold jac;rw [hw0];exact wrongN_zero (by rw [jaq];exact hk)];rfl⟩
end
end Go.Proofs
namespace Go.Lo
open Go.Proofs
theorem fig_check:((List.range 960).all fun n=>ja6 (jce n)&&decide (jal (jce n)=jbr n))=true:=by kernel_rfl
theorem fig_parts (h:n<960):ja6 (jce n)=true∧jal (jce n)=jbr n:=by
 have:=List.all_eq_true.1 fig_check n (List.mem_range.2 h)
 simpa using this
theorem fits_self {m:Nat} (hn:n<960) (hm:m<960):jcr (jbr n) m=decide (m=n):=by
 have h3:List.range 3=[0,1,2]:=rfl
 rw [jcr,h3];by_cases e:m=n
 ·subst e
  simp
 ·rw [decide_eq_false e,Bool.eq_false_iff];intro h
  simp only [jbr,List.all_cons,List.all_nil,Bool.and_true,Bool.and_eq_true,Bool.or_eq_true,decide_eq_true_iff,List.getD_cons_zero,List.getD_cons_succ] at h
  omega
theorem meaP_full (hn:n<960):jdJ (jbr n)=[(n:Int)]:=by
 have h1:(List.range 960).filter (jcr (jbr n))=[n]:=by
  have h2:(List.range 960).filter (jcr (jbr n))=(List.range 960).filter (fun m=>decide (m=n)):=List.filter_congr fun m hm=>fits_self hn (List.mem_range.1 hm)
  rw [h2];have h3:(List.range 960).filter (fun m=>decide (m=n))=List.replicate ((List.range 960).count n) n:=by
   rw [←List.filter_beq];exact List.filter_congr fun m _=>by rw [Bool.beq_eq_decide_eq]
  rw [h3,List.nodup_range.count,if_pos (List.mem_range.2 hn)];rfl
 rw [jdJ,h1];rfl
theorem meaS_fig (hn:n<960):jbl (jce n)=[(n:Int)]:=by
 obtain ⟨h1,h2⟩:=fig_parts hn
 rw [jbl,if_pos h1,h2,meaP_full hn]
def gp (n b i:Nat):Str:=if b.testBit i then [63] else (jfw (jce n) 45).getD i []
theorem meaS_in {s:Str} {z:Int} (h:z∈jbl s):0≤z∧z≤959:=by
 unfold jbl at h
 split at h
 ·rw [jdJ] at h
  obtain ⟨k,hk,rfl⟩:=List.mem_map.1 h
  have:=List.mem_range.1 (List.mem_filter.1 hk).1
  omega
 ·cases h
end Go.Lo
namespace Go.Proofs
open Go.Lo
open Go.Conc (G)
section
variable [LaidO B]
theorem figN_smu (h:n<960):jb0 (jce n)=0:=by
 rw [jb0,(fig_parts h).2,List.countP_eq_zero];intro x hx
 simp only [jbr,List.mem_cons,List.not_mem_nil,or_false] at hx
 rw [decide_eq_true_eq];omega
theorem figN_ok (h:n<960):jbx (jce n)=true:=by rw [jbx,(fig_parts h).1];rfl
theorem figN_dash (h:n<960):jce n≠jbG:=fun e=>by
 have:=(fig_parts h).1
 rw [e] at this
 exact absurd this zA
theorem put_ok (k:TbOk b) {c:Ce} (hc:jbO b c=true) (h:n<960):TbOk (jat b c (jce n)):=setF_ok k hc (figN_ok h) (by rw [figN_smu h];have:=k.smu;omega)
theorem fig_short0:((List.range 960).all fun n=>decide ((jce n).length≤9))=true:=by kernel_rfl
theorem figN_len (h:n<960):(jce n).length≤9:=of_decide_eq_true (List.all_eq_true.1 fig_short0 n (List.mem_range.2 h))
theorem open_at (hz:tbS b=0) (hk:k<(jaa b).length) (hne:jac b≠[]):jaJ b (jdv b ((jaa b).getD k default))=0:=jej hz (jg6 hk) hne
theorem open_no (hz:tbS b=0) (hk:k<(jaa b).length) (hne:jac b=[]):jaJ b (jdv b ((jaa b).getD k default))=9:=jlV hz (jg6 hk) hne
theorem canL_at (hz:tbS b=0) (hk:k<(jaa b).length) (hne:jac b≠[]):jeu b ((jaa b).getD k default)=jck (cdT b) (jac b) k:=by rw [jeu,if_pos (open_at hz hk hne),jgr hk]
theorem canL_no (hz:tbS b=0) (hk:k<(jaa b).length) (hne:jac b=[]):jeu b ((jaa b).getD k default)=[]:=by rw [jeu,if_neg (by rw [open_no hz hk hne];decide)]
theorem meaS_nat {s:Str} (hj:j<(jbl s).length): ∃n:Nat,n<960∧(jbl s).getD j 0=(n:Int)∧(n:Int)∈jbl s:=by
 have hm:(jbl s).getD j 0∈jbl s:=by rw [List.getD_eq_getElem?_getD,List.getElem?_eq_getElem hj];exact List.getElem_mem hj
 have:=meaS_rng hm
 exact E79
theorem f28_p (m:Md Tryz.prog B) (h:Hp) {c:Ce} (hn:n<960) (ra:RawTb B h (jat b c (jce n)) ps ns ks pw nw cw pb nb cb) (ok:TbOk b) (hk:k<(jaa b).length) (hcx:c=(jaa b).getD k default) (hv:(n:Int)∈jbl (jbo b c)):
  FnC m 28 #[tbV (jat b c (jce n)) ps ns ks pw nw cw pb nb cb] h fun v h'=>h'=h∧v= .tuple [.int .i64 (jcy (jac b) k (n:Int)+jaU (jac b) k:Nat),.int .i64 0].toArray:=by
 have hht:jbO b c=true:=hcx▸(cell_at hk).1
 have hzo:=jaN.2 (put_ok ok hht hn)
 have hbo:(jac (jat b c (jce n))).length=jcy (jac b) k (n:Int)+jaU (jac b) k:=by
  subst hcx
  exact boats_put ok hk hv (meaS_fig hn) (figN_dash hn)
 have:=f28_c m h ra
 rw [if_pos hzo,hzo,hbo] at this
 exact this
def jlC (b:Tb) (k j:Nat):Nat:=jaU (jac b) k+(((jbl (jbo b ((jaa b).getD k default))).take j).map (jcy (jac b) k)).sum
theorem jsp (hj:j<(jbl (jbo b ((jaa b).getD k default))).length) (e:(jbl (jbo b ((jaa b).getD k default))).getD j 0=(n:Int)):jlC b k (j+1)=jlC b k j+jcy (jac b) k (n:Int):=by
 rw [jlC,jfB _ _ _ hj,jlC,←e];show _+(_+jcy (jac b) k (List.getD _ j default))=_
 rw [show (default:Int)=0 from rfl,Nat.add_assoc]
theorem jpz (hk:k<(jaa b).length):jlC b k (jbl (jbo b ((jaa b).getD k default))).length=(jac b).length:=by
 rw [jlC,List.take_length,←juE hk]
theorem sumK_le (hk:k<(jaa b).length): ∀j,jlC b k j≤(jac b).length:=fun j=>by
 rw [←jpz hk,jlC,jlC,List.take_length];refine Nat.add_le_add_left ?_ _
 have:(jbl (jbo b ((jaa b).getD k default))).map (jcy (jac b) k)=((jbl (jbo b ((jaa b).getD k default))).take j).map (jcy (jac b) k)++((jbl (jbo b ((jaa b).getD k default))).drop j).map (jcy (jac b) k):=by rw [←List.map_append,List.take_append_drop]
 rw [this,List.sum_append];exact Nat.le_add_right _ _
end
section
variable [LaidO B]
theorem f4_t (h:Hp) (rds:RdS B h 1 (.slice ps ns ks) ns (jaC b.sts)) (hcs:ns≤ks) (rdw:RdLn B h (.slice pw nw cw) nw b.waters) (rdb:RdLn B h (.slice pb nb cb) nb b.butts) (y:Nat) (hy:y≤255):(Md.starC Tryz.prog B).R (jie Tryz.prog B fun v _=>v= .bool true) (G (Frame.enter Tryz.prog 4 #[tbV b ps ns ks pw nw cw pb nb cb,.int .u8 (y:Int)] .normal) []) h:=by
 refine jeb Tryz.func4 rfl rfl (l:=[tbV b ps ns ks pw nw cw pb nb cb,.int .u8 (y:Int),undef,undef,undef,undef,undef,undef,undef,undef,undef,undef,undef,undef,undef,undef,undef,undef,undef,undef,undef,undef,undef,undef,undef,undef,undef,undef,undef,undef,undef,undef,undef,undef,undef,undef,undef,undef,undef,undef,undef,undef,undef,undef,undef,undef,undef,undef,undef,undef,undef,undef,undef,undef,undef,undef,undef,undef,undef,undef,undef,undef,undef,undef,undef,undef,undef,undef,undef,undef,undef,undef,undef,undef,undef,undef,undef,undef,undef,undef,undef,undef,undef,undef,undef,undef,undef,undef,undef,undef,undef,undef,undef,undef,undef,undef,undef,undef,undef,undef,undef,undef,undef,undef,undef,undef,undef,undef,undef,undef,undef,undef,undef,undef,undef,undef,undef,undef,undef,undef,undef,undef,undef,undef,undef,undef,undef,undef,undef,undef,undef,undef,undef,undef,undef,undef,undef,undef,undef,undef,undef,undef,undef,undef,undef,undef,undef,undef,undef,undef,undef,undef,undef,undef,undef,undef,undef,undef,undef,undef,undef,undef,undef,undef,undef,undef,undef,undef,undef,undef]) rfl ?_;refine Z2 ?_
 refine jaX rfl zq (fun q1=>jau (jae ?_));refine Z6 ?_;refine jag (Post:=fun v=>IsB _ v) rfl zq zK (fun H' hH=>f25_c _ H' (rds.keeps (sq hH)) hcs (rdw.keeps (sq hH)) (rdb.keeps (sq hH))) ?_
 rintro v (⟨hc,rfl⟩|⟨hc,rfl⟩)
 ·refine Zs ?_
  have hfit:=hc
  have ra:=jjs rds hcs rdw rdb hfit.1
  have hz:=hfit.2
  have ok:=jaN.1 hz
  have rd:=ra.rd ok
  have h12:=jbH ok
  have hbl:=jbC ok
  refine Z3 ?_;refine jaD rfl rfl zK (Post:=fun w new=>OwnS 37 3 w (jaa b).length (jaC (jaa b)) new) (fun H' hH=>f26_c _ H' (rd.keeps (sq hH))) ?_
  rintro w n27 o27;refine jaH (jae ?_);obtain ⟨p27,c27,rfl,hc27,r27⟩:=jav (B:=B) o27
  refine Zs ?_
  refine jaS rfl rfl (fun hc=>?_) (fun hc=>?_)
  ·refine Z5 ?_;refine ja7 rfl zq zK (f20_c _) ?_
   rintro v h' ⟨nF,rfl,rfl⟩;refine Z4 ?_;refine jbw rfl Tryz.func4 zK rfl ?_
   rfl
  ·refine Z7 ?_;refine jaD rfl zq zK (Post:=fun w new=>OwnS 37 3 w (jaa b).length (jaC (jaa b)) new) (fun H' hH=>f26_c _ H' (rd.keeps (sq hH))) ?_
   rintro w n33 o33;refine jaH (jae ?_);obtain ⟨p33,c33,rfl,hc33,r33⟩:=jav (B:=B) o33
   refine Z6 ?_;refine jbg rfl zq zK (n':=(y:Int)) zL ?_;refine Z2 ?_;refine jcp rfl zq zO ?_
   obtain ⟨k,hkx⟩: ∃k,k=y%(jaa b).length:=⟨_,rfl⟩
   rw [←hkx];have hk:k<(jaa b).length:=hkx▸Nat.mod_lt _ zO
   obtain ⟨b33,o33_,rfl⟩:=r33.ptr zO
   refine D12 ?_;refine jc5 (vs:=[.bool ((jaa b).getD k default).butt,.int .i64 ((jaa b).getD k default).line,.int .i64 ((jaa b).getD k default).st]) rfl zq rfl (r33.eat k zO zO) ?_
   obtain ⟨c,hcx⟩: ∃c,c=(jaa b).getD k default:=⟨_,rfl⟩
   rw [←hcx];have hht:jbO b c=true:=hcx▸(cell_at hk).1
   refine jax rfl zq (fun qc=>jau (jae ?_));refine D6 ?_;refine Z5 ?_;refine jag (Post:=fun v=>v= .tuple [str (jbo b c),.bool true].toArray) rfl zq zK (fun H' hH=>by have:=f27_c (Md.starC Tryz.prog B) H' (rd.keeps (sq hH)) (bt:=c.butt) (li:=c.line) (st:=c.st);rw [show jbO b ⟨c.butt,c.line,c.st⟩=true from hht,if_pos rfl] at this;exact this) ?_
   rintro v rfl;refine Z10 ?_;refine jag (Post:=fun v=>v= .tuple [.int .i64 ((jac b).length:Int),.int .i64 0].toArray) rfl zq zK (fun H' hH=>by have:=f28_c (Md.starC Tryz.prog B) H' (b:=b) (ra.keeps (sq hH));rw [if_pos hz,hz] at this;exact this) ?_
   rintro v rfl;refine Z8 ?_
   have hpl:plN b c=k:=by rw [hcx];exact jgr hk
   by_cases hne:jac b=[]
   have ho:jaJ b (jdv b c)=9:=by rw [hcx];exact open_no hz hk hne
   have hcn:jeu b c=[]:=by rw [hcx];exact canL_no hz hk hne
   refine Z3 ?_;refine jaD rfl zq zK (Post:=fun v nw=> ∃w,v= .tuple [w,.int .i64 9].toArray∧RdI B nw w []) (fun H' hH=>by have:=f29_c (Md.starC Tryz.prog B) H' (ra.keeps (sq hH)) c;rw [ho,hcn] at this;exact this) ?_
   rintro v n56 ⟨w,rfl,pcn,ccn,rfl,rcn⟩;refine jaH (jae ?_);refine Z10 ?_;refine jag (Post:=fun v=>v= .tuple [.int .i64 0,.int .i64 9].toArray) rfl zq zK (fun H' hH=>by have:=f30_c (Md.starC Tryz.prog B) H' (ra.keeps (sq hH)) c;rw [ho,if_neg zA] at this;exact this) ?_
   rotate_left
   have ho:jaJ b (jdv b c)=0:=by rw [hcx];exact open_at hz hk hne
   have hcn:jeu b c=jck (cdT b) (jac b) k:=by rw [hcx];exact canL_at hz hk hne
   have hpos:0<(jac b).length:=List.length_pos_iff.2 hne
   refine Z3 ?_;refine jaD rfl zq zK (Post:=fun v nw=> ∃w,v= .tuple [w,.int .i64 0].toArray∧RdI B nw w (jck (cdT b) (jac b) k)) (fun H' hH=>by have:=f29_c (Md.starC Tryz.prog B) H' (ra.keeps (sq hH)) c;rw [ho,hcn] at this;exact this) ?_
   rintro v n56 ⟨w,rfl,pcn,ccn,rfl,rcn⟩;refine jaH (jae ?_);refine Z10 ?_;refine jag (Post:=fun v=>v= .tuple [.int .i64 (jeH (jaU (jac b) k) (jac b).length),.int .i64 0].toArray) rfl zq zK (fun H' hH=>by have:=f30_c (Md.starC Tryz.prog B) H' (ra.keeps (sq hH)) c;rw [ho,if_pos rfl,hpl] at this;exact this) ?_
   all_goals
    rintro v rfl;refine Z11 ?_;refine jag (Post:=fun v=>v= .tuple [.int .i64 (jaU (jac b) k:Int),.bool true].toArray) rfl zq zK (fun H' hH=>f31_c _ H' (ra.keeps (sq hH)) ok hk hcx) ?_
    rintro v rfl;refine Z9 ?_;refine jaK [Zf 0,Zf 1,Zf 2,Zf 3,Zf 4,Zf 5,Zf 6,Zf 7,Zf 8,Zf 9,Zf 10,Zf 11,Zf 12,Zf 13,Zf 14,Zf 15,Zf 16,Zf 17] zK zK ?_;refine Zs ?_;refine ja5 rfl zq rfl ?_;refine Z7 ?_;refine ja5 rfl rfl rfl ?_;refine Z3 ?_
   ·refine jbn rfl rfl rfl ?_;refine Zs ?_;refine jjJ rfl rfl zO ?_;refine k_neqBF rfl rfl zK rfl ?_;refine Z8 ?_;refine ja5 rfl zq rfl ?_;refine Z11 ?_;refine jaD rfl zq zK (Post:=fun w new=>OwnS 3 1 w (jbl (jbo b c)).length (jaI (jbl (jbo b c))) new) (fun H' hH=>f32_c _ H' (jbo b c) (fig_sm ra.sm ok hht)) ?_;rintro w nL oL;refine jaH (jae ?_);obtain ⟨pL,cL,rfl,hcL,rL⟩:=jav (B:=B) oL
    have h960:=jiK (jbo b c)
    refine Z8 ?_
    rw [show (jaU (jac b) k:Int)=(jlC b k 0:Int) by simp [jlC]];refine (Md.starC Tryz.prog B).weak (h':=h++[⟨true,q1,.cells (tbL b ps ns ks pw nw cw pb nb cb).toArray 25 (0,0)⟩]++[⟨true,qc,.cells [.bool c.butt,.int .i64 c.line,.int .i64 c.st].toArray 37 (0,0)⟩]++n56++nL) jab ?_
    refine jai (fun nn l h'=> ∃(j:Nat),nn=(jbl (jbo b c)).length-j∧(j≤(jbl (jbo b c)).length)∧(∃U:Nat→Value,l=((tbV b ps ns ks pw nw cw pb nb cb)::(.int .u8 (y:Int))::(.pointer (some ⟨q1,0,none⟩))::(U 3)::(U 4)::(U 5)::(.pointer (some ⟨qc,0,none⟩))::(U 7)::(U 8)::(.int .i64 ((jac b).length:Int))::(U 10)::(.slice pcn (jck (cdT b) (jac b) k).length ccn)::(U 12)::(.int .i64 (jeH (jaU (jac b) k) (jac b).length))::(U 14)::(.int .i64 (jaU (jac b) k:Int))::(U 16)::(.int .i64 (jlC b k j:Int))::(.slice pL (jbl (jbo b c)).length cL)::(.int .i64 (j:Int))::(U 20)::(U 21)::(U 22)::(U 23)::(U 24)::(U 25)::(U 26)::(U 27)::(U 28)::(U 29)::(U 30)::(U 31)::(U 32)::(U 33)::(U 34)::(U 35)::(U 36)::(U 37)::(U 38)::(U 39)::vw130 U 40 []))∧h++[⟨true,q1,.cells (tbL b ps ns ks pw nw cw pb nb cb).toArray 25 (0,0)⟩]++[⟨true,qc,.cells [.bool c.butt,.int .i64 c.line,.int .i64 c.st].toArray 37 (0,0)⟩]++n56++nL=h') _ ⟨0,rfl,by omega,exU rfl,rfl⟩ ?_;rintro nn l h' ⟨j,rfl,hj,⟨U,rfl⟩,rfl⟩ hnext;refine Z6 ?_
    refine jao rfl zq (fun hc=>?_) (fun hc=>?_)
    ·refine Z6 ?_
     have hjl:j<(jbl (jbo b c)).length:=by omega
     obtain ⟨vn,hvn,hvj,hvm⟩:=meaS_nat hjl
     have hsj:jlC b k (j+1)=jlC b k j+jcy (jac b) k (vn:Int):=by subst hcx;exact jsp hjl hvj
     have hsl:=sumK_le (b:=b) hk (j+1)
     have hcl:=cntV_le (jac b) k (vn:Int)
     obtain ⟨bL,oL_,rfl⟩:=rL.ptr zO
     refine jar [Zp 2,Zp 3,Zp 4,Zr 0,Zr 1,Zr 5,Zk 6,Zk 7,Zk 8,Zp 9,Zp 10,Zp 11,Zp 12,Zp 13] zK zK (List.Sublist.refl _) ?_;refine Z2 ?_;refine D12 ?_;refine Z2 ?_;refine jaW rfl zq (rL.iat j zO zO) ?_;rw [hvj];refine jag (Post:=fun v=>v=str (jce vn)) rfl zq zK (fun H' hH=>f34_c _ H' vn hvn) ?_;rintro v rfl;refine Zs ?_;refine jaD rfl zq zK (Post:=fun v nz=> ∃pw' cw' pb' cb',v=tbV (jat b c (jce vn)) ps ns ks pw' nw cw' pb' nb cb'∧RdLn B nz (.slice pw' nw cw') nw (jat b c (jce vn)).waters∧RdLn B nz (.slice pb' nb cb') nb (jat b c (jce vn)).butts) (fun H' hH=>f33_r _ H' (ra.keeps (sq hH)) ok hht (jce vn) (Nat.le_trans (figN_len hvn) zA)) ?_
     rintro v nzW ⟨pwW,cwW,pbW,cbW,rfl,ewW,ebW⟩;refine jaH (jae ?_);refine jag (Post:=fun v=>v= .tuple [.int .i64 (jcy (jac b) k (vn:Int)+jaU (jac b) k:Nat),.int .i64 0].toArray) rfl zq zK (fun H' hH=>f28_p _ H' hvn (raw_set ra ra.sm (Nat.le_trans (figN_len hvn) zA) ewW ebW (sq hH) (sq hH)) ok hk hcx hvm) ?_;rintro v rfl;refine Z9 ?_
     have hcs2:(vn:Int)∈jck (cdT b) (jac b) k↔0<jcy (jac b) k (vn:Int):=by
      rw [mem_canC];exact ⟨fun e=>e.2,fun e=>⟨by subst hcx;rw [can_at hk];exact hvm,e⟩⟩
     by_cases hcan:0<jcy (jac b) k (vn:Int)
     all_goals
      refine jaK [Zf 0,Zf 1,Zf 2,Zf 3,Zf 4,Zf 5,Zf 6,Zf 7,Zf 8,Zf 9,Zf 10,Zf 11,Zf 12,Zf 13,Zf 14,Zf 15,Zf 16,Zf 17,Zf 18] zK zK ?_;refine Zs ?_;refine ja5 rfl zq rfl ?_;refine Z3 ?_;refine jnF rfl rfl zO ?_;refine Z4 ?_
     ·refine jjJ rfl rfl zO ?_;refine Z3 ?_;refine jcq rfl rfl rfl zO zO ?_;refine jaW rfl rfl (rL.iat j zO zO) ?_;rw [hvj];refine jag (Post:=fun v=>IsB _ v) rfl rfl zK (fun H' hH=>f35_c _ H' _ (rcn.keeps (sq hH)) (by have:=jde (D:=cdT b) (L:=jac b) (k:=k);rw [show (dA (cdT b) k).can=jbl (jbo b c) by subst hcx;exact can_at hk] at this;omega)) ?_;rintro v (⟨hc,rfl⟩|⟨hc,rfl⟩)
      ·refine Zs ?_;refine k_neqBF rfl rfl zK rfl ?_;refine Z18 ?_
       rw [show ((jlC b k j:Nat):Int)+((jcy (jac b) k (vn:Int)+jaU (jac b) k:Nat):Int)-(jaU (jac b) k:Int)=(jlC b k (j+1):Int) by rw [hsj];omega];exact E80
      ·refine Zs ?_
       exact absurd (hcs2.2 hcan) hc
     ·refine jfR rfl rfl zO ?_;refine Z3 ?_;refine jcq rfl rfl rfl zO zO ?_;refine jaW rfl rfl (rL.iat j zO zO) ?_;rw [hvj];refine jag (Post:=fun v=>IsB _ v) rfl rfl zK (fun H' hH=>f35_c _ H' _ (rcn.keeps (sq hH)) (by have:=jde (D:=cdT b) (L:=jac b) (k:=k);rw [show (dA (cdT b) k).can=jbl (jbo b c) by subst hcx;exact can_at hk] at this;omega)) ?_;rintro v (⟨hc,rfl⟩|⟨hc,rfl⟩)
      ·refine Zs ?_
       exact absurd (hcs2.1 hc) hcan
      ·refine Zs ?_;refine k_neqBF rfl rfl zK rfl ?_;refine Z18 ?_
       rw [show ((jlC b k j:Nat):Int)+((jcy (jac b) k (vn:Int)+jaU (jac b) k:Nat):Int)-(jaU (jac b) k:Int)=(jlC b k (j+1):Int) by rw [hsj];omega];exact E80
    ·refine Z4 ?_
     obtain rfl:j=(jbl (jbo b c)).length:=by omega
     have hsa:jlC b k (jbl (jbo b c)).length=(jac b).length:=by subst hcx;exact jpz hk
     refine jaK [Zf 0,Zf 1,Zf 2,Zf 3,Zf 4,Zf 5,Zf 6,Zf 7,Zf 8,Zf 9,Zf 10,Zf 11,Zf 12,Zf 13,Zf 14,Zf 15,Zf 16,Zf 17,Zf 18,Zf 19,Zf 20] zK zK ?_;refine Z2 ?_;refine jbn rfl zq (by rw [hsa]) ?_;refine Z4 ?_;refine jag (Post:=fun v=>v= .int .i64 (if (jaU (jac b) k:Int)=0 then 2 else if (jaU (jac b) k:Int)=((jac b).length:Int) then 1 else 0)) rfl rfl zK (fun H' hH=>f36_c _ H' _ _) ?_;rintro v rfl;refine Zs ?_;refine jbn rfl rfl (told_eq _ _).symm ?_;refine Z6 ?_;refine jnI rfl rfl (by have:=jde (D:=cdT b) (L:=jac b) (k:=k);rw [show (dA (cdT b) k).can=jbl (jbo b c) by subst hcx;exact can_at hk] at this;omega) ?_;refine Z2 ?_;refine ja7 rfl rfl zK (f20_c _) ?_
     rintro v h' ⟨nF,rfl,rfl⟩;refine Z5 ?_;refine jbw rfl Tryz.func4 zK rfl ?_
     rfl
   ·refine jfr rfl rfl zA ?_;refine Zs ?_;refine jfR rfl rfl (by rw [hne];decide) ?_;refine k_neqBF rfl rfl zK rfl ?_;refine Z8 ?_;refine k_neqT rfl zq zA ?_;refine Z3 ?_;refine jaK [Zf 0,Zf 1,Zf 2,Zf 3,Zf 4,Zf 5,Zf 6,Zf 7,Zf 8,Zf 9,Zf 10,Zf 11,Zf 12,Zf 13,Zf 14] zK zK ?_;refine Zs ?_;refine jbn rfl zq rfl ?_;refine Z3 ?_;refine jbn rfl rfl rfl ?_;refine Z3 ?_;refine jbn rfl rfl (by rw [hne];rfl) ?_;refine Z2 ?_;refine ja7 rfl rfl zK (f20_c _) ?_;rintro v h' ⟨nF,rfl,rfl⟩;refine Z5 ?_;refine jbw rfl Tryz.func4 zK rfl ?_
    rfl
 ·refine Z12 ?_;refine ja7 rfl zq zK (f20_c _) ?_
  rintro v h' ⟨nF,rfl,rfl⟩;refine Z4 ?_;refine jbw rfl Tryz.func4 zK rfl ?_
  rfl
end
end Go.Proofs
