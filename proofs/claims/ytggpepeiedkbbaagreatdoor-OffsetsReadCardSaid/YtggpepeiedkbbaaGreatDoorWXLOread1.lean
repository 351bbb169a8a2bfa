/- A part of the proof of a law. Condition of each theorem: as its statement says. -/
import Derived.Test.YtggpepeiedkbbaaGreatDoorVG10
import Derived.Sort.Walk0
set_option linter.all false
variable {P:Go.Program} {B:Array Go.Obj} {S h H:Go.Lo.Hp} {ops:Array Go.Oper} {r:List (Nat×Go.Lo.Kd)} {l l' l'' jx:List Go.Value} {C:List Go.Value→Go.Lo.Hp→Prop} {i k n j ns ks nw cw nb cb:Nat} {d:Option Go.Tmp} {ty u:Go.TypeId} {pos:String} {af:Array Go.Edge} {g:Option (Nat×Bool)} {t v st:Int} {p o xs:List Int} {b:Go.Lo.Tb} {f:Go.Lo.Str} {ls:List Go.Lo.Ln} {D:List Go.Lo.Cd} {L:List Go.Lo.Bo} {bt:Bool} {s:Int×Int} {ps pw pb pw' pb' p1 p2 ps2 pw2 pb2:Option Go.Addr}
set_option maxHeartbeats 4000000
set_option maxRecDepth 100000
set_option synthInstance.maxHeartbeats 1000000
set_option synthInstance.maxSize 100000
namespace Go.Lo
open Go.Conc
theorem str_app (s t:List UInt8):(⟨s.toArray⟩:ByteArray)++⟨t.toArray⟩=⟨(s++t).toArray⟩:=by
 apply ByteArray.ext
 simp
section
variable {m:Md P B} {kd:Kd}
theorem k_sadd {t:TypeId} {x y:Operand} {a b:ByteArray} {p q:List UInt8} (ho:ops[i]?=some ⟨d,.binOp .add t x y u,ty,pos,af,g⟩) (hw:Wt ops l g) [KHeap kd S h H] [ex:OpV l x (.string a)] [ey:OpV l y (.string b)] [pa:SV a p] [pb:SV b q] (hr:p.length+q.length≤9223372036854775807) [PutV l d (str (p++q)) l']
  (n:RegK m S ops r l' h C):RegK m S ops ((i,kd)::r) l h C:=
 RegK.rd (v:=str (p++q)) ho hw (jfF ex.eq ey.eq zS (by
  rw [pa.eq,pb.eq];show Op.stringOp .add _ _=_
  unfold Op.stringOp
  have: ¬(((⟨p.toArray⟩:ByteArray).size+(⟨q.toArray⟩:ByteArray).size:Nat):Int)>IntKind.i64.max:=by
   rw [show IntKind.i64.max=9223372036854775807 by decide];simp only [ByteArray.size,List.size_toArray]
   omega
  simp only [if_neg this,str_app]
  rfl)) n
end
end Go.Lo
namespace Go.Proofs
open Go.Lo
open Go.Conc (G)
section
variable {m:Md P B} {S h h' H:Hp} {kd:Kd}
theorem k_neqT {t:TypeId} {x y:Operand} {a b:Int} {k:IntKind} (ho:ops[i]?=some ⟨d,.binOp .neq t x y u,ty,pos,af,g⟩) (hw:Wt ops l g) [kh:KHeap kd S h H] [ex:OpV l x (.int k a)] [ey:OpV l y (.int k b)] (e:a≠b) [pt:PutV l d (.bool true) l'] (q:RegK m S ops r l' h C):RegK m S ops ((i,kd)::r) l h C:=by
 have pq:=pt;rw [←decide_eq_true e] at pq;exact jnD (l':=l') ho hw q
end
end Go.Proofs
namespace Go.Lo
def setCan:List Cd→Nat→List Int→List Cd
 |[],_,_=>[]
 |d::D,0,c=>{d with can:=c}::D
 |d::D,k+1,c=>d::setCan D k c
theorem agreeA_can {d:Cd} {v:Int} {c:List Int}: ∀{D:List Cd} {x:Bo},jam {d with can:=c} v D x=jam d v D x
 |[],_=>rfl
 |_::_,[]=>rfl
 |e::D,some u::x=>by simp only [jam];rw [agreeA_can];rfl
 |e::D,none::x=>by simp only [jam];rw [agreeA_can]
theorem agreeA_setCan {d:Cd} {v:Int} {c:List Int}: ∀{D:List Cd} {x:Bo} {k:Nat},jam d v (setCan D k c) x=jam d v D x
 |[],_,_=>rfl
 |_::_,[],0=>rfl
 |_::_,[],_+1=>rfl
 |e::D,some u::x,0=>by simp only [setCan,jam];rfl
 |e::D,none::x,0=>by simp only [setCan,jam]
 |e::D,some u::x,k+1=>by simp only [setCan,jam];rw [agreeA_setCan]
 |e::D,none::x,k+1=>by simp only [setCan,jam];rw [agreeA_setCan]
def keepV (q:Int→Bool) (o:Option Int):Bool:=match o with|some v=>q v|none=>true
theorem boatsA_setCan {q:Int→Bool}: ∀{D:List Cd} {k w:Nat},k<D.length→jak (setCan D k ((dA D k).can.filter q)) w=(jak D w).filter fun x=>keepV q (xA x k)
 |[],_,_,h=>by simp at h
 |d::D,0,w,_=>by
  simp only [setCan,List.getD_cons_zero,jaO,List.filter_append,List.filter_flatMap]
  congr 1
  ·have: ∀l:List Int,((l.filter q).flatMap fun v=>((jak D w).filter (jam {d with can:=d.can.filter q} v D)).map (some v:: ·))=l.flatMap fun v=>(((jak D w).filter (jam d v D)).map (some v:: ·)).filter fun x=>keepV q (xA x 0):=by
    intro l
    induction l with
    |nil=>rfl
    |cons v l ih=>
     rw [List.flatMap_cons,←ih,List.filter_cons];by_cases hq:q v=true
     ·rw [if_pos hq,List.flatMap_cons];congr 1
      rw [List.filter_map];have:(List.filter ((fun x=>keepV q (xA x 0))∘(some v:: ·)) ((jak D w).filter (jam d v D)))=(jak D w).filter (jam d v D):=by
       rw [List.filter_eq_self];intro x _
       simp [keepV,hq]
      rw [this];congr 1
      exact List.filter_congr fun x _=>agreeA_can
     ·rw [if_neg hq];have:(((jak D w).filter (jam d v D)).map (some v:: ·)).filter (fun x=>keepV q (xA x 0))=[]:=by
       rw [List.filter_map,List.map_eq_nil_iff,List.filter_eq_nil_iff];intro x _
       simp [keepV,hq]
      rw [this,List.nil_append]
   exact this d.can
  ·cases w with
   |zero=>rfl
   |succ w=>
    simp only [jdX,List.filter_map]
    congr 1
    symm
    rw [List.filter_eq_self];intro x _
    simp [keepV]
 |d::D,k+1,w,h=>by
  have hk:k<D.length:=by simpa using h
  have ih:=fun w=>boatsA_setCan (q:=q) (D:=D) (k:=k) (w:=w) hk
  simp only [setCan,List.getD_cons_succ,jaO,List.filter_append,List.filter_flatMap]
  congr 1
  ·congr 1
   funext v
   rw [ih w,List.filter_map,filter_comm'];congr 1
   have e1:((fun x=>keepV q (xA x (k+1)))∘(some v:: ·))=fun x=>keepV q (xA x k):=by funext x;simp
   rw [e1];congr 1
   exact List.filter_congr fun x _=>agreeA_setCan
  ·cases w with
   |zero=>rfl
   |succ w=>
    simp only [jdX,List.filter_map]
    rw [ih w];congr 1
section
end
theorem fig_mem (k:TbOk b) {c:Ce} (h:jbO b c=true):jbo b c∈(jaT b c).figs:=by
 have h1:=jbk.1 h
 have:=((k.lines c.butt).ok _ (jbz h)).len
 rw [jbo,List.getD_eq_getElem?_getD,List.getElem?_eq_getElem zO];exact E52
theorem fig_ok (k:TbOk b) {c:Ce} (h:c∈jaa b):ja6 (jbo b c)=true:=by
 obtain ⟨h1,h2⟩:=jaA h
 have:=((k.lines c.butt).ok _ (jbz h1)).fig _ (fig_mem k h1)
 rw [jbx,Bool.or_eq_true,decide_eq_true_eq] at this
 exact this.resolve_right h2
theorem setF_lat {c:Ce} (hc:jbO b c=true) {d:Ce} (hd:jbO b d=true):(jaT (jat b c f) d).lat=(jaT b d).lat:=by
 rw [jfD hc d hd];split
 ·rename_i h
  simp only [jaT,h.1,h.2]
 ·rfl
theorem setF_cells_same (k:TbOk b) {c:Ce} (hc:c∈jaa b) (hf:f≠jbG):jaa (jat b c f)=jaa b:=by
 rw [jf5 k (jaA hc).1,jbq];refine List.filter_congr fun d _=>?_
 rw [keepC'];by_cases e:d=c
 ·subst e
  rw [if_pos rfl,(jaA hc).1];simp [hf,(jaA hc).2]
 ·rw [if_neg e]
theorem setF_cdOf (k:TbOk b) {c:Ce} (hc:jbO b c=true) {d:Ce} (hd:jbO b d=true) (hne:d≠c):jcI (jat b c f) d=jcI b d:=by
 simp only [jcI,setF_lat hc hd,jdU k hc hd,if_neg hne]
theorem setF_cdOf_self (k:TbOk b) {c:Ce} (hc:jbO b c=true):jcI (jat b c f) c={jcI b c with can:=jbl f}:=by
 simp only [jcI,setF_lat hc hc,jdU k hc hc,if_pos]
theorem setCan_map {b':Tb} {l:List Ce} (hn:l.Nodup) {v:List Int} (hi:i<l.length) (h1: ∀d∈l,d≠l.getD i default→jcI b' d=jcI b d) (h2:jcI b' (l.getD i default)={jcI b (l.getD i default) with can:=v}):l.map (jcI b')=setCan (l.map (jcI b)) i v:=by
 induction l generalizing i with
 |nil=>simp at hi
 |cons a l ih=>
  rw [List.nodup_cons] at hn
  cases i with
  |zero=>
   simp only [List.getD_cons_zero] at h1 h2
   rw [List.map_cons,List.map_cons,setCan,h2];congr 1
   exact E71
  |succ i=>
   have hi':i<l.length:=by simpa using hi
   have hm:l.getD i default∈l:=by rw [List.getD_eq_getElem?_getD,List.getElem?_eq_getElem hi'];exact E52
   simp only [List.getD_cons_succ] at h1 h2
   rw [List.map_cons,List.map_cons,setCan,h1 a zS (fun e=>hn.1 (e▸hm)),ih hn.2 hi' (fun d hd=>h1 d (by simp [hd])) h2]
theorem cdT_put (k:TbOk b) (hi:i<(jaa b).length) (hf:f≠jbG):cdT (jat b ((jaa b).getD i default) f)=setCan (cdT b) i (jbl f):=by
 have hm:(jaa b).getD i default∈jaa b:=by rw [List.getD_eq_getElem?_getD,List.getElem?_eq_getElem hi];exact E52
 have hc:=(jaA hm).1
 rw [cdT,setF_cells_same k hm hf,cdT];exact E72
theorem sum_set (l:List Nat) (i:Nat) (x:Nat) (hi:i<l.length):(l.set i x).sum+l.getD i 0=l.sum+x:=by
 induction l generalizing i with
 |nil=>simp at hi
 |cons a l ih=>
  cases i with
  |zero=>simp;omega
  |succ i=>
   have:=ih i (by simpa using hi)
   simp only [List.set_cons_succ,List.sum_cons,List.getD_cons_succ]
   omega
theorem updL_smu (hi:i<ls.length) (hk:k<(ls.getD i default).figs.length):jb1 (jex ls i k f)+jb0 ((ls.getD i default).figs.getD k [])=jb1 ls+jb0 f:=by
 have e1:jb1 (jex ls i k f)=((ls.map jcQ).set i (jcQ {ls.getD i default with figs:=(ls.getD i default).figs.set k f})).sum:=by
  rw [jb1,jex,List.map_set]
 have e2:=sum_set (ls.map jcQ) i (jcQ {ls.getD i default with figs:=(ls.getD i default).figs.set k f}) (by simpa using hi)
 have e3:(ls.map jcQ).getD i 0=jcQ (ls.getD i default):=by
  rw [List.getD_eq_getElem?_getD,List.getElem?_map,List.getElem?_eq_getElem hi,List.getD_eq_getElem?_getD,List.getElem?_eq_getElem hi];rfl
 have e4:jcQ {ls.getD i default with figs:=(ls.getD i default).figs.set k f}=(((ls.getD i default).figs.map jb0).set k (jb0 f)).sum:=by
  rw [jcQ,List.map_set]
 have e5:=sum_set ((ls.getD i default).figs.map jb0) k (jb0 f) (by simpa using hk)
 have e6:((ls.getD i default).figs.map jb0).getD k 0=jb0 ((ls.getD i default).figs.getD k []):=by
  generalize (ls.getD i default).figs=gg at hk⊢
  rw [List.getD_eq_getElem?_getD,List.getElem?_map,List.getElem?_eq_getElem hk,List.getD_eq_getElem?_getD,List.getElem?_eq_getElem hk];rfl
 have e7:jcQ (ls.getD i default)=((ls.getD i default).figs.map jb0).sum:=rfl
 have e8:jb1 ls=(ls.map jcQ).sum:=rfl
 omega
theorem updL_ok (k:LsOk n ls) (hi:i<ls.length) (hf:jbx f=true):LsOk n (jex ls i j f):=by
 have hmem:ls.getD i default∈ls:=jah hi
 have ho:=k.ok _ hmem
 refine ⟨by rw [jd8];exact k.two,fun l hl=>?_,?_⟩
 ·rcases List.mem_or_eq_of_mem_set hl with hl|rfl
  ·exact k.ok l hl
  ·refine ⟨ho.lat,by simpa using ho.len,fun g hg=>?_⟩
   rcases List.mem_or_eq_of_mem_set hg with hg|rfl
   ·exact ho.fig g hg
   ·exact hf
 ·have:(jex ls i j f).map (·.lat)=ls.map (·.lat):=by
   rw [jex,List.map_set];refine List.ext_getElem zS fun a h1 h2=>?_
   rw [List.getElem_set];split
   ·rename_i e
    subst e
    rw [List.getElem_map,List.getD_eq_getElem?_getD,List.getElem?_eq_getElem hi];rfl
   ·rfl
  have h1:((jex ls i j f).map (·.lat)).Pairwise (· < ·):=by rw [this,List.pairwise_map];exact k.up
  rwa [List.pairwise_map] at h1
theorem setF_ok (k:TbOk b) {c:Ce} (hc:jbO b c=true) (hf:jbx f=true) (hs:jb1 b.waters+jb1 b.butts+jb0 f≤2+jb0 (jbo b c)):TbOk (jat b c f):=by
 have h1:=jbk.1 hc
 have hlen:=((k.lines c.butt).ok _ (jbz hc)).len
 have hsm:=updL_smu (ls:=jap b c.butt) (i:=c.line.toNat) (k:=c.st.toNat) (f:=f) zO (by rw [jaT] at hlen;omega)
 have hfe:jb0 (((jap b c.butt).getD c.line.toNat default).figs.getD c.st.toNat [])=jb0 (jbo b c):=rfl
 refine ⟨by simpa using k.wrong,by simpa using k.n1,by simpa using k.n3,by simpa using k.names,?_,?_,?_⟩
 ·have:(jat b c f).waters=jap (jat b c f) false:=rfl
  rw [this,jbb,jbF];split
  ·rename_i e
   exact updL_ok k.waters (by
   have h3:c.line<((jap b false).length:Int):=by rw [e];exact h1.2.1
   have h4:(jap b false).length=b.waters.length:=rfl
   show c.line.toNat<b.waters.length
   omega) hf
  ·exact k.waters
 ·have:(jat b c f).butts=jap (jat b c f) true:=rfl
  rw [this,jbb,jbF];split
  ·rename_i e
   exact updL_ok k.butts (by
   have h3:c.line<((jap b true).length:Int):=by rw [e];exact h1.2.1
   have h4:(jap b true).length=b.butts.length:=rfl
   show c.line.toNat<b.butts.length
   omega) hf
  ·exact k.butts
 ·have e1:(jat b c f).waters=jap (jat b c f) false:=rfl
  have e2:(jat b c f).butts=jap (jat b c f) true:=rfl
  rw [e1,e2,jbb,jbb];cases hb:c.butt with
  |false=>
   rw [hb] at hsm hfe
   rw [if_pos rfl,if_neg zS];have:jb1 (jap b false)=jb1 b.waters:=rfl
   have:jb1 (jap b true)=jb1 b.butts:=rfl
   omega
  |true=>
   rw [hb] at hsm hfe
   rw [if_neg zS,if_pos rfl];have:jb1 (jap b false)=jb1 b.waters:=rfl
   have:jb1 (jap b true)=jb1 b.butts:=rfl
   omega
theorem mem_canB {w:Nat} {x:Bo} (hx:x∈jak D w) (e:xA x k=some v):v∈(dA D k).can:=(jcv.1 (jaL.1 hx).1).2.1 k v e
theorem cntV_pos:0<jcy L k v↔ ∃x∈L,xA x k=some v:=by
 unfold jcy
 rw [List.countP_pos_iff];simp
theorem mem_canC:v∈jck D L k↔v∈(dA D k).can∧0<jcy L k v:=by
 unfold jck
 rw [List.mem_filter,cntV_pos];simp
theorem mem_canS_boats {w:Nat}:v∈jck D (jak D w) k↔ ∃x∈jak D w,xA x k=some v:=by
 rw [mem_canC,cntV_pos];exact E83
def lowC (bt:Bool) (st p:Int) (d:Cd) (o:Option Int) (u:Int):Prop:= ∃v,o=some v∧d.st=st∧((d.butt=bt∧d.lat≤p∧u=v)∨(d.butt≠bt∧v<p∧u=d.lat))
def highC (bt:Bool) (st p:Int) (d:Cd) (o:Option Int) (u:Int):Prop:= ∃v,o=some v∧d.st=st∧((d.butt=bt∧p≤d.lat∧u=v)∨(d.butt≠bt∧p<v∧u=d.lat))
theorem bdStep_low {p:Int} {d:Cd} {o:Option Int}:(jbQ bt st p d o s).1≤t↔s.1≤t∧ ∀u,lowC bt st p d o u→u≤t:=by
 unfold jbQ lowC
 rcases o with _|v
 ·simp
 ·by_cases h1:d.st=st
  ·by_cases h2:d.butt=bt
   ·by_cases h3:d.lat≤p
    ·simp [h1,h2,h3]
     omega
    ·simp [h1,h2,h3]
   ·by_cases h3:v<p
    ·simp [h1,h2,h3]
     omega
    ·simp [h1,h2,h3]
  ·simp [h1]
theorem bdStep_high {p:Int} {d:Cd} {o:Option Int}:t≤(jbQ bt st p d o s).2↔t≤s.2∧ ∀u,highC bt st p d o u→t≤u:=by
 unfold jbQ highC
 rcases o with _|v
 ·simp
 ·by_cases h1:d.st=st
  ·by_cases h2:d.butt=bt
   ·by_cases h3:p≤d.lat
    ·simp [h1,h2,h3]
     omega
    ·simp [h1,h2,h3]
   ·by_cases h3:p<v
    ·simp [h1,h2,h3]
     omega
    ·simp [h1,h2,h3]
  ·simp [h1]
theorem bdK_low {D:List Cd} {x:Bo} {bt:Bool} {st p t:Int}: ∀{k:Nat},(bdK D x bt st p k).1≤t↔0≤t∧ ∀i,i<k→ ∀u,lowC bt st p (dA D i) (xA x i) u→u≤t
 |0=>by simp [bdK]
 |k+1=>by
  rw [jbD,bdStep_low,bdK_low];constructor
  ·rintro ⟨⟨h0,h1⟩,h2⟩;refine ⟨h0,fun i hi=>?_⟩
   rcases Nat.lt_or_ge i k with g|g
   ·exact h1 i g
   ·obtain rfl:i=k:=by omega
    exact h2
  ·rintro ⟨h0,h1⟩;exact E84
theorem bdK_high {D:List Cd} {x:Bo} {bt:Bool} {st p t:Int}: ∀{k:Nat},t≤(bdK D x bt st p k).2↔t≤959∧ ∀i,i<k→ ∀u,highC bt st p (dA D i) (xA x i) u→t≤u
 |0=>by simp [bdK]
 |k+1=>by
  rw [jbD,bdStep_high,bdK_high];constructor
  ·rintro ⟨⟨h0,h1⟩,h2⟩;refine ⟨h0,fun i hi=>?_⟩
   rcases Nat.lt_or_ge i k with g|g
   ·exact h1 i g
   ·obtain rfl:i=k:=by omega
    exact h2
  ·rintro ⟨h0,h1⟩;exact E84
theorem bdA_low {x:Bo} {p:Int}:(bdA D x bt st p).1≤t↔0≤t∧ ∀i,i<D.length→ ∀u,lowC bt st p (dA D i) (xA x i) u→u≤t:=bdK_low
theorem bdA_high {x:Bo} {p:Int}:t≤(bdA D x bt st p).2↔t≤959∧ ∀i,i<D.length→ ∀u,highC bt st p (dA D i) (xA x i) u→t≤u:=bdK_high
theorem spB_fold (f:Bo→Int×Int): ∀(L:List Bo) (s:Int×Int) (t:Int),(t≤(L.foldl (fun s x=>(min s.1 (f x).1,max s.2 (f x).2)) s).1↔t≤s.1∧ ∀x∈L,t≤(f x).1)∧((L.foldl (fun s x=>(min s.1 (f x).1,max s.2 (f x).2)) s).2≤t↔s.2≤t∧ ∀x∈L,(f x).2≤t)
 |[],s,t=>by simp
 |a::L,s,t=>by
  rw [List.foldl_cons];obtain ⟨h1,h2⟩:=spB_fold f L (min s.1 (f a).1,max s.2 (f a).2) t
  rw [h1,h2];simp only [List.forall_mem_cons]
  constructor
  ·constructor
   ·rintro ⟨a1,a2⟩;exact E87
   ·rintro ⟨a1,a2,a3⟩;exact ⟨by omega,a3⟩
  ·constructor
   ·rintro ⟨a1,a2⟩;exact E87
   ·rintro ⟨a1,a2,a3⟩;exact ⟨by omega,a3⟩
theorem spB_low {f:Bo→Int×Int}:t≤(spB f L).1↔t≤959∧ ∀x∈L,t≤(f x).1:=(spB_fold f L (959,0) t).1
theorem spB_high {f:Bo→Int×Int}:(spB f L).2≤t↔0≤t∧ ∀x∈L,(f x).2≤t:=(spB_fold f L (959,0) t).2
theorem spB_in {f g:Bo→Int×Int} {M:List Bo} (h: ∀x∈L,∃y∈M,(g y).1≤(f x).1∧(f x).2≤(g y).2):(spB g M).1≤(spB f L).1∧(spB f L).2≤(spB g M).2:=by
 constructor
 ·refine spB_low.2 ⟨(spB_low.1 (Int.le_refl _)).1,fun x hx=>?_⟩
  obtain ⟨y,hy,h1,_⟩:=h x hx
  exact E89
 ·refine spB_high.2 ⟨(spB_high.1 (Int.le_refl _)).1,fun x hx=>?_⟩
  obtain ⟨y,hy,_,h2⟩:=h x hx
  exact E90
def shf (i j:Nat):Nat:=if j<i then j else j+1
theorem getD_erase {α:Type} (l:List α) (d:α) (i j:Nat):(l.eraseIdx i).getD j d=l.getD (shf i j) d:=by
 rw [List.getD_eq_getElem?_getD,List.getD_eq_getElem?_getD,List.getElem?_eraseIdx,shf];split<;>rfl
end Go.Lo
namespace Go.Proofs
open Go.Lo
open Go.Conc (G)
section
theorem f35_c (m:Md Tryz.prog B) (h:Hp) {p:Option Addr} {c:Nat} (x:Int) (rd:RdS B h 1 (.slice p n c) n (jaI xs)) (hn:n≤1000000):FnC m 35 #[.slice p n c,.int .i64 x] h fun v h'=>h'=h∧IsB (x∈xs) v:=by
 have hl:=rd.ilen
 refine jaf Tryz.func35 rfl rfl (l:=(.slice p n c)::(.int .i64 x)::uu16) rfl ?_
 intro cf cs K hK
 refine Z10 ?_
 refine jai (fun nn l h'=> ∃(k:Nat),nn=n-k∧(k≤n)∧(∀i,i<k→xs.getD i 0≠x)∧(∃U:Nat→Value,l=((.slice p n c)::(.int .i64 x)::(U 2)::(U 3)::(U 4)::(.int .i64 (k:Int))::vw12 U 6 []))∧h=h') _ ⟨0,rfl,by omega,by omega,exU rfl,rfl⟩ ?_;rintro nn l h' ⟨k,rfl,hk,he,⟨U,rfl⟩,rfl⟩ hnext;refine Z6 ?_
 refine jao rfl zq (fun hc=>?_) (fun hc=>?_)
 ·refine Z9 ?_
  obtain ⟨rd_b,rd_o,rfl⟩:=rd.ptr zO
  refine D0 ?_;refine jaW rfl zq (rd.iat k zO zO) ?_;refine Zs ?_
  refine jaS rfl zq (fun hc=>?_) (fun hc=>?_)
  ·refine Z7 ?_;refine jad (h) rfl Tryz.func35 rfl jab ?_;refine Zs ?_
   exact E73
  ·refine Z9 ?_
   exact m.weak jab (hnext _ _ _ zO ⟨k+1,rfl,by omega,fun i hi=>by
    rcases Nat.lt_or_ge i k with h1|h1
    ·exact he i h1
    ·obtain rfl:i=k:=by omega
     assumption,exU rfl,rfl⟩)
 ·refine Z8 ?_;refine jad (h) rfl Tryz.func35 rfl jab ?_;refine Zs ?_
  exact ⟨rfl,IsB.no fun e=>by
   obtain ⟨i,h1,h2⟩:=jcU.1 e
   exact he i zO h2⟩
end
end Go.Proofs
namespace Go.Proofs
open Go.Lo
section
theorem cell_at (hi:i<(jaa b).length):jbO b ((jaa b).getD i default)=true∧jbo b ((jaa b).getD i default)≠jbG:=jaA (jah hi)
theorem can_at (hi:i<(jaa b).length):(dA (cdT b) i).can=jbl (jbo b ((jaa b).getD i default)):=by rw [jaF b hi];rfl
end
end Go.Proofs
namespace Go.Proofs
open Go.Lo
open Go.Conc (G)
section
variable [LaidO B]
section
variable {m:Md P B} {S h h' H:Hp}
end
section
theorem fig_sm (sm:TbSm b) (k:TbOk b) {c:Ce} (hc:jbO b c=true):(jbo b c).length≤100000:=by
 have h1:=fig_mem k hc
 have h2:=jbz hc
 unfold jap at h2
 split at h2
 ·exact (sm.but _ h2).2 _ h1
 ·exact (sm.wat _ h2).2 _ h1
theorem figs_rd {lps:List Lp} (hn:1≤n) (k:LsOk n ls) (e:lps.map (·.ln)=ls) (hf: ∀x∈lps,x.ln.figs.length≤x.c∧(0<x.ln.figs.length→RdS B h 1 (.slice x.p x.ln.figs.length x.c) x.ln.figs.length (jaC x.ln.figs))): ∀x∈lps,x.ln.figs.length≤x.c∧RdS B h 1 (.slice x.p x.ln.figs.length x.c) x.ln.figs.length (jaC x.ln.figs):=fun x hx=>by
 have hm:x.ln∈ls:=e▸List.mem_map.2 ⟨x,hx,rfl⟩
 have:=(k.ok _ hm).len
 exact E77
theorem f33_r (m:Md Tryz.prog B) (h:Hp) (ra:RawTb B h b ps ns ks pw nw cw pb nb cb) (k:TbOk b) {c:Ce} (hc:jbO b c=true) (f:Str) (hf:f.length≤100000):FnC m 33 #[tbV b ps ns ks pw nw cw pb nb cb,cV c.butt c.line c.st,str f] h fun v h'=> ∃nz,h'=h++nz∧ ∃pw' cw' pb' cb',v=tbV (jat b c f) ps ns ks pw' nw cw' pb' nb cb'∧RdLn B nz (.slice pw' nw cw') nw (jat b c f).waters∧RdLn B nz (.slice pb' nb cb') nb (jat b c f).butts:=by
 obtain ⟨lw,hlw,rlw,hfw⟩:=ra.w
 obtain ⟨lb,hlb,rlb,hfb⟩:=ra.u
 have hn1:=k.n1
 have hsl:=ra.s.elen zA
 have hfw':=figs_rd hn1 k.waters hlw hfw
 have hfb':=figs_rd hn1 k.butts hlb hfb
 have hh:=jbk.1 hc
 have hll:jap b c.butt=(if c.butt then lb else lw).map (·.ln):=by unfold jap;split;exact hlb.symm;exact hlw.symm
 have hlen:((if c.butt then lb else lw).length:Int)=((jap b c.butt).length:Int):=by rw [hll,List.length_map]
 have hfl:((if c.butt then lb else lw).getD c.line.toNat default).ln.figs.length=b.sts.length:=by
  have e1:(jaT b c)=((if c.butt then lb else lw).getD c.line.toNat default).ln:=by
   rw [jaT,hll,ja1 _ _ zO]
  rw [←e1];exact E78
 refine CallF.mono (f33_c m h (b:=b) rlw rlb ra.wn ra.un hfw' hfb' (by rw [hlw];exact fun l hl=>(ra.sm.wat l hl).1) (by rw [hlb];exact fun l hl=>(ra.sm.but l hl).1) c.butt c.line c.st f hh.1 (by rw [hlen];exact hh.2.1) hh.2.2.1 (by rw [hfl];exact hh.2.2.2)) ?_
 rintro v h' ⟨nz,pw',cw',pb',cb',e1,e2,e3,e4⟩;refine ⟨nz,e1,pw',cw',pb',cb',by rw [e2,tbV,tbV,tbL,tbL,setF_wrong],?_,?_⟩
 ·rw [hlw] at e3
  unfold jat
  cases hb:c.butt
  ·rw [hb] at e3
   exact e3
  ·rw [hb] at e3
   exact e3
 ·rw [hlb] at e4
  unfold jat
  cases hb:c.butt
  ·rw [hb] at e4
   exact e4
  ·rw [hb] at e4
   exact e4
theorem raw_set {nz:Hp} {cw':Nat} {cb':Nat} (ra:RawTb B h b ps ns ks pw nw cw pb nb cb) (sm:TbSm b) {c:Ce} (hf:f.length≤100000) (e1:RdLn B nz (.slice pw' nw cw') nw (jat b c f).waters) (e2:RdLn B nz (.slice pb' nb cb') nb (jat b c f).butts) (s1:h.Sublist H) (s2:nz.Sublist H):RawTb B H (jat b c f) ps ns ks pw' nw cw' pb' nb cb':=
 ⟨by rw [(jbF b c f).1];exact ra.s.keeps s1,ra.sc,ra.sn,e1.keeps s2,ra.wn,e2.keeps s2,ra.un,jjk sm hf⟩
end
end
end Go.Proofs
namespace Go.Lo
open Go.Proofs
def gp (n b i:Nat):Str:=if b.testBit i then [63] else (jfw (jce n) 45).getD i []
theorem meaS_in {s:Str} {z:Int} (h:z∈jbl s):0≤z∧z≤959:=by
 unfold jbl at h
 split at h
 ·rw [jdJ] at h
  obtain ⟨k,hk,rfl⟩:=List.mem_map.1 h
  have:=List.mem_range.1 (List.mem_filter.1 hk).1
  omega
 ·cases h
end Go.Lo
namespace Go.Proofs
open Go.Lo
open Go.Conc (G)
section
variable [LaidO B]
theorem open_at (hz:tbS b=0) (hk:k<(jaa b).length) (hne:jac b≠[]):jaJ b (jdv b ((jaa b).getD k default))=0:=jej hz (jg6 hk) hne
theorem canL_at (hz:tbS b=0) (hk:k<(jaa b).length) (hne:jac b≠[]):jeu b ((jaa b).getD k default)=jck (cdT b) (jac b) k:=by rw [jeu,if_pos (open_at hz hk hne),jgr hk]
theorem ownP_in {p:Int} (h:0≤st∧st<(b.sts.length:Int)) (h2:0≤p∧p≤959):jfJ b st p=0:=by
 rw [jfJ,if_neg (fun e=>e ⟨h.1,by omega⟩),if_neg (fun e=>e h2)]
theorem openP_in {p:Int} (hz:tbS b=0) (h:0≤st∧st<(b.sts.length:Int)) (h2:0≤p∧p≤959) (hne:jac b≠[]):jaJ b (jfJ b st p)=0:=jej hz (ownP_in h h2) hne
end
section
variable [LaidO B]
theorem f114_t (m:Md Tryz.prog B) (h:Hp) {c1 c2:Nat} {xs:List Str} (r1:0<n→RdS B h 1 (.slice p1 n c1) n (jaC xs)) (r2:0<n→RdS B h 1 (.slice p2 n c2) n (jaC xs)) (hn:n≤1000):FnC m 114 #[.slice p1 n c1,.slice p2 n c2] h fun v h'=>h'=h∧v= .bool true:=by
 refine jaf Tryz.func114 rfl rfl (l:=(.slice p1 n c1)::(.slice p2 n c2)::jpn) rfl ?_
 intro cf cs K hK
 refine Z11 ?_;refine ja5 rfl zq rfl ?_;refine Z9 ?_
 refine jai (fun nn l h'=> ∃(k:Nat),nn=n-k∧(k≤n)∧(∃U:Nat→Value,l=((.slice p1 n c1)::(.slice p2 n c2)::(U 2)::(U 3)::(U 4)::(.int .i64 (k:Int))::jr6 U 6 []))∧h=h') _ ⟨0,rfl,by omega,exU rfl,rfl⟩ ?_;rintro nn l h' ⟨k,rfl,hk,⟨U,rfl⟩,rfl⟩ hnext;refine Z6 ?_
 refine jao rfl zq (fun hc=>?_) (fun hc=>?_)
 ·refine Z6 ?_
  have q1:=r1 zO
  have q2:=r2 zO
  have hl:=q1.elen zA
  obtain ⟨b1,o1,rfl⟩:=q1.ptr zO
  obtain ⟨b2,o2,rfl⟩:=q2.ptr zO
  refine jar [Zp 0,Zp 1,Zp 2,Zp 4,Zp 5,Zp 6,Zr 3,Zr 7,Zp 8] zK zK (List.Sublist.refl _) ?_;refine Z2 ?_;refine D12 ?_;refine Z2 ?_;refine D12 ?_;refine jaW rfl zq (q1.sat k zO zO) ?_;refine jaW rfl zq (q2.sat k zO zO) ?_;refine jdL rfl zq rfl ?_;refine Z9 ?_;exact E18
 ·refine Z8 ?_;refine jad (h) rfl Tryz.func114 rfl jab ?_;refine Zs ?_
  exact ⟨rfl,rfl⟩
theorem f115_t (m:Md Tryz.prog B) (h:Hp) {c1 c2:Nat} (r1:RdLn B h (.slice p1 n c1) n ls) (r2:RdLn B h (.slice p2 n c2) n ls) (hn:n≤1000) (hf: ∀l∈ls,l.figs.length≤1000):FnC m 115 #[.slice p1 n c1,.slice p2 n c2] h fun v h'=>h'=h∧v= .bool true:=by
 have hls:=jaV r1
 obtain ⟨l1,he1,rl1,hr1⟩:=r1
 obtain ⟨l2,he2,rl2,hr2⟩:=r2
 have hl1:l1.length=n:=by rw [←hls,←he1,List.length_map]
 have hl2:l2.length=n:=by rw [←hls,←he2,List.length_map]
 refine jaf Tryz.func115 rfl rfl (l:=(.slice p1 n c1)::(.slice p2 n c2)::uu40) rfl ?_
 intro cf cs K hK
 refine Z11 ?_;refine ja5 rfl zq rfl ?_;refine Z9 ?_
 refine jai (fun nn l h'=> ∃(k:Nat),nn=n-k∧(k≤n)∧(∃U:Nat→Value,l=((.slice p1 n c1)::(.slice p2 n c2)::(U 2)::(U 3)::(U 4)::(.int .i64 (k:Int))::vw36 U 6 []))∧h=h') _ ⟨0,rfl,by omega,exU rfl,rfl⟩ ?_;rintro nn l h' ⟨k,rfl,hk,⟨U,rfl⟩,rfl⟩ hnext;refine Z6 ?_
 refine jao rfl zq (fun hc=>?_) (fun hc=>?_)
 ·refine Z6 ?_
  have hkn:k<n:=by omega
  obtain ⟨b1,o1,rfl⟩:=rl1.ptr zO
  obtain ⟨b2,o2,rfl⟩:=rl2.ptr zO
  have e1:(l1.getD k default).ln=ls.getD k default:=by rw [←he1,ja1 l1 _ zO]
  have e2:(l2.getD k default).ln=ls.getD k default:=by rw [←he2,ja1 l2 _ zO]
  obtain ⟨_,g1⟩:=hr1 _ (jah (i:=k) zO)
  obtain ⟨_,g2⟩:=hr2 _ (jah (i:=k) zO)
  have hfk:=hf _ (jah (l:=ls) (i:=k) zO)
  rw [e1] at g1
  rw [e2] at g2
  refine jar [Zp 0,Zp 1,Zp 2,Zp 3,Zp 5,Zp 6,Zp 7,Zp 8,Zr 4,Zr 9,Zp 10,Zp 11,Zp 12,Zp 13,Zp 14,Zp 15,Zp 17,Zp 18,Zp 19,Zp 20,Zr 16,Zr 21,Zk 22,Zp 23,Zp 24] zK zK (List.Sublist.refl _) ?_;refine Z2 ?_;refine D12 ?_;refine Z3 ?_;refine D12 ?_;refine Zs ?_;refine jaW (v:= .int .i64 (ls.getD k default).lat) rfl zq (by rw [←e1];exact rl1.fat k 0 zO zO rfl) ?_;refine jaW (v:= .int .i64 (ls.getD k default).lat) rfl zq (by rw [←e2];exact rl2.fat k 0 zO zO rfl) ?_;refine ja5 rfl zq rfl ?_;refine Z3 ?_;refine jcq rfl rfl rfl zO zO ?_;refine Z3 ?_;refine jcq rfl rfl rfl zO zO ?_;refine Zs ?_;refine jaW (v:= .slice (l1.getD k default).p (ls.getD k default).figs.length (l1.getD k default).c) rfl rfl (by rw [←e1];exact rl1.fat k 1 zO zO rfl) ?_;refine jaW (v:= .slice (l2.getD k default).p (ls.getD k default).figs.length (l2.getD k default).c) rfl rfl (by rw [←e2];exact rl2.fat k 1 zO zO rfl) ?_;refine jag (Post:=fun v=>v= .bool true) rfl rfl zK (fun H' hH=>f114_t m H' (xs:=(ls.getD k default).figs) (fun hp=>(g1 hp).keeps (sq hH)) (fun hp=>(g2 hp).keeps (sq hH)) hfk) ?_;rintro v rfl;refine Z12 ?_
  exact E18
 ·refine Z8 ?_;refine jad (h) rfl Tryz.func115 rfl jab ?_;refine Zs ?_
  exact ⟨rfl,rfl⟩
theorem f54_t (m:Md Tryz.prog B) (h:Hp) (ra:RawTb B h b ps ns ks pw nw cw pb nb cb) {ks2:Nat} {cw2:Nat} {cb2:Nat} (ra2:RawTb B h b ps2 ns ks2 pw2 nw cw2 pb2 nb cb2) (hf:(∀l∈b.waters,l.figs.length≤1000)∧ ∀l∈b.butts,l.figs.length≤1000):FnC m 54 #[tbV b ps ns ks pw nw cw pb nb cb,tbV b ps2 ns ks2 pw2 nw cw2 pb2 nb cb2] h fun v h'=>h'=h∧v= .bool true:=by
 refine jaf Tryz.func54 rfl rfl (l:=(tbV b ps ns ks pw nw cw pb nb cb)::(tbV b ps2 ns ks2 pw2 nw cw2 pb2 nb cb2)::uu29) rfl ?_
 intro cf cs K hK
 refine Z2 ?_
 refine jaX rfl zq (fun q1=>jau (jae ?_));refine jaX rfl zq (fun q2=>jau (jae ?_));refine Z3 ?_;refine jaK [Zf 0,Zf 1,Zf 2,Zf 3,Zf 4,Zf 5,Zf 6,Zf 7,Zf 8,Zf 9,Zf 10,Zf 11,Zf 12,Zf 13,Zf 14,Zf 15,Zf 16,Zf 17,Zf 18,Zf 19,Zf 20,Zf 21,Zf 22,Zf 23,Zf 24,Zf 25,Zf 26] zK zK ?_;refine Z4 ?_;refine jbn rfl zq rfl ?_;refine Z5 ?_;refine jag (Post:=fun v=>v= .bool true) rfl rfl zK (fun H' hH=>f114_t m H' (fun _=>ra.s.keeps (sq hH)) (fun _=>ra2.s.keeps (sq hH)) ra.sn) ?_
 rintro v rfl;refine Z7 ?_;refine jag (Post:=fun v=>v= .bool true) rfl rfl zK (fun H' hH=>f115_t m H' (ra.w.keeps (sq hH)) (ra2.w.keeps (sq hH)) ra.wn hf.1) ?_
 rintro v rfl;refine Z7 ?_;refine jag (Post:=fun v=>v= .bool true) rfl rfl zK (fun H' hH=>f115_t m H' (ra.u.keeps (sq hH)) (ra2.u.keeps (sq hH)) ra.un hf.2) ?_
 rintro v rfl;refine Z5 ?_;refine jad (h) rfl Tryz.func54 rfl jab ?_;refine Zs ?_
 exact ⟨rfl,rfl⟩
theorem f58_t (m:Md Tryz.prog B) (h:Hp) {c1 c2:Nat} {ys:List Int} (r1:RdS B h 1 (.slice p1 xs.length c1) xs.length (jaI xs)) (r2:RdS B h 1 (.slice p2 ys.length c2) ys.length (jaI ys)) (h1:xs.length≤1000) (h2:ys.length≤1000) (hin: ∀x∈xs,x∈ys):FnC m 58 #[.slice p1 xs.length c1,.slice p2 ys.length c2] h fun v h'=>h'=h∧v= .bool true:=by
 refine jaf Tryz.func58 rfl rfl (l:=(.slice p1 xs.length c1)::(.slice p2 ys.length c2)::uu17) rfl ?_
 intro cf cs K hK
 refine Z10 ?_
 refine jai (fun nn l h'=> ∃(k:Nat),nn=xs.length-k∧(k≤xs.length)∧(∃U:Nat→Value,l=((.slice p1 xs.length c1)::(.slice p2 ys.length c2)::(U 2)::(U 3)::(U 4)::(.int .i64 (k:Int))::vw13 U 6 []))∧h=h') _ ⟨0,rfl,by omega,exU rfl,rfl⟩ ?_;rintro nn l h' ⟨k,rfl,hk,⟨U,rfl⟩,rfl⟩ hnext;refine Z6 ?_
 refine jao rfl zq (fun hc=>?_) (fun hc=>?_)
 ·refine Z6 ?_
  obtain ⟨b1,o1,rfl⟩:=r1.ptr zO
  have hkm:=hin _ (jcU.2 ⟨k,by omega,rfl⟩)
  refine Z4 ?_;refine D12 ?_;refine jaW rfl zq (r1.iat k zO zO) ?_;refine jag (Post:=fun v=>IsB _ v) rfl zq zK (fun H' hH=>f35_c m H' _ (r2.keeps (sq hH)) zO) ?_
  rintro v (⟨hc,rfl⟩|⟨hc,rfl⟩)
  ·refine Z11 ?_
   exact E18
  ·refine Zs ?_
   exact absurd hkm hc
 ·refine Z8 ?_;refine jad (h) rfl Tryz.func58 rfl jab ?_;refine Zs ?_
  exact ⟨rfl,rfl⟩
end
section
variable [LaidO B]
section
variable (ok:TbOk b) (hk:k<(jaa b).length) {c:Ce} (hcx:c=(jaa b).getD k default)
include ok hk hcx
theorem drop_cells:jaa (jat b c jbG)=(jaa b).eraseIdx k:=by
 have hm:(jaa b).getD k default∈jaa b:=jah hk
 rw [hcx,jby ok (jaA hm).1,ja9 (jbu b) hk]
theorem drop_at (hj:j<(jaa b).length) (hne:k≠j): ∃i,i<(jaa (jat b c jbG)).length∧shf k i=j∧(jaa (jat b c jbG)).getD i default=(jaa b).getD j default:=by
 have hi:shf k (if j<k then j else j-1)=j:=by
  by_cases h:j<k
  ·rw [if_pos h,shf,if_pos h]
  ·rw [if_neg h,shf,if_neg zO];omega
 refine ⟨if j<k then j else j-1,?_,hi,?_⟩
 ·rw [drop_cells ok hk hcx,List.length_eraseIdx,if_pos hk];split<;>omega
 ·rw [drop_cells ok hk hcx,getD_erase,hi]
end
end
end Go.Proofs
namespace Go.Proofs
open Go.Lo
theorem dig_all:((List.range 12).all fun n=>decide (jfL (jdj n))&&decide (jrZ (jdj n)=(n:Int))&&decide (jdj n≠[63])&&(jdj n).all fun c=>decide (c≠45))=true:=by kernel_rfl
theorem dig_is (h:n<12):jfL (jdj n)∧jrZ (jdj n)=(n:Int)∧jdj n≠[63]∧ ∀c∈jdj n,c≠45:=by
 have:=List.all_eq_true.1 dig_all n (List.mem_range.2 h)
 simp only [Bool.and_eq_true,decide_eq_true_eq,List.all_eq_true] at this
 exact ⟨this.1.1.1,this.1.1.2,this.1.2,this.2⟩
theorem jms {c:UInt8} (h:jgh c):UInt8.ofNat (48+(c.toNat-48))=c:=by
 unfold jgh at h
 rw [show 48+(c.toNat-48)=c.toNat by omega];exact UInt8.ofNat_toNat
theorem jur {p:Str} (h: ∀c∈p,c≠45) (ok:jfL p) (h11:jrZ p≤11):jdj (jrZ p).toNat=p:=by
 rw [jjE h ok] at h11⊢
 obtain ⟨h1,h2,h3⟩:=(jl2 h).1 ok
 rcases p with _|⟨c,q⟩
 ·simp at h1
 ·have hc:=h3 c zS
  have hcp:=hc
  unfold jgh at hcp
  rw [Int.toNat_natCast];rcases q with _|⟨d,q⟩
  ·have e:jdi 0 [c]=c.toNat-48:=by simp [jdi]
   rw [e] at h11⊢
   have hb:=jms hc
   rw [jdj,if_pos zO,hb]
  ·have hd:=h3 d zS
   have hdp:=hd
   unfold jgh at hdp
   have h48:c.toNat≠48:=fun e=>h2 ⟨by show c=48;exact UInt8.toNat_inj.1 (by rw [e];rfl),by simp⟩
   rcases q with _|⟨x,q⟩
   ·have e:jdi 0 [c,d]=10*(c.toNat-48)+(d.toNat-48):=by simp [jdi]
    rw [e] at h11⊢
    have hb:=jms hc
    have hb2:=jms hd
    rw [jdj,if_neg zO,show (10*(c.toNat-48)+(d.toNat-48))/10=c.toNat-48 by omega,show (10*(c.toNat-48)+(d.toNat-48))%10=d.toNat-48 by omega,hb,hb2]
   ·have:=jjW (d::x::q) (10*0+(c.toNat-48)) zO
    have e:jdi 0 (c::d::x::q)=jdi (10*0+(c.toNat-48)) (d::x::q):=rfl
    rw [e] at h11
    simp only [List.length_cons] at this
    omega
theorem jq6 {p:Str} (hk:k<3) (h: ∀c∈p,c≠45) (ok:jft p k):jaG (jbZ p)=p:=by
 rcases ok with e|⟨h1,h2,h3⟩
 ·rw [e];rfl
 ·have hm:=(jdW hk).2
  by_cases e:p=[63]
  ·rw [e];rfl
  ·rw [jbZ,if_neg e,jaG,if_neg zO];exact jur h h1 zO
theorem jhN {x:Int} (hk:k<3) (h1: -1≤x) (h2:x≤mosts.getD k 0):jft (jaG x) k∧jbZ (jaG x)=x∧ ∀c∈jaG x,c≠45:=by
 have hm:=(jdW hk).2
 by_cases e:x= -1
 ·subst e
  exact ⟨.inl rfl,rfl,by decide⟩
 ·obtain ⟨d1,d2,d3,d4⟩:=dig_is (n:=x.toNat) zO
  rw [jaG,if_neg e,jbZ,if_neg d3,d2];exact ⟨.inr ⟨d1,by omega,by omega⟩,by omega,d4⟩
theorem jeV {s:Str} (h:ja6 s=true):(jfw s 45).length=3∧jfw s 45=(jal s).map jaG∧PtOk (jal s):=by
 have ok:=(jfK s).2 h
 have e:=jiN s
 rw [jg9,if_pos ok,if_pos h,jmG,List.take_of_length_le (by rw [ok.1];exact Nat.le_refl _)] at e
 have hp: ∀k,k<3→jaG (jbZ ((jfw s 45).getD k []))=(jfw s 45).getD k []:=fun k hk=>by
  refine jq6 hk ?_ (ok.2 k hk)
  have:=jg0 s
  rw [←jj7] at this
  exact this _ (jah (l:=jfw s 45) (by rw [ok.1];exact hk))
 refine ⟨ok.1,?_,?_⟩
 ·rw [←e,List.map_map];refine List.ext_getElem zS fun i h1 h2=>?_
  rw [ok.1] at h1
  have:=hp i h1
  rw [List.getD_eq_getElem?_getD,List.getElem?_eq_getElem (by rw [ok.1];exact h1),Option.getD_some] at this
  rw [List.getElem_map];exact this.symm
 ·have hv: ∀k,k<3→(jal s).getD k 0=jbZ ((jfw s 45).getD k []):=fun k hk=>by
   rw [←e,List.getD_eq_getElem?_getD,List.getElem?_map,List.getElem?_eq_getElem (by rw [ok.1];exact hk),List.getD_eq_getElem?_getD,List.getElem?_eq_getElem (by rw [ok.1];exact hk)];rfl
  have hb: ∀k,k<3→ -1≤jbZ ((jfw s 45).getD k [])∧jbZ ((jfw s 45).getD k [])≤mosts.getD k 0:=fun k hk=>by
   have hm:=(jdW hk).1
   rcases ok.2 k hk with e|⟨h1,h2,h3⟩
   ·rw [e,jbZ,if_pos rfl];omega
   ·unfold jbZ
    split<;>omega
  have hl:(jal s).length=3:=by rw [←e,List.length_map,ok.1]
  refine ⟨hl,fun j=>?_,fun j hj=>by rw [hv j hj];exact (hb j hj).2⟩
  by_cases hj:j<3
  ·rw [hv j hj];exact (hb j hj).1
  ·rw [List.getD_eq_getElem?_getD,List.getElem?_eq_none zO];decide
theorem jsu {c:UInt8}: ∀{a:Str},(∀x∈a,x≠c)→spl c a=[a]
 |[],_=>rfl
 |x::a,h=>by rw [spl,if_neg (h x zS),jsu fun y hy=>h y (by simp [hy])]
theorem jlG {c:UInt8} {r:Str}: ∀{a:Str},(∀x∈a,x≠c)→spl c (a++c::r)=a::spl c r
 |[],_=>by rw [List.nil_append,spl,if_pos rfl]
 |x::a,h=>by rw [List.cons_append,spl,if_neg (h x zS),jlG fun y hy=>h y (by simp [hy])]
theorem jkL {v:List Int} (h:PtOk v):ja6 (jcJ v)=true∧jal (jcJ v)=v:=by
 obtain ⟨hl,h1,h2⟩:=h
 rcases v with _|⟨a,_|⟨b,_|⟨c,_|⟨d,r⟩⟩⟩⟩<;>simp at hl
 obtain ⟨a1,a2,a3⟩:=jhN (k:=0) zA (h1 0) (h2 0 zA)
 obtain ⟨b1,b2,b3⟩:=jhN (k:=1) zA (h1 1) (h2 1 zA)
 obtain ⟨c1,c2,c3⟩:=jhN (k:=2) zA (h1 2) (h2 2 zA)
 replace a2:jbZ (jaG a)=a:=a2
 replace b2:jbZ (jaG b)=b:=b2
 replace c2:jbZ (jaG c)=c:=c2
 replace a3: ∀x∈jaG a,x≠45:=a3
 replace b3: ∀x∈jaG b,x≠45:=b3
 replace c3: ∀x∈jaG c,x≠45:=c3
 have e:jfw (jcJ [a,b,c]) 45=[jaG a,jaG b,jaG c]:=by
  rw [jj7];show spl 45 (jaG a++(45::jaG b++(45::jaG c++[])))=_
  rw [List.append_nil,List.cons_append,jlG a3,jlG b3,jsu c3]
 have ok:okR (jcJ [a,b,c]):=by
  refine ⟨by rw [e];rfl,fun k hk=>?_⟩
  rw [e];rcases (by omega:k=0∨k=1∨k=2) with rfl|rfl|rfl
  ·exact a1
  ·exact b1
  ·exact c1
 have hf:=(jfK _).1 ok
 refine ⟨hf,?_⟩
 have e2:=jiN (jcJ [a,b,c])
 rw [jg9,if_pos ok,if_pos hf,jmG,e] at e2
 rw [←e2];show [jbZ (jaG a),jbZ (jaG b),jbZ (jaG c)]=_
 rw [a2,b2,c2]
theorem jf1 (hi:i<3):(jba p o).getD i 0=if p.getD i 0= -1 then o.getD i 0 else p.getD i 0:=by
 rw [jba,List.getD_eq_getElem?_getD,List.getElem?_map,List.getElem?_range hi,Option.map_some,Option.getD_some]
theorem fitsP_iff:jcr p n=true↔ ∀i,i<3→p.getD i 0<0∨p.getD i 0=(jbr n).getD i 0:=by
 unfold jcr
 rw [List.all_eq_true];constructor
 ·intro h i hi
  have:=h i (List.mem_range.2 hi)
  simpa using this
 ·intro h i hi
  have:=h i (List.mem_range.1 hi)
  simpa using this
theorem jrH (hp:PtOk p) (ho:PtOk o) (hc:jba o p=jba p o):jcr (jba p o) n=true↔jcr p n=true∧jcr o n=true:=by
 rw [fitsP_iff,fitsP_iff,fitsP_iff];have hi: ∀i,i<3→(((jba p o).getD i 0<0∨(jba p o).getD i 0=(jbr n).getD i 0)↔((p.getD i 0<0∨p.getD i 0=(jbr n).getD i 0)∧(o.getD i 0<0∨o.getD i 0=(jbr n).getD i 0))):=fun i hi=>by
  have e1:=jf1 (p:=p) (o:=o) hi
  have e2:=jf1 (p:=o) (o:=p) hi
  rw [hc] at e2
  have l1:=hp.lo i
  have l2:=ho.lo i
  rw [e1] at e2⊢
  by_cases g1:p.getD i 0= -1
  ·rw [if_pos g1];omega
  ·rw [if_neg g1] at e2⊢
   by_cases g2:o.getD i 0= -1
   ·omega
   ·rw [if_neg g2] at e2
    omega
 constructor
 ·intro h
  exact ⟨fun i h3=>((hi i h3).1 (h i h3)).1,fun i h3=>((hi i h3).1 (h i h3)).2⟩
 ·rintro ⟨h1,h2⟩ i h3;exact (hi i h3).2 ⟨h1 i h3,h2 i h3⟩
theorem mem_meaP (hn:n<960):(n:Int)∈jdJ p↔jcr p n=true:=by
 unfold jdJ
 rw [List.mem_map];constructor
 ·rintro ⟨k,hk,e⟩;have:k=n:=by omega
  rw [this] at hk
  exact (List.mem_filter.1 hk).2
 ·intro h
  exact ⟨n,List.mem_filter.2 ⟨List.mem_range.2 hn,h⟩,rfl⟩
theorem jtw (hp:PtOk p) (ho:PtOk o) (hc:jba o p=jba p o):jdJ (jba p o)=(jdJ p).filter fun v=>decide (v∈jdJ o):=by
 have e: ∀p:List Int,jdJ p=((List.range 960).filter (jcr p)).map fun (n:Nat)=>(n:Int):=fun _=>rfl
 rw [e (jba p o),e p,List.filter_map,List.filter_filter];refine congrArg (List.map _) (List.filter_congr fun n hn=>?_)
 rw [Bool.eq_iff_iff,jrH hp ho hc,Bool.and_eq_true];show _↔decide ((n:Int)∈jdJ o)=true∧_
 rw [decide_eq_true_eq,mem_meaP (List.mem_range.1 hn)];exact And.comm
theorem dA_set {c:List Int}: ∀{k i:Nat},(dA (setCan D k c) i).st=(dA D i).st∧(dA (setCan D k c) i).butt=(dA D i).butt∧(dA (setCan D k c) i).lat=(dA D i).lat:=by
 induction D with
 |nil=>intro k i;exact ⟨rfl,rfl,rfl⟩
 |cons d D ih=>
  intro k i
  cases k with
  |zero=>cases i<;>exact ⟨rfl,rfl,rfl⟩
  |succ k=>
   cases i with
   |zero=>exact ⟨rfl,rfl,rfl⟩
   |succ i=>exact ih (k:=k) (i:=i)
theorem lowC_at {p u:Int} {d e:Cd} {o:Option Int} (h:e.st=d.st∧e.butt=d.butt∧e.lat=d.lat):lowC bt st p e o u↔lowC bt st p d o u:=by
 unfold lowC
 rw [h.1,h.2.1,h.2.2]
theorem highC_at {p u:Int} {d e:Cd} {o:Option Int} (h:e.st=d.st∧e.butt=d.butt∧e.lat=d.lat):highC bt st p e o u↔highC bt st p d o u:=by
 unfold highC
 rw [h.1,h.2.1,h.2.2]
theorem jkQ (D:List Cd) (k:Nat) (c:List Int):(setCan D k c).length=D.length:=by
 induction D generalizing k with
 |nil=>rfl
 |cons d D ih=>cases k with
  |zero=>rfl
  |succ k=>simp [setCan,ih]
theorem bd_set {c:List Int} {x:Bo} {p:Int}:bdA (setCan D k c) x bt st p=bdA D x bt st p:=by
 have h1: ∀t,(bdA (setCan D k c) x bt st p).1≤t↔(bdA D x bt st p).1≤t:=fun t=>by
  rw [bdA_low,bdA_low,jkQ];refine and_congr_right fun _=>forall_congr' fun i=>forall_congr' fun _=>forall_congr' fun u=>?_
  rw [lowC_at dA_set]
 have h2: ∀t,t≤(bdA (setCan D k c) x bt st p).2↔t≤(bdA D x bt st p).2:=fun t=>by
  rw [bdA_high,bdA_high,jkQ];refine and_congr_right fun _=>forall_congr' fun i=>forall_congr' fun _=>forall_congr' fun u=>?_
  rw [highC_at dA_set]
 exact E93
section
variable (ok:TbOk b) (hk:k<(jaa b).length) {c:Ce} (hcx:c=(jaa b).getD k default) {f g:Str} (hf:ja6 f=true) (hc:jba (jal f) (jal (jbo b c))=jba (jal (jbo b c)) (jal f)) (hg:g=jcJ (jba (jal (jbo b c)) (jal f)))
include ok hk hcx hf hc hg
theorem jpL:ja6 g=true∧g≠jbG∧jbl g=(jbl (jbo b c)).filter fun v=>decide (v∈jbl f):=by
 have hm:c∈jaa b:=hcx▸jah hk
 have hw:=fig_ok ok hm
 have p1:=(jeV hw).2.2
 have p2:=(jeV hf).2.2
 obtain ⟨t1,t2⟩:=jkL (jiD p1 p2)
 rw [←hg] at t1 t2
 refine ⟨t1,fun e=>?_,?_⟩
 ·rw [e] at t1
  exact absurd t1 zA
 ·have e1:jbl g=jdJ (jal g):=by rw [jbl,if_pos t1]
  have e2:jbl (jbo b c)=jdJ (jal (jbo b c)):=by rw [jbl,if_pos hw]
  have e3:jbl f=jdJ (jal f):=by rw [jbl,if_pos hf]
  rw [e1,e2,e3,t2,jtw p1 p2 hc]
theorem jq2:jaa (jat b c g)=jaa b:=setF_cells_same ok (hcx▸jah hk) (jpL ok hk hcx hf hc hg).2.1
theorem jsW:cdT (jat b c g)=setCan (cdT b) k ((dA (cdT b) k).can.filter fun v=>decide (v∈jbl f)):=by
 have h:=jpL ok hk hcx hf hc hg
 rw [can_at hk,←hcx,←h.2.2,hcx,cdT_put ok hk h.2.1]
theorem jkW:jac (jat b c g)=(jac b).filter fun x=>keepV (fun v=>decide (v∈jbl f)) (xA x k):=by
 rw [jac,jsW ok hk hcx hf hc hg,setF_wrong];exact boatsA_setCan (by rw [jaq];exact hk)
theorem jpK {x:Bo} (hx:x∈jac (jat b c g)):x∈jac b:=by
 rw [jkW ok hk hcx hf hc hg] at hx
 exact (List.mem_filter.1 hx).1
theorem read_len:(jac (jat b c g)).length≤(jac b).length:=by
 rw [jkW ok hk hcx hf hc hg];exact List.length_filter_le _ _
theorem read_can (j:Nat): ∀v∈jck (cdT (jat b c g)) (jac (jat b c g)) j,v∈jck (cdT b) (jac b) j:=fun v hv=>by
 obtain ⟨x,hx,e⟩:=mem_canS_boats.1 (show v∈jck (cdT (jat b c g)) (jak (cdT (jat b c g)) (jat b c g).wrong.toNat) j from hv)
 exact mem_canS_boats.2 ⟨x,jpK ok hk hcx hf hc hg hx,e⟩
theorem jsV (bt:Bool) (st p:Int):(jdT b bt st p).1≤(jdT (jat b c g) bt st p).1∧(jdT (jat b c g) bt st p).2≤(jdT b bt st p).2:=by
 unfold jdT
 rw [jsW ok hk hcx hf hc hg];refine spB_in fun x hx=>⟨x,jpK ok hk hcx hf hc hg hx,?_⟩
 rw [bd_set];exact E94
end
end Go.Proofs
namespace Go.Proofs
open Go.Lo
open Go.Conc (G)
section
variable [LaidO B]
def zT:Tb:=⟨0,[],[],[]⟩
theorem raw_zero:RawTb B h zT none 0 0 none 0 0 none 0 0:=by
 have r: ∀w,RdS B h w (.slice none 0 0) 0 []:=fun w=>⟨none,0,rfl,by simp,.inl ⟨rfl,rfl⟩⟩
 have l:RdLn B h (.slice none 0 0) 0 []:=⟨[],rfl,r 2,fun x hx=>by cases hx⟩
 exact E91
theorem zero_same (m:Md Tryz.prog B) (h:Hp):FnC m 54 #[.agg zeroL.toArray,.agg zeroL.toArray] h fun v h'=>h'=h∧v= .bool true:=
 f54_t m h (b:=zT) raw_zero raw_zero ⟨fun l hl=>(by cases hl),fun l hl=>(by cases hl)⟩
section
variable (ok:TbOk b) (h0:b.wrong=0) (hk:k<(jaa b).length) {c:Ce} (hcx:c=(jaa b).getD k default) (hn:n<960)
include ok hk hcx hn
include h0
end
end
section
variable [LaidO B]
theorem jpT {x:Int} (h1: -1≤x) (h2:x≤11):jaG x=[63]↔x= -1:=by
 constructor
 ·intro h
  refine Classical.byContradiction fun e=>?_
  rw [jaG,if_neg e] at h
  exact (dig_is (n:=x.toNat) zO).2.2.1 h
 ·rintro rfl;rfl
def XK (p o:List Int) (k:Nat):List Str:=(List.range 3).map fun j=>jaG (if j<k then (jba p o).getD j 0 else p.getD j 0)
theorem jgT (p o:List Int) (k:Nat):(XK p o k).length=3:=rfl
theorem jot (hj:j<3):(XK p o k).getD j []=jaG (if j<k then (jba p o).getD j 0 else p.getD j 0):=by
 rw [XK,List.getD_eq_getElem?_getD,List.getElem?_map,List.getElem?_range hj];rfl
theorem xk_zero (h:p.length=3):XK p o 0=p.map jaG:=by
 rcases p with _|⟨a,_|⟨b,_|⟨c,_|⟨d,r⟩⟩⟩⟩<;>simp at h
 rfl
theorem map3 {β:Type} (f g:Nat→β) (h: ∀j,j<3→f j=g j):(List.range 3).map f=(List.range 3).map g:=List.map_congr_left fun j hj=>h j (List.mem_range.1 hj)
theorem xk_no (hk:k<3) (h:p.getD k 0≠ -1):XK p o (k+1)=XK p o k:=by
 refine map3 _ _ fun j hj=>?_
 by_cases e:j<k
 ·rw [if_pos e,if_pos zO]
 ·by_cases e2:j=k
  ·subst e2
   rw [if_pos zO,if_neg e,jf1 hj,if_neg h]
  ·rw [if_neg e,if_neg zO]
theorem xk_yes (hk:k<3) (h:p.getD k 0= -1):XK p o (k+1)=(XK p o k).set k (jaG (o.getD k 0)):=by
 refine List.ext_getElem (by simp [jgT]) fun j h1 h2=>?_
 have hj:j<3:=h1
 have e1:=jot (p:=p) (o:=o) (k:=k+1) hj
 have e2:=jot (p:=p) (o:=o) (k:=k) hj
 rw [List.getD_eq_getElem?_getD,List.getElem?_eq_getElem (by rw [jgT];exact hj),Option.getD_some] at e1 e2
 rw [List.getElem_set];by_cases e:k=j
 ·subst e
  rw [if_pos rfl,e1,if_pos zO,jf1 hj,if_pos h]
 ·rw [if_neg e,e1,e2];congr 1
  by_cases e3:j<k
  ·rw [if_pos e3,if_pos zO]
  ·rw [if_neg e3,if_neg zO]
theorem seg_x (hk:k<3) (h:p.getD k 0= -1):SetSeg (jaC (XK p o k)++jx) (0+((k:Nat):Int).toNat*1) [str (jaG (o.getD k 0))] (jaC (XK p o (k+1))++jx):=⟨by
 have hl:k<(jaC (XK p o k)).length:=by rw [jbT,List.length_map,jgT];exact hk
 rw [show 0+((k:Nat):Int).toNat*1=k by omega];refine ⟨?_,by simp only [List.length_append,List.length_cons,List.length_nil];omega⟩
 have:=jsI (cs:=jaC (XK p o k)++jx) (k:=k) (u:=str (jaG (o.getD k 0))) (by rw [List.length_append];omega)
 show _=List.take k (jaC (XK p o k)++jx)++[str (jaG (o.getD k 0))]++List.drop (k+1) (jaC (XK p o k)++jx)
 rw [this,List.set_append_left _ _ hl,xk_yes hk h,jbT,jbT,List.map_set]⟩
theorem piece_at (h:k<o.length):(o.map jaG).getD k []=jaG (o.getD k 0):=by
 rw [List.getD_eq_getElem?_getD,List.getElem?_map,List.getElem?_eq_getElem h,List.getD_eq_getElem?_getD,List.getElem?_eq_getElem h];rfl
theorem jso:jcJ (jba p o)=jaG ((jba p o).getD 0 0)++[45]++jaG ((jba p o).getD 1 0)++[45]++jaG ((jba p o).getD 2 0):=by
 have e: ∀v:List Int,v.length=3→jcJ v=jaG (v.getD 0 0)++[45]++jaG (v.getD 1 0)++[45]++jaG (v.getD 2 0):=fun v hv=>by
  rcases v with _|⟨a,_|⟨b,_|⟨c,_|⟨d,r⟩⟩⟩⟩<;>simp at hv
  simp [jcJ,jl9]
 exact e _ (by simp [jba])
theorem f56_c (m:Md Tryz.prog B) (h:Hp) {s t:Str} (hs:ja6 s=true) (ht:ja6 t=true) (ls:s.length≤100000) (lt:t.length≤100000) (hcon0:jba (jal t) (jal s)=jba (jal s) (jal t)):FnC m 56 #[str s,str t] h fun v h'=>h'=h∧v= .tuple [str (jcJ (jba (jal s) (jal t))),.bool true].toArray:=by
 obtain ⟨cl1,ce1,po1⟩:=jeV hs
 obtain ⟨cl2,ce2,po2⟩:=jeV ht
 obtain ⟨p,hp⟩: ∃p,p=jal s:=⟨_,rfl⟩
 obtain ⟨o,ho⟩: ∃o,o=jal t:=⟨_,rfl⟩
 rw [←hp] at ce1 po1 hcon0⊢
 rw [←ho] at ce2 po2 hcon0⊢
 refine jaf Tryz.func56 rfl rfl (l:=(str s)::(str t)::uu56) rfl ?_
 intro cf cs K hK
 refine Z8 ?_;refine jaD rfl zq zK (Post:=fun w new=>OwnS 9 1 w 3 (jaC (List.map jaG p)) new) (fun H' hH=>by have:=f63_c m H' s ls 45;rw [cl1,ce1] at this;exact this) ?_
 rintro w n1 o1;refine jaH (jae ?_);obtain ⟨qx,cx,jx,rfl,rfl,_,hjx,hcx⟩:=jc2 o1 zA
 rw [jbT,List.length_map,List.length_map,po1.len] at hjx
 refine Zs ?_;refine jaD rfl zq zK (Post:=fun w new=>OwnS 9 1 w 3 (jaC (List.map jaG o)) new) (fun H' hH=>by have:=f63_c m H' t lt 45;rw [cl2,ce2] at this;exact this) ?_
 rintro w n2 o2;refine jaH (jae ?_);obtain ⟨py,cy,rfl,hcy,ry⟩:=jav (B:=B) o2
 obtain ⟨by_,oy_,rfl⟩:=ry.ptr zA
 refine Z9 ?_
 refine jai (fun nn l h'=> ∃(k:Nat),nn=3-k∧(k≤3)∧(∃U:Nat→Value,l=((str s)::(str t)::vw4 U 2 ((.slice (some ⟨qx,0,none⟩) 3 cx)::(.slice (some ⟨by_,oy_,none⟩) 3 cy)::(.int .i64 (k:Int))::vw49 U 9 [])))∧h++[⟨true,qx,.cells (jaC (XK p o k)++jx).toArray 9 (0,0)⟩]++n2=h') _ ⟨0,rfl,by omega,exU rfl,(by rw [xk_zero po1.len])⟩ ?_;rintro nn l h' ⟨k,rfl,hk,⟨U,rfl⟩,rfl⟩ hnext;refine Z4 ?_
 refine jao rfl zq (fun hc=>?_) (fun hc=>?_)
 ·refine Z7 ?_
  have hk3:k<3:=by omega
  have hx1:=po1.lo k
  have hx2:=po1.hi k hk3
  have hy1:=po2.lo k
  have hy2:=po2.hi k hk3
  have hmo:=(jdW hk3).2
  have hpx:=jpT (x:=p.getD k 0) hx1 zO
  have hpy:=jpT (x:=o.getD k 0) hy1 zO
  have ox:OwnS 9 1 (.slice (some ⟨qx,0,none⟩) 3 cx) 3 (jaC (XK p o (k))) [⟨true,qx,.cells (jaC (XK p o (k))++jx).toArray 9 (0,0)⟩]:=OwnS.blk (by rw [jbT,List.length_map,jgT]) (by rw [jbT,List.length_map,jgT];exact hjx) hcx
  have rx:=ox.rd (B:=B) (List.Sublist.refl _)
  have hxk:=jot (p:=p) (o:=o) (k:=k) hk3
  rw [if_neg zO] at hxk
  have hyk:=piece_at (o:=o) (k:=k) (by rw [po2.len];exact hk3)
  have hxn:=jot (p:=p) (o:=o) (k:=k+1) hk3
  rw [if_pos zO] at hxn
  refine Z3 ?_;refine D12 ?_;refine jaW (v:=str (jaG (p.getD k 0))) rfl zq (by rw [←hxk];exact rx.sat k rfl hk3) ?_
  by_cases hx:jaG (p.getD k 0)=[63]
  refine jhS rfl zq hx ?_;refine Z7 ?_;refine D12 ?_;refine jaW (v:=str (jaG (o.getD k 0))) rfl zq (by rw [←hyk];exact ry.sat k rfl hk3) ?_;refine D12 ?_;haveI:=seg_x (p:=p) (o:=o) (jx:=jx) hk3 (hpx.1 hx)
  refine D9 ?_;refine Zs ?_
  rotate_left
  refine jhT rfl zq hx ?_;rw [←xk_no (o:=o) hk3 (fun e=>hx (hpx.2 e))];refine Z3 ?_
  all_goals
   refine Zs ?_
   have ox:OwnS 9 1 (.slice (some ⟨qx,0,none⟩) 3 cx) 3 (jaC (XK p o (k+1))) [⟨true,qx,.cells (jaC (XK p o (k+1))++jx).toArray 9 (0,0)⟩]:=OwnS.blk (by rw [jbT,List.length_map,jgT]) (by rw [jbT,List.length_map,jgT];exact hjx) hcx
   have rx2:=ox.rd (B:=B) (List.Sublist.refl _)
   have hcon:o.getD k 0≠ -1→o.getD k 0=(jba p o).getD k 0:=fun e=>by
    have e1:=jf1 (p:=p) (o:=o) hk3
    have e2:=jf1 (p:=o) (o:=p) hk3
    rw [hcon0,if_neg e] at e2
    exact e2.symm
   refine jar [Zp 0,Zp 1,Zp 2,Zr 3,Zp 4,Zp 5,Zp 6,Zp 7,Zp 8,Zp 10,Zp 11,Zp 12,Zr 9,Zr 13,Zp 14,Zp 15] zK zK (List.Sublist.refl _) ?_;refine Z2 ?_;refine D12 ?_;refine jaW (v:=str (jaG (o.getD k 0))) rfl zq (by rw [←hyk];exact ry.sat k rfl hk3) ?_;by_cases hy:jaG (o.getD k 0)=[63]
   refine jdL rfl zq hy ?_;refine Z11 ?_;rotate_left
   refine jhR rfl zq hy ?_;have heq:jaG (o.getD k 0)=jaG ((jba p o).getD k 0):=by rw [←hcon fun e=>hy (hpy.2 e)]
   refine Z3 ?_;refine jcq rfl rfl rfl zO zO ?_;refine Z2 ?_;refine jcq rfl rfl rfl zO zO ?_;refine jaW (v:=str (jaG (o.getD k 0))) rfl rfl (by rw [←hyk];exact ry.sat k rfl hk3) ?_;refine jaW (v:=str (jaG ((jba p o).getD k 0))) rfl rfl (by rw [←hxn];exact rx2.sat k rfl hk3) ?_;refine jdL rfl rfl heq ?_;refine Zs ?_
   all_goals
    refine Z9 ?_
    exact E18
 ·refine Z4 ?_
  obtain rfl:k=3:=by omega
  have ox:OwnS 9 1 (.slice (some ⟨qx,0,none⟩) 3 cx) 3 (jaC (XK p o (3))) [⟨true,qx,.cells (jaC (XK p o (3))++jx).toArray 9 (0,0)⟩]:=OwnS.blk (by rw [jbT,List.length_map,jgT]) (by rw [jbT,List.length_map,jgT];exact hjx) hcx
  have rx:=ox.rd (B:=B) (List.Sublist.refl _)
  have g0:=jot (p:=p) (o:=o) (k:=3) (j:=0) zA
  have g1:=jot (p:=p) (o:=o) (k:=3) (j:=1) zA
  have g2:=jot (p:=p) (o:=o) (k:=3) (j:=2) zA
  rw [if_pos zA] at g0 g1 g2
  refine jar [Zp 0,Zp 1,Zp 4,Zp 5,Zp 9,Zp 10,Zr 2,Zp 3,Zr 6,Zp 7,Zp 8,Zr 11,Zp 12,Zp 13,Zp 14] zK zK (List.Sublist.refl _) ?_;refine Zs ?_;refine D12 ?_;refine Zs ?_;refine D12 ?_;refine Zs ?_;refine D12 ?_;refine jaW (v:=str (jaG ((jba p o).getD 0 0))) rfl zq (by rw [←g0];exact rx.sat 0 rfl zA) ?_;refine k_sadd rfl zq (by have:=jbW ((jba p o).getD 0 0);have:=jbW ((jba p o).getD 1 0);have:=jbW ((jba p o).getD 2 0);simp only [List.length_append,List.length_cons,List.length_nil];omega) ?_;refine jaW (v:=str (jaG ((jba p o).getD 1 0))) rfl zq (by rw [←g1];exact rx.sat 1 rfl zA) ?_;refine k_sadd rfl zq (by have:=jbW ((jba p o).getD 0 0);have:=jbW ((jba p o).getD 1 0);have:=jbW ((jba p o).getD 2 0);simp only [List.length_append,List.length_cons,List.length_nil];omega) ?_;refine k_sadd rfl zq (by have:=jbW ((jba p o).getD 0 0);have:=jbW ((jba p o).getD 1 0);have:=jbW ((jba p o).getD 2 0);simp only [List.length_append,List.length_cons,List.length_nil];omega) ?_;refine jaW (v:=str (jaG ((jba p o).getD 2 0))) rfl zq (by rw [←g2];exact rx.sat 2 rfl zA) ?_;refine k_sadd rfl zq (by have:=jbW ((jba p o).getD 0 0);have:=jbW ((jba p o).getD 1 0);have:=jbW ((jba p o).getD 2 0);simp only [List.length_append,List.length_cons,List.length_nil];omega) ?_;refine Z4 ?_;refine jad (h) rfl Tryz.func56 rfl jab ?_;refine Zs ?_;exact ⟨rfl,by rw [jso]⟩
end
section
variable [LaidO B]
theorem smu_with (hp:p.length=3):(jba p o).countP (fun x=>decide (x= -1))≤p.countP fun x=>decide (x= -1):=by
 rcases p with _|⟨a,_|⟨b,_|⟨c,_|⟨d,r⟩⟩⟩⟩<;>simp at hp
 have e:jba [a,b,c] o=[if a= -1 then o.getD 0 0 else a,if b= -1 then o.getD 1 0 else b,if c= -1 then o.getD 2 0 else c]:=rfl
 rw [e];simp only [List.countP_cons,List.countP_nil,decide_eq_true_eq]
 by_cases h1:a= -1<;>by_cases h2:b= -1<;>by_cases h3:c= -1<;>simp only [h1,h2,h3,if_true,if_false]<;>(repeat' split)<;>omega
theorem jq3 (ok:TbOk b) (hk:k<(jaa b).length) {c:Ce} (hcx:c=(jaa b).getD k default) {g:Str} (hg:g=jcJ (jeC b c f)):jgE b c f=3∨jgE b c f=9∨(jgE b c f=0∧ja6 f=true∧jba (jal f) (jal (jbo b c))=jba (jal (jbo b c)) (jal f)∧g=jcJ (jba (jal (jbo b c)) (jal f))∧TbOk (jat b c g)∧jac (jat b c g)≠[]):=by
 have hz:=jaN.2 ok
 have hm:c∈jaa b:=hcx▸jah hk
 have hht:jbO b c=true:=hcx▸(cell_at hk).1
 by_cases hf:ja6 f=true
 ·have hs:jhA b c f=0:=by
   unfold jhA
   rw [if_neg (fun e=>e hz),if_neg (fun e=>e hm),if_neg (by rw [hf];decide)]
  have hw:jqH b c f=jal (jbo b c):=by rw [jqH,if_pos hs]
  have hn:jrn b c f=jal f:=by rw [jrn,if_pos hs]
  have hb:jeC b c f=jba (jal (jbo b c)) (jal f):=by rw [jeC,hw,hn]
  have hr:jgE b c f=if jba (jal f) (jal (jbo b c))≠jba (jal (jbo b c)) (jal f) then 9 else jaJ (jat b c g) 0:=by
   rw [jgE,if_neg (fun e=>e hs),←hg,hw,hn,hb]
  rw [hr];rw [hb] at hg
  by_cases hc:jba (jal f) (jal (jbo b c))=jba (jal (jbo b c)) (jal f)
  ·have p1:=(jeV (fig_ok ok hm)).2.2
   have p2:=(jeV hf).2.2
   obtain ⟨t1,t2⟩:=jkL (jiD p1 p2)
   rw [←hg] at t1 t2
   have hX:TbOk (jat b c g):=setF_ok ok hht (by rw [jbx,t1];rfl) (by
    have h1:=smu_with (o:=jal f) p1.len
    have h2:=ok.smu
    rw [jb0,t2];have:jb0 (jbo b c)=(jal (jbo b c)).countP fun x=>decide (x= -1):=rfl
    omega)
   rw [if_neg (fun e=>e hc),jaJ,if_neg (fun e=>e (jaN.2 hX)),if_neg (fun e=>e rfl)];by_cases he:jac (jat b c g)=[]
   ·exact .inr (.inl (if_pos he))
   ·exact .inr (.inr ⟨if_neg he,hf,hc,hg,hX,he⟩)
  ·exact .inr (.inl (if_pos hc))
 ·have hs:jhA b c f=3:=by
   unfold jhA
   rw [if_neg (fun e=>e hz),if_neg (fun e=>e hm),if_pos (by simpa using hf)]
  left
  rw [jgE,hs,if_pos zA]
theorem f11_t (h:Hp) (rds:RdS B h 1 (.slice ps ns ks) ns (jaC b.sts)) (hcs:ns≤ks) (rdw:RdLn B h (.slice pw nw cw) nw b.waters) (rdb:RdLn B h (.slice pb nb cb) nb b.butts) (y y2 y3 x1:Nat) (s:Str) (hy:y≤255) (hy2:y2≤255) (hy3:y3≤255) (hx1:x1≤65535):(Md.starC Tryz.prog B).R (jie Tryz.prog B fun v _=>v= .bool true) (G (Frame.enter Tryz.prog 11 #[tbV b ps ns ks pw nw cw pb nb cb,.int .u8 (y:Int),.int .u8 (y2:Int),str s,.int .u8 (y3:Int),.int .u16 (x1:Int)] .normal) []) h:=by
 refine jeb Tryz.func11 rfl rfl (l:=[tbV b ps ns ks pw nw cw pb nb cb,.int .u8 (y:Int),.int .u8 (y2:Int),str s,.int .u8 (y3:Int),.int .u16 (x1:Int),undef,undef,undef,undef,undef,undef,undef,undef,undef,undef,undef,undef,undef,undef,undef,undef,undef,undef,undef,undef,undef,undef,undef,undef,undef,undef,undef,undef,undef,undef,undef,undef,undef,undef,undef,undef,undef,undef,undef,undef,undef,undef,undef,undef,undef,undef,undef,undef,undef,undef,undef,undef,undef,undef,undef,undef,undef,undef,undef,undef,undef,undef,undef,undef,undef,undef,undef,undef,undef,undef,undef,undef,undef,undef,undef,undef,undef,undef,undef,undef,undef,undef,undef,undef,undef,undef,undef,undef,undef,undef,undef,undef,undef,undef,undef,undef,undef,undef,undef,undef,undef,undef,undef,undef,undef,undef,undef,undef,undef,undef,undef,undef,undef,undef,undef,undef,undef,undef,undef,undef,undef,undef,undef,undef,undef,undef,undef,undef,undef,undef,undef,undef,undef,undef,undef,undef,undef,undef,undef,undef,undef,undef,undef,undef,undef,undef,undef,undef,undef,undef,undef,undef,undef,undef,undef,undef,undef,undef,undef,undef,undef,undef,undef,undef,undef,undef,undef,undef,undef,undef,undef,undef,undef,undef,undef,undef,undef,undef,undef,undef,undef,undef,undef,undef,undef,undef,undef,undef,undef,undef,undef,undef,undef,undef,undef,undef,undef,undef,undef,undef,undef,undef,undef,undef,undef,undef,undef,undef,undef,undef,undef,undef]) rfl ?_;refine Z2 ?_
 refine jaX rfl zq (fun q1=>jau (jae ?_));refine Z4 ?_;refine jsR ?_;refine Zs ?_;refine jag (Post:=fun v=>IsB _ v) rfl zq zK (fun H' hH=>f25_c _ H' (rds.keeps (sq hH)) hcs (rdw.keeps (sq hH)) (rdb.keeps (sq hH))) ?_
 rintro v (⟨hc,rfl⟩|⟨hc,rfl⟩)
 ·refine Zs ?_
  have hfit:=hc
  have ra:=jjs rds hcs rdw rdb hfit.1
  have hz:=hfit.2
  have ok:=jaN.1 hz
  have rd:=ra.rd ok
  have h12:=jbH ok
  have hbl:=jbC ok
  refine Z3 ?_;refine jaD rfl rfl zK (Post:=fun w new=>OwnS 37 3 w (jaa b).length (jaC (jaa b)) new) (fun H' hH=>f26_c _ H' (rd.keeps (sq hH))) ?_
  rintro w n27 o27;refine jaH (jae ?_);obtain ⟨p27,c27,rfl,hc27,r27⟩:=jav (B:=B) o27
  refine Zs ?_
  refine jaS rfl rfl (fun hc=>?_) (fun hc=>?_)
  ·refine Z10 ?_;refine ja7 rfl zq zK (f20_c _) ?_
   rintro v h' ⟨nF,rfl,rfl⟩;refine Z4 ?_;refine jbw rfl Tryz.func11 zK rfl ?_
   rfl
  ·refine Z3 ?_;refine jnC rfl rfl jgR ?_
   refine jaY rfl rfl (fun hc=>?_) (fun hc=>?_)
   ·refine Z5 ?_;refine ja7 rfl zq zK (f20_c _) ?_
    rintro v h' ⟨nF,rfl,rfl⟩;refine Z4 ?_;refine jbw rfl Tryz.func11 zK rfl ?_
    rfl
   ·have hs1:s.length≤100:=by omega
    refine Z7 ?_;refine jaD rfl zq zK (Post:=fun w new=>OwnS 37 3 w (jaa b).length (jaC (jaa b)) new) (fun H' hH=>f26_c _ H' (rd.keeps (sq hH))) ?_
    rintro w n33 o33;refine jaH (jae ?_);obtain ⟨p33,c33,rfl,hc33,r33⟩:=jav (B:=B) o33
    refine Z3 ?_;refine jar [Zp 0,Zp 1,Zp 2,Zp 3,Zp 4,Zp 5,Zp 6,Zp 8,Zp 9,Zp 10,Zp 11,Zp 12,Zp 13,Zp 14,Zr 7,Zr 15,Za 16,Za 17,Zk 18,Zk 19] zK zK (List.Sublist.refl _) ?_;refine Z2 ?_;refine jbg rfl zq zK (n':=(y:Int)) zL ?_;refine Z2 ?_;refine jcp rfl zq zO ?_
    obtain ⟨k,hkx⟩: ∃k,k=y%(jaa b).length:=⟨_,rfl⟩
    rw [←hkx];have hk:k<(jaa b).length:=hkx▸Nat.mod_lt _ zO
    obtain ⟨b33,o33_,rfl⟩:=r33.ptr zO
    refine D12 ?_;refine Z2 ?_;refine jbg rfl zq zK (n':=(y2:Int)) zL ?_;refine Z2 ?_;refine jcp rfl zq zO ?_
    obtain ⟨j,hjx⟩: ∃j,j=y2%(jaa b).length:=⟨_,rfl⟩
    rw [←hjx];have hj:j<(jaa b).length:=hjx▸Nat.mod_lt _ zO
    refine D12 ?_;refine jc5 (vs:=[.bool ((jaa b).getD k default).butt,.int .i64 ((jaa b).getD k default).line,.int .i64 ((jaa b).getD k default).st]) rfl zq rfl (r33.eat k zO zO) ?_
    obtain ⟨c,hcx⟩: ∃c,c=(jaa b).getD k default:=⟨_,rfl⟩
    rw [←hcx];have hht:jbO b c=true:=hcx▸(cell_at hk).1
    refine jc5 (vs:=[.bool ((jaa b).getD j default).butt,.int .i64 ((jaa b).getD j default).line,.int .i64 ((jaa b).getD j default).st]) rfl zq rfl (r33.eat j zO zO) ?_;obtain ⟨d,hdx⟩: ∃d,d=(jaa b).getD j default:=⟨_,rfl⟩
    rw [←hdx];refine jax rfl zq (fun qc=>jau (jae ?_));refine jax rfl zq (fun qd=>jau (jae ?_));refine D6 ?_;refine D6 ?_;refine Z5 ?_;refine jag (Post:=fun v=>v= .tuple [str (jbo b c),.bool true].toArray) rfl zq zK (fun H' hH=>by have:=f27_c (Md.starC Tryz.prog B) H' (rd.keeps (sq hH)) (bt:=c.butt) (li:=c.line) (st:=c.st);rw [show jbO b ⟨c.butt,c.line,c.st⟩=true from hht,if_pos rfl] at this;exact this) ?_
    rintro v rfl;refine Z8 ?_
    obtain ⟨gg,hgg⟩: ∃gg,gg=jcJ (jeC b c s):=⟨_,rfl⟩
    have hgl:gg.length≤100000:=hgg▸(Nat.le_trans (jpt (v:=jeC b c s) (by simp [jeC,jba])) zA)
    rcases jq3 ok hk hcx hgg with hr|hr|⟨hr,hfo,hcon,hgw,hokO,hneO⟩
    refine Z4 ?_;refine jaD rfl zq zK (Post:=fun v nw=>jrX B 3 (jat b c gg) nw v) (fun H' hH=>by have:=f53_c (Md.starC Tryz.prog B) H' (ra.keeps (sq hH)) c s zO;rw [hr,←hgg] at this;exact this) ?_
    rintro v nO ⟨x0,z1,z2,w1,z3,z4,w2,z5,z6,w3,rfl,hz4,hz5⟩;refine jaH (jae ?_);rw [hz4 zA];rotate_left
    refine Z4 ?_;refine jaD rfl zq zK (Post:=fun v nw=>jrX B 9 (jat b c gg) nw v) (fun H' hH=>by have:=f53_c (Md.starC Tryz.prog B) H' (ra.keeps (sq hH)) c s zO;rw [hr,←hgg] at this;exact this) ?_
    rintro v nO ⟨x0,z1,z2,w1,z3,z4,w2,z5,z6,w3,rfl,hz4,hz5⟩;refine jaH (jae ?_);rw [hz4 zA];rotate_left
    have hzO:=jaN.2 hokO
    refine Z4 ?_;refine jaD rfl zq zK (Post:=fun v nw=>jrX B 0 (jat b c gg) nw v) (fun H' hH=>by have:=f53_c (Md.starC Tryz.prog B) H' (ra.keeps (sq hH)) c s zO;rw [hr,←hgg] at this;exact this) ?_
    rintro v nO ⟨x0,z1,z2,w1,z3,z4,w2,z5,z6,w3,rfl,hz4,hz5⟩;refine jaH (jae ?_);obtain ⟨psO,nsO,ksO,pwO,nwO,cwO,pbO,nbO,cbO,eO,raO⟩:=hz5 rfl
    rw [eO];obtain rfl:ns=nsO:=by have h1:=raO.s.elen zA;have h2:=ra.s.elen zA;rw [(jbF b c gg).1] at h1;omega
    all_goals
     refine Z3 ?_
     refine jax rfl zq (fun qo=>jau (jae ?_));refine D6 ?_;refine Z6 ?_
    ·refine ja5 rfl zq rfl ?_;refine Z7 ?_;refine jaD rfl zq zK (Post:=fun v nw=> ∃w bb,OwnS 3 1 w (jg9 s).length (jaI (jg9 s)) nw∧IsB (okR s) bb∧v= .tuple [w,bb].toArray) (fun H' hH=>f55_c _ H' s zO) ?_;rintro v nR ⟨wR,bR,_,hbR,rfl⟩;obtain rfl:=jhg hbR ((jfK s).2 hfo)
     refine jaH (jae ?_);refine Z17 ?_;refine jag (Post:=fun v=>v= .tuple [str gg,.bool true].toArray) rfl zq zK (fun H' hH=>by have:=f56_c (Md.starC Tryz.prog B) H' (fig_ok ok (show c∈jaa b from hcx▸jah hk)) hfo (fig_sm ra.sm ok hht) zO hcon;rw [←hgw] at this;exact this) ?_
     rintro v rfl;refine Z9 ?_;refine jar [Zp 0,Zp 1,Zp 2,Zp 6,Zr 3,Zr 4,Zr 5,Zk 7,Zk 8,Zp 9,Zp 10] zK zK (List.Sublist.refl _) ?_;refine Z7 ?_;refine jaD rfl rfl zK (Post:=fun v nz=> ∃pw' cw' pb' cb',v=tbV (jat b c gg) ps ns ks pw' nw cw' pb' nb cb'∧RdLn B nz (.slice pw' nw cw') nw (jat b c gg).waters∧RdLn B nz (.slice pb' nb cb') nb (jat b c gg).butts) (fun H' hH=>f33_r _ H' (ra.keeps (sq hH)) ok hht gg hgl) ?_
     rintro v nzW ⟨pwW,cwW,pbW,cbW,rfl,ewW,ebW⟩;refine jaH (jae ?_);obtain rfl:nw=nwO:=by have h1:=jaV raO.w;have h2:=jaV ewW;omega
     obtain rfl:nb=nbO:=by have h1:=jaV raO.u;have h2:=jaV ebW;omega
     refine jag (Post:=fun v=>v= .bool true) rfl rfl zK (fun H' hH=>f54_t _ H' (raO.keeps (sq hH)) (raw_set ra ra.sm hgl ewW ebW (sq hH) (sq hH)) ⟨fun l hl=>by have:=((raO.rd hokO).wf l hl).1;have:=rd.n3;omega,fun l hl=>by have:=((raO.rd hokO).bf l hl).1;have:=rd.n3;omega⟩) ?_;rintro v rfl;refine Z9 ?_;refine jag (Post:=fun v=>v= .tuple [.int .i64 ((jac b).length:Int),.int .i64 0].toArray) rfl zq zK (fun H' hH=>by have:=f28_c (Md.starC Tryz.prog B) H' (b:=b) (ra.keeps (sq hH));rw [if_pos hz,hz] at this;exact this) ?_
     rintro v rfl;refine Z10 ?_;refine jag (Post:=fun v=>v= .tuple [.int .i64 ((jac (jat b c gg)).length:Int),.int .i64 0].toArray) rfl zq zK (fun H' hH=>by have:=f28_c (Md.starC Tryz.prog B) H' (b:=(jat b c gg)) (raO.keeps (sq hH));rw [if_pos hzO,hzO] at this;exact this) ?_
     rintro v rfl;refine Z8 ?_
     have hlen:=read_len ok hk hcx hfo hcon hgw
     have hposO:=List.length_pos_iff.2 hneO
     have hne:jac b≠[]:=List.ne_nil_of_length_pos zO
     have hceO:=jq2 ok hk hcx hfo hcon hgw
     have hjO:j<(jaa (jat b c gg)).length:=by rw [hceO];exact hj
     have hdO:(jaa (jat b c gg)).getD j default=d:=by rw [hceO];exact hdx.symm
     have hcd:jaJ b (jdv b d)=0:=by rw [hdx];exact open_at hz hj hne
     have hcl:jeu b d=jck (cdT b) (jac b) j:=by rw [hdx];exact canL_at hz hj hne
     have hcd2:jaJ (jat b c gg) (jdv (jat b c gg) d)=0:=by rw [←hdO];exact open_at hzO hjO hneO
     have hcl2:jeu (jat b c gg) d=jck (cdT (jat b c gg)) (jac (jat b c gg)) j:=by rw [←hdO];exact canL_at hzO hjO hneO
     have hin:=read_can ok hk hcx hfo hcon hgw j
     have hz1:=jh4 b hj
     have hz2:=jh4 (jat b c gg) hjO
     have hz3:=jde (D:=cdT b) (L:=jac b) (k:=j)
     have hz4':=jde (D:=cdT (jat b c gg)) (L:=jac (jat b c gg)) (k:=j)
     refine Z3 ?_;refine jaD rfl zq zK (Post:=fun v nw=> ∃w,v= .tuple [w,.int .i64 0].toArray∧RdI B nw w (jck (cdT b) (jac b) j)) (fun H' hH=>by have:=f29_c (Md.starC Tryz.prog B) H' (ra.keeps (sq hH)) d;rw [hcd,hcl] at this;exact this) ?_
     rintro v nP ⟨wP,rfl,pP,cP,rfl,rP⟩;refine jaH (jae ?_);refine Z10 ?_;refine jaD rfl zq zK (Post:=fun v nw=> ∃w,v= .tuple [w,.int .i64 0].toArray∧RdI B nw w (jck (cdT (jat b c gg)) (jac (jat b c gg)) j)) (fun H' hH=>by have:=f29_c (Md.starC Tryz.prog B) H' (raO.keeps (sq hH)) d;rw [hcd2,hcl2] at this;exact this) ?_
     rintro v nQ ⟨wQ,rfl,pQ,cQ,rfl,rQ⟩;refine jaH (jae ?_);refine Z9 ?_;refine jbg rfl zq zK (n':=(y3:Int)) zL ?_;refine Z3 ?_
     have hsl:=rd.sl
     have hn1:=rd.n1
     refine jcp rfl zq zO ?_;obtain ⟨st,hstx⟩: ∃st,st=y3%ns:=⟨_,rfl⟩
     rw [←hstx];have hst:st<ns:=hstx▸Nat.mod_lt _ zO
     refine Zs ?_;refine jbg rfl zq zK (n':=(x1:Int)) zL ?_;refine jcp (a:=x1) (b:=960) rfl zq zO ?_
     obtain ⟨x,hxx⟩: ∃x,x=x1%960:=⟨_,rfl⟩
     rw [←hxx];have hx:x<960:=hxx▸Nat.mod_lt _ zO
     refine Z4 ?_
     have hsr:(0:Int)≤(st:Int)∧(st:Int)<(b.sts.length:Int):=by omega
     have hsrO:(0:Int)≤(st:Int)∧(st:Int)<((jat b c gg).sts.length:Int):=by rw [(jbF b c gg).1];exact hsr
     have hxr:(0:Int)≤(x:Int)∧(x:Int)≤959:=by omega
     have hoS:=openP_in hz hsr hxr hne
     have hoO:=openP_in hzO hsrO hxr hneO
     have hsp:=jsV ok hk hcx hfo hcon hgw false (st:Int) (x:Int)
     rw [show jdT b false (st:Int) (x:Int)=jaE b false (st:Int) (x:Int) by rw [jaE,if_pos hoS],show jdT (jat b c gg) false (st:Int) (x:Int)=jaE (jat b c gg) false (st:Int) (x:Int) by rw [jaE,if_pos hoO]] at hsp
     refine Z4 ?_;refine jag (Post:=fun v=>v= .tuple [.agg [.int .i64 (jaE b false (st:Int) (x:Int)).1,.int .i64 (jaE b false (st:Int) (x:Int)).2].toArray,.int .i64 0].toArray) rfl zq zK (fun H' hH=>by have:=f21_c (Md.starC Tryz.prog B) H' (ra.keeps (sq hH)) (st:Int) (x:Int);rw [hoS] at this;exact this) ?_
     rintro v rfl;refine Z4 ?_
     refine jax rfl zq (fun qx=>jau (jae ?_));refine D6 ?_;refine Z7 ?_;refine jag (Post:=fun v=>v= .tuple [.agg [.int .i64 (jaE (jat b c gg) false (st:Int) (x:Int)).1,.int .i64 (jaE (jat b c gg) false (st:Int) (x:Int)).2].toArray,.int .i64 0].toArray) rfl zq zK (fun H' hH=>by have:=f21_c (Md.starC Tryz.prog B) H' (raO.keeps (sq hH)) (st:Int) (x:Int);rw [hoO] at this;exact this) ?_
     rintro v rfl;refine Z4 ?_
     refine jax rfl zq (fun qy=>jau (jae ?_));refine jhx ?_;refine jaK [Zf 0,Zf 1,Zf 2,Zf 3,Zf 4,Zf 5,Zf 6,Zf 7,Zf 8,Zf 9,Zf 10,Zf 11,Zf 12,Zf 13,Zf 14,Zf 15,Zf 16,Zf 17,Zf 18,Zf 19,Zf 20,Zf 21,Zf 22,Zf 23,Zf 24,Zf 25,Zf 26,Zf 27,Zf 28,Zf 29,Zf 30,Zf 31,Zf 32,Zf 33,Zf 34,Zf 35,Zf 36,Zf 37,Zf 38,Zf 39,Zf 40,Zf 41,Zf 42,Zf 43,Zf 44,Zf 45,Zf 46,Zf 47,Zf 48,Zf 49] zK zK ?_;refine Zs ?_;refine jbn rfl zq rfl ?_;refine Z2 ?_;refine jbn rfl rfl rfl ?_;refine Z3 ?_;refine jbn rfl rfl rfl ?_;refine Z3 ?_;refine jbn rfl rfl rfl ?_;refine Z3 ?_;refine jbn rfl rfl rfl ?_;refine Z3 ?_;refine jbn rfl rfl rfl ?_;refine Z4 ?_;refine jag (Post:=fun v=>IsB _ v) rfl rfl zK (fun H' hH=>f57_c _ H' _ _ _) ?_
     rintro v (⟨hc,rfl⟩|⟨hc,rfl⟩)
     ·refine Z5 ?_;refine jag (Post:=fun v=>v= .bool true) rfl rfl zK (fun H' hH=>f58_t _ H' (rQ.keeps (sq hH)) (rP.keeps (sq hH)) zO zO hin) ?_
      rintro v rfl;refine Z7 ?_;refine jnI rfl rfl zO ?_;refine Z6 ?_;refine jnI rfl rfl zO ?_;refine Z2 ?_;refine ja7 rfl rfl zK (f20_c _) ?_
      rintro v h' ⟨nF,rfl,rfl⟩;refine Z5 ?_;refine jbw rfl Tryz.func11 zK rfl ?_
      rfl
     ·refine Zs ?_
      exact absurd ⟨by omega,by omega⟩ hc
    ·refine k_neqT rfl zq zA ?_;refine Z3 ?_;refine jaK [Zf 0,Zf 1,Zf 2,Zf 3,Zf 4,Zf 5,Zf 6,Zf 7,Zf 8,Zf 9,Zf 10,Zf 11,Zf 12,Zf 13,Zf 14] zK zK ?_;refine Zs ?_;refine jbn rfl zq rfl ?_;refine Z6 ?_;refine jnL rfl rfl ?_;refine jag (Post:=fun v=>v= .bool true) rfl rfl zK (fun H' hH=>zero_same _ H') ?_;rintro v rfl;refine Z3 ?_;refine ja7 rfl rfl zK (f20_c _) ?_
     rintro v h' ⟨nF,rfl,rfl⟩;refine Z5 ?_;refine jbw rfl Tryz.func11 zK rfl ?_
     rfl
    ·refine k_neqT rfl zq zA ?_;refine Z3 ?_;refine jaK [Zf 0,Zf 1,Zf 2,Zf 3,Zf 4,Zf 5,Zf 6,Zf 7,Zf 8,Zf 9,Zf 10,Zf 11,Zf 12,Zf 13,Zf 14] zK zK ?_;refine Zs ?_;refine jfr rfl zq zA ?_;refine Z2 ?_;refine jbn rfl rfl rfl ?_;refine Z3 ?_;refine jnL rfl rfl ?_;refine jag (Post:=fun v=>v= .bool true) rfl rfl zK (fun H' hH=>zero_same _ H') ?_;rintro v rfl;refine Z3 ?_;refine ja7 rfl rfl zK (f20_c _) ?_
     rintro v h' ⟨nF,rfl,rfl⟩;refine Z5 ?_;refine jbw rfl Tryz.func11 zK rfl ?_
     rfl
 ·refine Z17 ?_;refine ja7 rfl zq zK (f20_c _) ?_
  rintro v h' ⟨nF,rfl,rfl⟩;refine Z4 ?_;refine jbw rfl Tryz.func11 zK rfl ?_
  rfl
end
end Go.Proofs
