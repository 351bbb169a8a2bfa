/- A part of the proof of a law. Condition of each theorem: as its statement says. -/
import Derived.Test.YtggpepeiedkbbaaGreatDoorVG10
import Derived.Test.YtggpepeiedkbbaaGreatDoorProg
import Derived.Sort.Walk0
set_option linter.all false
variable {P:Go.Program} {B:Array Go.Obj} {S h H:Go.Lo.Hp} {ops:Array Go.Oper} {r:List (Nat×Go.Lo.Kd)} {kd:Go.Lo.Kd} {l xs:List Int} {l' l'':List Go.Value} {C:List Go.Value→Go.Lo.Hp→Prop} {i n k j ns ks nw cw nb cb:Nat} {d:Option Go.Tmp} {ty u:Go.TypeId} {pos:String} {af:Array Go.Edge} {g:Option (Nat×Bool)} {t v ma mc st z:Int} {p ps pw pb pw' pb' p1 p2 ps2 pw2 pb2:Option Go.Addr} {b:Go.Lo.Tb} {o:Option Int} {s f:Go.Lo.Str} {D:List Go.Lo.Cd} {ls:List Go.Lo.Ln} {L:List Go.Lo.Bo} {bt:Bool} {lps:List Go.Lo.Lp}
set_option maxHeartbeats 4000000
set_option maxRecDepth 100000
set_option synthInstance.maxHeartbeats 1000000
set_option synthInstance.maxSize 100000
namespace Go.Proofs
open Go.Lo
instance:ZeroT Tryz.prog 5 (.int .u8 0):=⟨by kernel_rfl⟩
end Go.Proofs
namespace Go.Lo
open Go.Conc
theorem str_app (s t:List UInt8):(⟨s.toArray⟩:ByteArray)++⟨t.toArray⟩=⟨(s++t).toArray⟩:=by
 apply ByteArray.ext
 simp
section
variable {m:Md P B} {l l' l'':List Value}
theorem k_sadd {t:TypeId} {x y:Operand} {a b:ByteArray} {p q:List UInt8} (ho:ops[i]?=some ⟨d,.binOp .add t x y u,ty,pos,af,g⟩) (hw:Wt ops l g) [KHeap kd S h H] [ex:OpV l x (.string a)] [ey:OpV l y (.string b)] [pa:SV a p] [pb:SV b q] (hr:p.length+q.length≤9223372036854775807) [PutV l d (str (p++q)) l']
  (n:RegK m S ops r l' h C):RegK m S ops ((i,kd)::r) l h C:=
 RegK.rd (v:=str (p++q)) ho hw (jfF ex.eq ey.eq zS (by
  rw [pa.eq,pb.eq];show Op.stringOp .add _ _=_
  unfold Op.stringOp
  have: ¬(((⟨p.toArray⟩:ByteArray).size+(⟨q.toArray⟩:ByteArray).size:Nat):Int)>IntKind.i64.max:=by
   rw [show IntKind.i64.max=9223372036854775807 by decide];simp only [ByteArray.size,List.size_toArray]
   omega
  simp only [if_neg this,str_app]
  rfl)) n
end
section
variable {m:Md P B} {l l' l'':List Value}
theorem reads_push (f:Value→ByteArray→Sem (ForInStep ByteArray)) (hf: ∀(c:UInt8) (a:ByteArray),f (jbV c) a=Pure.pure (.yield (a.push c))): ∀(s t:List UInt8),Reads P B (forIn (s.map jbV) (⟨t.toArray⟩:ByteArray) f) H ⟨(t++s).toArray⟩
 |[],t=>by simp only [List.map_nil,List.forIn_nil,List.append_nil];exact Reads.pure _
 |c::s,t=>by
  rw [List.map_cons,List.forIn_cons,hf];refine Reads.bind (Reads.pure _) ?_
  dsimp only
  have e:(⟨t.toArray⟩:ByteArray).push c=⟨(t++[c]).toArray⟩:=by
   apply ByteArray.ext
   simp [ByteArray.push]
  rw [e];have:=reads_push f hf s (t++[c])
  simpa using this
theorem reads_b2s {b o:Nat} {s:List UInt8} {c:Nat} (hl:s.length=n) (hr:RdN B H b o (s.map jbV)):Reads P B (Conv.bytesToString (.slice (some ⟨b,o,none⟩) n c)) H (str s):=by
 unfold Conv.bytesToString
 dsimp only
 refine Reads.bind (a:=(s.map jbV).toArray) ?_ ?_
 ·have:=jeg (P:=P) (B:=B) (h:=H) (b:=b) (o:=o) n 0 (s.map jbV) [] (by simpa using hl) (fun j hj=>by rw [Nat.zero_add];exact hr j (by simpa [hl] using hj))
  simpa [loadCells] using this
 ·refine Reads.bind (a:=(⟨s.toArray⟩:ByteArray)) ?_ (Reads.pure _)
  rw [List.forIn_toArray];refine reads_push (P:=P) (B:=B) (H:=H) _ (fun c a=>?_) s []
  simp only [jbV]
  have:UInt8.ofNat ((c.toNat:Int)).toNat=c:=by simp
  rw [this]
theorem k_b2s {t t' e b o c:Nat} {x:Operand} {s:List UInt8} (ho:ops[i]?=some ⟨d,.convert t t' x,ty,pos,af,g⟩) (hw:Wt ops l g) [KHeap kd S h H] [ex:OpV l x (.slice (some ⟨b,o,none⟩) n c)] (hs:P.underlying t=some (.slice e)) (he:P.underlying e=some (.int .u8)) (ht:P.underlying t'=some .string)
  (hl:s.length=n) (hr:RdN B H b o (s.map jbV)) [PutV l d (str s) l'] (q:RegK m S ops r l' h C):RegK m S ops ((i,kd)::r) l h C:=
 RegK.rd (v:=str s) ho hw (by
  simp only [execOp,ex.eq]
  refine Reads.value ?_
  unfold convert
  refine Reads.bind (jaj hs).reads ?_;refine Reads.bind (jaj ht).reads ?_
  dsimp only
  refine Reads.bind (jaj he).reads ?_
  dsimp only
  exact reads_b2s hl hr) q
end
end Go.Lo
namespace Go.Lo
def pL:Option SS→LS
 |none=> .fin
 |some (.m r _)=> .rest r
 |some (.w _ l _ _)=>l
section
variable {sm sm' v v' wt wt' ws ws' N r i k:Nat} {l l':LS}
end
end Go.Lo
namespace Go.Proofs
open Go.Lo
open Go.Conc (G)
section
variable {m:Md P B} {l l':List Value} {S h h' H:Hp}
theorem k_neqT {t:TypeId} {x y:Operand} {a b:Int} {k:IntKind} (ho:ops[i]?=some ⟨d,.binOp .neq t x y u,ty,pos,af,g⟩) (hw:Wt ops l g) [kh:KHeap kd S h H] [ex:OpV l x (.int k a)] [ey:OpV l y (.int k b)] (e:a≠b) [pt:PutV l d (.bool true) l'] (q:RegK m S ops r l' h C):RegK m S ops ((i,kd)::r) l h C:=by
 have pq:=pt;rw [←decide_eq_true e] at pq;exact jnD (l':=l') ho hw q
theorem k_neqBF {t:TypeId} {x y:Operand} {a c:Bool} (ho:ops[i]?=some ⟨d,.binOp .neq t x y u,ty,pos,af,g⟩) (hw:Wt ops l g) (hb:P.underlying t=some .bool) [KHeap kd S h H] [ex:OpV l x (.bool a)] [ey:OpV l y (.bool c)] (e:a=c) [PutV l d (.bool false) l'] (q:RegK m S ops r l' h C):RegK m S ops ((i,kd)::r) l h C:=
 RegK.rd (v:= .bool false) ho hw (by
  subst e
  simp only [execOp,ex.eq,ey.eq]
  refine Reads.value (Reads.bind (a:=()) (Reads.pure _) ?_)
  show Reads P B (Op.equal t (.bool a) (.bool a)>>=fun b=>pure (Value.bool !b)) H _
  have:=jcC (P:=P) (B:=B) (H:=H) hb a a
  rw [beq_self_eq_true] at this
  exact E70) q
end
end Go.Proofs
namespace Go.Lo
theorem riX_turn {la lc:Int}:riX la lc ma mc=riX lc la mc ma:=by
 rw [Bool.eq_iff_iff,jee,jee];omega
def canNd (D:List Cd):Prop:= ∀d∈D,d.can.Nodup
theorem okA_pair {x:Bo} (h:okA D x=true) {u:Int} (hij:i≠j) (hi:xA x i=some v) (hj:xA x j=some u):riC (dA D i) (dA D j) v u=true:=by
 rw [jcv] at h
 rcases Nat.lt_or_gt_of_ne hij with g|g
 ·exact h.2.2 i j v u g hi hj
 ·rw [jes];exact h.2.2 j i u v g hj hi
theorem boatsA_none0 (hk:k<D.length):(jak D 0).filter (fun x=>(xA x k).isNone)=[]:=by
 rw [List.filter_eq_nil_iff];intro x hx
 have hl:=jcd hx
 have:=jgP hx (x[k]'(by omega)) (List.getElem_mem _)
 rw [xA,List.getD_eq_getElem?_getD,List.getElem?_eq_getElem zO];cases hxx:x[k]'(by omega) with
 |none=>exact absurd hxx this
 |some v=>simp [hxx]
def setCan:List Cd→Nat→List Int→List Cd
 |[],_,_=>[]
 |d::D,0,c=>{d with can:=c}::D
 |d::D,k+1,c=>d::setCan D k c
theorem agreeA_can {d:Cd} {v:Int} {c:List Int}: ∀{D:List Cd} {x:Bo},jam {d with can:=c} v D x=jam d v D x
 |[],_=>rfl
 |_::_,[]=>rfl
 |e::D,some u::x=>by simp only [jam];rw [agreeA_can];rfl
 |e::D,none::x=>by simp only [jam];rw [agreeA_can]
theorem agreeA_setCan {d:Cd} {v:Int} {c:List Int}: ∀{D:List Cd} {x:Bo} {k:Nat},jam d v (setCan D k c) x=jam d v D x
 |[],_,_=>rfl
 |_::_,[],0=>rfl
 |_::_,[],_+1=>rfl
 |e::D,some u::x,0=>by simp only [setCan,jam];rfl
 |e::D,none::x,0=>by simp only [setCan,jam]
 |e::D,some u::x,k+1=>by simp only [setCan,jam];rw [agreeA_setCan]
 |e::D,none::x,k+1=>by simp only [setCan,jam];rw [agreeA_setCan]
def keepV (q:Int→Bool) (o:Option Int):Bool:=match o with|some v=>q v|none=>true
theorem boatsA_setCan {q:Int→Bool}: ∀{D:List Cd} {k w:Nat},k<D.length→jak (setCan D k ((dA D k).can.filter q)) w=(jak D w).filter fun x=>keepV q (xA x k)
 |[],_,_,h=>by simp at h
 |d::D,0,w,_=>by
  simp only [setCan,List.getD_cons_zero,jaO,List.filter_append,List.filter_flatMap]
  congr 1
  ·have: ∀l:List Int,((l.filter q).flatMap fun v=>((jak D w).filter (jam {d with can:=d.can.filter q} v D)).map (some v:: ·))=l.flatMap fun v=>(((jak D w).filter (jam d v D)).map (some v:: ·)).filter fun x=>keepV q (xA x 0):=by
    intro l
    induction l with
    |nil=>rfl
    |cons v l ih=>
     rw [List.flatMap_cons,←ih,List.filter_cons];by_cases hq:q v=true
     ·rw [if_pos hq,List.flatMap_cons];congr 1
      rw [List.filter_map];have:(List.filter ((fun x=>keepV q (xA x 0))∘(some v:: ·)) ((jak D w).filter (jam d v D)))=(jak D w).filter (jam d v D):=by
       rw [List.filter_eq_self];intro x _
       simp [keepV,hq]
      rw [this];congr 1
      exact List.filter_congr fun x _=>agreeA_can
     ·rw [if_neg hq];have:(((jak D w).filter (jam d v D)).map (some v:: ·)).filter (fun x=>keepV q (xA x 0))=[]:=by
       rw [List.filter_map,List.map_eq_nil_iff,List.filter_eq_nil_iff];intro x _
       simp [keepV,hq]
      rw [this,List.nil_append]
   exact this d.can
  ·cases w with
   |zero=>rfl
   |succ w=>
    simp only [jdX,List.filter_map]
    congr 1
    symm
    rw [List.filter_eq_self];intro x _
    simp [keepV]
 |d::D,k+1,w,h=>by
  have hk:k<D.length:=by simpa using h
  have ih:=fun w=>boatsA_setCan (q:=q) (D:=D) (k:=k) (w:=w) hk
  simp only [setCan,List.getD_cons_succ,jaO,List.filter_append,List.filter_flatMap]
  congr 1
  ·congr 1
   funext v
   rw [ih w,List.filter_map,filter_comm'];congr 1
   have e1:((fun x=>keepV q (xA x (k+1)))∘(some v:: ·))=fun x=>keepV q (xA x k):=by funext x;simp
   rw [e1];congr 1
   exact List.filter_congr fun x _=>agreeA_setCan
  ·cases w with
   |zero=>rfl
   |succ w=>
    simp only [jdX,List.filter_map]
    rw [ih w];congr 1
section
end
theorem fig_mem (k:TbOk b) {c:Ce} (h:jbO b c=true):jbo b c∈(jaT b c).figs:=by
 have h1:=jbk.1 h
 have:=((k.lines c.butt).ok _ (jbz h)).len
 rw [jbo,List.getD_eq_getElem?_getD,List.getElem?_eq_getElem zO];exact E52
theorem fig_ok (k:TbOk b) {c:Ce} (h:c∈jaa b):ja6 (jbo b c)=true:=by
 obtain ⟨h1,h2⟩:=jaA h
 have:=((k.lines c.butt).ok _ (jbz h1)).fig _ (fig_mem k h1)
 rw [jbx,Bool.or_eq_true,decide_eq_true_eq] at this
 exact this.resolve_right h2
theorem setF_lat {c:Ce} (hc:jbO b c=true) {d:Ce} (hd:jbO b d=true):(jaT (jat b c f) d).lat=(jaT b d).lat:=by
 rw [jfD hc d hd];split
 ·rename_i h
  simp only [jaT,h.1,h.2]
 ·rfl
theorem setF_cells_same (k:TbOk b) {c:Ce} (hc:c∈jaa b) (hf:f≠jbG):jaa (jat b c f)=jaa b:=by
 rw [jf5 k (jaA hc).1,jbq];refine List.filter_congr fun d _=>?_
 rw [keepC'];by_cases e:d=c
 ·subst e
  rw [if_pos rfl,(jaA hc).1];simp [hf,(jaA hc).2]
 ·rw [if_neg e]
theorem setF_cdOf (k:TbOk b) {c:Ce} (hc:jbO b c=true) {d:Ce} (hd:jbO b d=true) (hne:d≠c):jcI (jat b c f) d=jcI b d:=by
 simp only [jcI,setF_lat hc hd,jdU k hc hd,if_neg hne]
theorem setF_cdOf_self (k:TbOk b) {c:Ce} (hc:jbO b c=true):jcI (jat b c f) c={jcI b c with can:=jbl f}:=by
 simp only [jcI,setF_lat hc hc,jdU k hc hc,if_pos]
theorem setCan_map {b':Tb} {l:List Ce} (hn:l.Nodup) {v:List Int} (hi:i<l.length) (h1: ∀d∈l,d≠l.getD i default→jcI b' d=jcI b d) (h2:jcI b' (l.getD i default)={jcI b (l.getD i default) with can:=v}):l.map (jcI b')=setCan (l.map (jcI b)) i v:=by
 induction l generalizing i with
 |nil=>simp at hi
 |cons a l ih=>
  rw [List.nodup_cons] at hn
  cases i with
  |zero=>
   simp only [List.getD_cons_zero] at h1 h2
   rw [List.map_cons,List.map_cons,setCan,h2];congr 1
   exact E71
  |succ i=>
   have hi':i<l.length:=by simpa using hi
   have hm:l.getD i default∈l:=by rw [List.getD_eq_getElem?_getD,List.getElem?_eq_getElem hi'];exact E52
   simp only [List.getD_cons_succ] at h1 h2
   rw [List.map_cons,List.map_cons,setCan,h1 a zS (fun e=>hn.1 (e▸hm)),ih hn.2 hi' (fun d hd=>h1 d (by simp [hd])) h2]
theorem cdT_put (k:TbOk b) (hi:i<(jaa b).length) (hf:f≠jbG):cdT (jat b ((jaa b).getD i default) f)=setCan (cdT b) i (jbl f):=by
 have hm:(jaa b).getD i default∈jaa b:=by rw [List.getD_eq_getElem?_getD,List.getElem?_eq_getElem hi];exact E52
 have hc:=(jaA hm).1
 rw [cdT,setF_cells_same k hm hf,cdT];exact E72
theorem sum_set (l:List Nat) (i:Nat) (x:Nat) (hi:i<l.length):(l.set i x).sum+l.getD i 0=l.sum+x:=by
 induction l generalizing i with
 |nil=>simp at hi
 |cons a l ih=>
  cases i with
  |zero=>simp;omega
  |succ i=>
   have:=ih i (by simpa using hi)
   simp only [List.set_cons_succ,List.sum_cons,List.getD_cons_succ]
   omega
theorem updL_smu (hi:i<ls.length) (hk:k<(ls.getD i default).figs.length):jb1 (jex ls i k f)+jb0 ((ls.getD i default).figs.getD k [])=jb1 ls+jb0 f:=by
 have e1:jb1 (jex ls i k f)=((ls.map jcQ).set i (jcQ {ls.getD i default with figs:=(ls.getD i default).figs.set k f})).sum:=by
  rw [jb1,jex,List.map_set]
 have e2:=sum_set (ls.map jcQ) i (jcQ {ls.getD i default with figs:=(ls.getD i default).figs.set k f}) (by simpa using hi)
 have e3:(ls.map jcQ).getD i 0=jcQ (ls.getD i default):=by
  rw [List.getD_eq_getElem?_getD,List.getElem?_map,List.getElem?_eq_getElem hi,List.getD_eq_getElem?_getD,List.getElem?_eq_getElem hi];rfl
 have e4:jcQ {ls.getD i default with figs:=(ls.getD i default).figs.set k f}=(((ls.getD i default).figs.map jb0).set k (jb0 f)).sum:=by
  rw [jcQ,List.map_set]
 have e5:=sum_set ((ls.getD i default).figs.map jb0) k (jb0 f) (by simpa using hk)
 have e6:((ls.getD i default).figs.map jb0).getD k 0=jb0 ((ls.getD i default).figs.getD k []):=by
  generalize (ls.getD i default).figs=gg at hk⊢
  rw [List.getD_eq_getElem?_getD,List.getElem?_map,List.getElem?_eq_getElem hk,List.getD_eq_getElem?_getD,List.getElem?_eq_getElem hk];rfl
 have e7:jcQ (ls.getD i default)=((ls.getD i default).figs.map jb0).sum:=rfl
 have e8:jb1 ls=(ls.map jcQ).sum:=rfl
 omega
theorem updL_ok (k:LsOk n ls) (hi:i<ls.length) (hf:jbx f=true):LsOk n (jex ls i j f):=by
 have hmem:ls.getD i default∈ls:=jah hi
 have ho:=k.ok _ hmem
 refine ⟨by rw [jd8];exact k.two,fun l hl=>?_,?_⟩
 ·rcases List.mem_or_eq_of_mem_set hl with hl|rfl
  ·exact k.ok l hl
  ·refine ⟨ho.lat,by simpa using ho.len,fun g hg=>?_⟩
   rcases List.mem_or_eq_of_mem_set hg with hg|rfl
   ·exact ho.fig g hg
   ·exact hf
 ·have:(jex ls i j f).map (·.lat)=ls.map (·.lat):=by
   rw [jex,List.map_set];refine List.ext_getElem zS fun a h1 h2=>?_
   rw [List.getElem_set];split
   ·rename_i e
    subst e
    rw [List.getElem_map,List.getD_eq_getElem?_getD,List.getElem?_eq_getElem hi];rfl
   ·rfl
  have h1:((jex ls i j f).map (·.lat)).Pairwise (· < ·):=by rw [this,List.pairwise_map];exact k.up
  rwa [List.pairwise_map] at h1
theorem setF_ok (k:TbOk b) {c:Ce} (hc:jbO b c=true) (hf:jbx f=true) (hs:jb1 b.waters+jb1 b.butts+jb0 f≤2+jb0 (jbo b c)):TbOk (jat b c f):=by
 have h1:=jbk.1 hc
 have hlen:=((k.lines c.butt).ok _ (jbz hc)).len
 have hsm:=updL_smu (ls:=jap b c.butt) (i:=c.line.toNat) (k:=c.st.toNat) (f:=f) zO (by rw [jaT] at hlen;omega)
 have hfe:jb0 (((jap b c.butt).getD c.line.toNat default).figs.getD c.st.toNat [])=jb0 (jbo b c):=rfl
 refine ⟨by simpa using k.wrong,by simpa using k.n1,by simpa using k.n3,by simpa using k.names,?_,?_,?_⟩
 ·have:(jat b c f).waters=jap (jat b c f) false:=rfl
  rw [this,jbb,jbF];split
  ·rename_i e
   exact updL_ok k.waters (by
   have h3:c.line<((jap b false).length:Int):=by rw [e];exact h1.2.1
   have h4:(jap b false).length=b.waters.length:=rfl
   show c.line.toNat<b.waters.length
   omega) hf
  ·exact k.waters
 ·have:(jat b c f).butts=jap (jat b c f) true:=rfl
  rw [this,jbb,jbF];split
  ·rename_i e
   exact updL_ok k.butts (by
   have h3:c.line<((jap b true).length:Int):=by rw [e];exact h1.2.1
   have h4:(jap b true).length=b.butts.length:=rfl
   show c.line.toNat<b.butts.length
   omega) hf
  ·exact k.butts
 ·have e1:(jat b c f).waters=jap (jat b c f) false:=rfl
  have e2:(jat b c f).butts=jap (jat b c f) true:=rfl
  rw [e1,e2,jbb,jbb];cases hb:c.butt with
  |false=>
   rw [hb] at hsm hfe
   rw [if_pos rfl,if_neg zS];have:jb1 (jap b false)=jb1 b.waters:=rfl
   have:jb1 (jap b true)=jb1 b.butts:=rfl
   omega
  |true=>
   rw [hb] at hsm hfe
   rw [if_neg zS,if_pos rfl];have:jb1 (jap b false)=jb1 b.waters:=rfl
   have:jb1 (jap b true)=jb1 b.butts:=rfl
   omega
theorem wrongN_zero (hk:k<D.length):jaU (jak D 0) k=0:=by
 have:=boatsA_none0 (D:=D) hk
 rw [jaU,List.countP_eq_length_filter,this];rfl
theorem filter_one: ∀{l:List Int},l.Nodup→ ∀{v:Int},v∈l→l.filter (fun u=>decide (u=v))=[v]
 |[],_,_,h=>by simp at h
 |a::l,hn,v,h=>by
  have hn':=List.nodup_cons.1 hn
  by_cases e:a=v
  ·subst e
   have:l.filter (fun u=>decide (u=a))=[]:=List.filter_eq_nil_iff.2 fun u hu e=>hn'.1 (of_decide_eq_true e▸hu)
   simp [this]
  ·have hv:v∈l:=by
    rcases List.mem_cons.1 h with h|h
    ·exact absurd h.symm e
    ·exact h
   rw [List.filter_cons,if_neg (by simpa using e),filter_one hn'.2 hv]
theorem count_keep (k:Nat) (v:Int): ∀L:List Bo,L.countP (fun x=>keepV (fun u=>decide (u=v)) (xA x k))=jcy L k v+jaU L k
 |[]=>rfl
 |x::L=>by
  have ih:=count_keep k v L
  unfold jcy jaU at ih⊢
  rw [List.countP_cons,List.countP_cons,List.countP_cons,ih];rcases h:xA x k with _|u
  ·simp [keepV]
   omega
  ·by_cases e:u=v<;>simp [keepV,e]<;>omega
theorem put_len {w:Nat} (hk:k<D.length) (hn:(dA D k).can.Nodup) (hv:v∈(dA D k).can):(jak (setCan D k [v]) w).length=jcy (jak D w) k v+jaU (jak D w) k:=by
 have e:=boatsA_setCan (q:=fun u=>decide (u=v)) (w:=w) hk
 rw [filter_one hn hv] at e
 rw [e,←List.countP_eq_length_filter,count_keep]
theorem mem_canB {w:Nat} {x:Bo} (hx:x∈jak D w) (e:xA x k=some v):v∈(dA D k).can:=(jcv.1 (jaL.1 hx).1).2.1 k v e
theorem cntV_pos:0<jcy L k v↔ ∃x∈L,xA x k=some v:=by
 unfold jcy
 rw [List.countP_pos_iff];simp
theorem mem_canC:v∈jck D L k↔v∈(dA D k).can∧0<jcy L k v:=by
 unfold jck
 rw [List.mem_filter,cntV_pos];simp
theorem mem_canS_boats {w:Nat}:v∈jck D (jak D w) k↔ ∃x∈jak D w,xA x k=some v:=by
 rw [mem_canC,cntV_pos];exact E83
def lowC (bt:Bool) (st p:Int) (d:Cd) (o:Option Int) (u:Int):Prop:= ∃v,o=some v∧d.st=st∧((d.butt=bt∧d.lat≤p∧u=v)∨(d.butt≠bt∧v<p∧u=d.lat))
def highC (bt:Bool) (st p:Int) (d:Cd) (o:Option Int) (u:Int):Prop:= ∃v,o=some v∧d.st=st∧((d.butt=bt∧p≤d.lat∧u=v)∨(d.butt≠bt∧p<v∧u=d.lat))
theorem bdStep_low {p:Int} {d:Cd} {s:Int×Int}:(jbQ bt st p d o s).1≤t↔s.1≤t∧ ∀u,lowC bt st p d o u→u≤t:=by
 unfold jbQ lowC
 rcases o with _|v
 ·simp
 ·by_cases h1:d.st=st
  ·by_cases h2:d.butt=bt
   ·by_cases h3:d.lat≤p
    ·simp [h1,h2,h3]
     omega
    ·simp [h1,h2,h3]
   ·by_cases h3:v<p
    ·simp [h1,h2,h3]
     omega
    ·simp [h1,h2,h3]
  ·simp [h1]
theorem bdStep_high {p:Int} {d:Cd} {s:Int×Int}:t≤(jbQ bt st p d o s).2↔t≤s.2∧ ∀u,highC bt st p d o u→t≤u:=by
 unfold jbQ highC
 rcases o with _|v
 ·simp
 ·by_cases h1:d.st=st
  ·by_cases h2:d.butt=bt
   ·by_cases h3:p≤d.lat
    ·simp [h1,h2,h3]
     omega
    ·simp [h1,h2,h3]
   ·by_cases h3:p<v
    ·simp [h1,h2,h3]
     omega
    ·simp [h1,h2,h3]
  ·simp [h1]
theorem bdK_low {D:List Cd} {x:Bo} {bt:Bool} {st p t:Int}: ∀{k:Nat},(bdK D x bt st p k).1≤t↔0≤t∧ ∀i,i<k→ ∀u,lowC bt st p (dA D i) (xA x i) u→u≤t
 |0=>by simp [bdK]
 |k+1=>by
  rw [jbD,bdStep_low,bdK_low];constructor
  ·rintro ⟨⟨h0,h1⟩,h2⟩;refine ⟨h0,fun i hi=>?_⟩
   rcases Nat.lt_or_ge i k with g|g
   ·exact h1 i g
   ·obtain rfl:i=k:=by omega
    exact h2
  ·rintro ⟨h0,h1⟩;exact E84
theorem bdK_high {D:List Cd} {x:Bo} {bt:Bool} {st p t:Int}: ∀{k:Nat},t≤(bdK D x bt st p k).2↔t≤959∧ ∀i,i<k→ ∀u,highC bt st p (dA D i) (xA x i) u→t≤u
 |0=>by simp [bdK]
 |k+1=>by
  rw [jbD,bdStep_high,bdK_high];constructor
  ·rintro ⟨⟨h0,h1⟩,h2⟩;refine ⟨h0,fun i hi=>?_⟩
   rcases Nat.lt_or_ge i k with g|g
   ·exact h1 i g
   ·obtain rfl:i=k:=by omega
    exact h2
  ·rintro ⟨h0,h1⟩;exact E84
theorem bdA_low {x:Bo} {p:Int}:(bdA D x bt st p).1≤t↔0≤t∧ ∀i,i<D.length→ ∀u,lowC bt st p (dA D i) (xA x i) u→u≤t:=bdK_low
theorem bdA_high {x:Bo} {p:Int}:t≤(bdA D x bt st p).2↔t≤959∧ ∀i,i<D.length→ ∀u,highC bt st p (dA D i) (xA x i) u→t≤u:=bdK_high
def RngD (D:List Cd):Prop:= ∀d∈D,(0≤d.lat∧d.lat≤959)∧ ∀v∈d.can,0≤v∧v≤959
def SepD (D:List Cd):Prop:= ∀i j,i<D.length→j<D.length→i≠j→(dA D i).st=(dA D j).st→(dA D i).butt=(dA D j).butt→(dA D i).lat≠(dA D j).lat
theorem dA_mem (h:i<D.length):dA D i∈D:=by
 unfold dA
 rw [List.getD_eq_getElem?_getD,List.getElem?_eq_getElem h];exact List.getElem_mem h
theorem RngD.lat (r:RngD D) (h:i<D.length):0≤(dA D i).lat∧(dA D i).lat≤959:=(r _ (dA_mem h)).1
theorem RngD.can (r:RngD D) (h:i<D.length) (hv:v∈(dA D i).can):0≤v∧v≤959:=(r _ (dA_mem h)).2 v hv
theorem lowC_rng (r:RngD D) {x:Bo} (ok:okA D x=true) {p u:Int} (hi:i<D.length) (h:lowC bt st p (dA D i) (xA x i) u):0≤u∧u≤959:=by
 obtain ⟨v,e,_,⟨_,_,rfl⟩|⟨_,_,rfl⟩⟩:=h
 ·exact E85
 ·exact r.lat hi
theorem highC_rng (r:RngD D) {x:Bo} (ok:okA D x=true) {p u:Int} (hi:i<D.length) (h:highC bt st p (dA D i) (xA x i) u):0≤u∧u≤959:=by
 obtain ⟨v,e,_,⟨_,_,rfl⟩|⟨_,_,rfl⟩⟩:=h
 ·exact E85
 ·exact r.lat hi
theorem riC_same {a c:Cd} (hs:a.st=c.st) (hb:a.butt=c.butt):riC a c ma mc=riL a.lat c.lat ma mc:=by
 unfold riC
 rw [if_neg (fun h=>h hs),if_pos hb]
theorem riC_cross {a c:Cd} (hs:a.st=c.st) (hb:a.butt≠c.butt):riC a c ma mc=riX a.lat c.lat ma mc:=by
 unfold riC
 rw [if_neg (fun h=>h hs),if_neg hb];split
 ·exact riX_turn
 ·rfl
theorem low_high (sp:SepD D) {x:Bo} (ok:okA D x=true) {p u w:Int} (hi:i<D.length) (hj:j<D.length) (h1:lowC bt st p (dA D i) (xA x i) u) (h2:highC bt st p (dA D j) (xA x j) w):u≤w:=by
 obtain ⟨a,ea,sa,ha⟩:=h1
 obtain ⟨b,eb,sb,hb⟩:=h2
 by_cases hij:i=j
 ·subst hij
  rw [ea] at eb
  obtain rfl:=Option.some.inj eb
  rcases ha with ⟨k1,k2,rfl⟩|⟨k1,k2,rfl⟩<;>rcases hb with ⟨k3,k4,rfl⟩|⟨k3,k4,rfl⟩
  ·exact Int.le_refl _
  ·exact absurd k1 k3
  ·exact absurd k3 k1
  ·exact Int.le_refl _
 ·have hr:=okA_pair ok hij ea eb
  have hst:(dA D i).st=(dA D j).st:=sa.trans sb.symm
  rcases ha with ⟨k1,k2,rfl⟩|⟨k1,k2,rfl⟩<;>rcases hb with ⟨k3,k4,rfl⟩|⟨k3,k4,rfl⟩
  ·have hbt:(dA D i).butt=(dA D j).butt:=k1.trans k3.symm
   have:=sp i j hi hj hij hst hbt
   rw [riC_same hst hbt,jgA] at hr
   omega
  ·rw [riC_cross hst (fun e=>k3 (e.symm.trans k1)),jee] at hr
   omega
  ·rw [riC_cross hst (fun e=>k1 (e.trans k3)),jee] at hr
   omega
  ·have hbt:(dA D i).butt=(dA D j).butt:=by
    revert k1 k3
    cases (dA D i).butt<;>cases (dA D j).butt<;>cases bt<;>simp
   rw [riC_same hst hbt,jgA] at hr
   omega
theorem bdA_ok (r:RngD D) (sp:SepD D) {x:Bo} (ok:okA D x=true) (bt:Bool) (st p:Int):0≤(bdA D x bt st p).1∧(bdA D x bt st p).1≤(bdA D x bt st p).2∧(bdA D x bt st p).2≤959:=by
 have h0:=((bdA_low (D:=D) (x:=x) (bt:=bt) (st:=st) (p:=p)).1 (Int.le_refl _)).1
 have h9:=((bdA_high (D:=D) (x:=x) (bt:=bt) (st:=st) (p:=p)).1 (Int.le_refl _)).1
 refine ⟨h0,bdA_low.2 ⟨bdA_high.2 ⟨by omega,fun j hj u hu=>(highC_rng r ok hj hu).1⟩,fun i hi u hu=>bdA_high.2 ⟨(lowC_rng r ok hi hu).2,fun j hj w hw=>low_high sp ok hi hj hu hw⟩⟩,h9⟩
theorem bdA_self (r:RngD D) (sp:SepD D) {x:Bo} (ok:okA D x=true) (hk:k<D.length) (e:xA x k=some v):bdA D x (dA D k).butt (dA D k).st (dA D k).lat=(v,v):=by
 obtain ⟨_,h2,_⟩:=bdA_ok r sp ok (dA D k).butt (dA D k).st (dA D k).lat
 have h3:v≤(bdA D x (dA D k).butt (dA D k).st (dA D k).lat).1:=(bdA_low.1 (Int.le_refl _)).2 k hk v ⟨v,e,rfl,.inl ⟨rfl,Int.le_refl _,rfl⟩⟩
 have h4:(bdA D x (dA D k).butt (dA D k).st (dA D k).lat).2≤v:=(bdA_high.1 (Int.le_refl _)).2 k hk v ⟨v,e,rfl,.inl ⟨rfl,Int.le_refl _,rfl⟩⟩
 exact Prod.ext zO zO
theorem spB_fold (f:Bo→Int×Int): ∀(L:List Bo) (s:Int×Int) (t:Int),(t≤(L.foldl (fun s x=>(min s.1 (f x).1,max s.2 (f x).2)) s).1↔t≤s.1∧ ∀x∈L,t≤(f x).1)∧((L.foldl (fun s x=>(min s.1 (f x).1,max s.2 (f x).2)) s).2≤t↔s.2≤t∧ ∀x∈L,(f x).2≤t)
 |[],s,t=>by simp
 |a::L,s,t=>by
  rw [List.foldl_cons];obtain ⟨h1,h2⟩:=spB_fold f L (min s.1 (f a).1,max s.2 (f a).2) t
  rw [h1,h2];simp only [List.forall_mem_cons]
  constructor
  ·constructor
   ·rintro ⟨a1,a2⟩;exact E87
   ·rintro ⟨a1,a2,a3⟩;exact ⟨by omega,a3⟩
  ·constructor
   ·rintro ⟨a1,a2⟩;exact E87
   ·rintro ⟨a1,a2,a3⟩;exact ⟨by omega,a3⟩
theorem spB_low {f:Bo→Int×Int}:t≤(spB f L).1↔t≤959∧ ∀x∈L,t≤(f x).1:=(spB_fold f L (959,0) t).1
theorem spB_high {f:Bo→Int×Int}:(spB f L).2≤t↔0≤t∧ ∀x∈L,(f x).2≤t:=(spB_fold f L (959,0) t).2
theorem spB_self (r:RngD D) (sp:SepD D) {w:Nat} (hk:k<D.length) (hall: ∀x∈jak D w,(xA x k).isSome=true) (hne:jak D w≠[]) {lo hi:Int}
  (hlo:lo∈jck D (jak D w) k) (hhi:hi∈jck D (jak D w) k) (hb: ∀v∈jck D (jak D w) k,lo≤v∧v≤hi):spB (fun x=>bdA D x (dA D k).butt (dA D k).st (dA D k).lat) (jak D w)=(lo,hi):=by
 have hself: ∀x∈jak D w,∃v,xA x k=some v∧bdA D x (dA D k).butt (dA D k).st (dA D k).lat=(v,v):=fun x hx=>by
  obtain ⟨v,e⟩:=Option.isSome_iff_exists.1 (hall x hx)
  exact ⟨v,e,bdA_self r sp (jaL.1 hx).1 hk e⟩
 obtain ⟨xl,hxl,el⟩:=mem_canS_boats.1 hlo
 obtain ⟨xh,hxh,eh⟩:=mem_canS_boats.1 hhi
 obtain ⟨_,e1,b1⟩:=hself xl hxl
 obtain ⟨_,e2,b2⟩:=hself xh hxh
 rw [el] at e1
 obtain rfl:=Option.some.inj e1
 rw [eh] at e2
 obtain rfl:=Option.some.inj e2
 have rl:=r.can hk (mem_canC.1 hlo).1
 have rh:=r.can hk (mem_canC.1 hhi).1
 have k1:=(spB_low (f:=fun x=>bdA D x (dA D k).butt (dA D k).st (dA D k).lat) (L:=jak D w)).1 (Int.le_refl _)
 have k2:=(spB_high (f:=fun x=>bdA D x (dA D k).butt (dA D k).st (dA D k).lat) (L:=jak D w)).1 (Int.le_refl _)
 have g1:=k1.2 xl hxl
 have g2:=k2.2 xh hxh
 rw [b1] at g1
 rw [b2] at g2
 refine Prod.ext (Int.le_antisymm g1 (spB_low.2 ⟨rl.2,fun x hx=>?_⟩)) (Int.le_antisymm (spB_high.2 ⟨rh.1,fun x hx=>?_⟩) g2)
 ·obtain ⟨v,e,b⟩:=hself x hx
  rw [b];exact (hb v (mem_canS_boats.2 ⟨x,hx,e⟩)).1
 ·obtain ⟨v,e,b⟩:=hself x hx
  rw [b];exact (hb v (mem_canS_boats.2 ⟨x,hx,e⟩)).2
def shf (i j:Nat):Nat:=if j<i then j else j+1
theorem getD_erase {α:Type} (l:List α) (d:α) (i j:Nat):(l.eraseIdx i).getD j d=l.getD (shf i j) d:=by
 rw [List.getD_eq_getElem?_getD,List.getD_eq_getElem?_getD,List.getElem?_eraseIdx,shf];split<;>rfl
end Go.Lo
namespace Go.Proofs
open Go.Lo
open Go.Conc (G)
section
theorem f35_c (m:Md Tryz.prog B) (h:Hp) {c:Nat} (x:Int) (rd:RdS B h 1 (.slice p n c) n (jaI xs)) (hn:n≤1000000):FnC m 35 #[.slice p n c,.int .i64 x] h fun v h'=>h'=h∧IsB (x∈xs) v:=by
 have hl:=rd.ilen
 refine jaf Tryz.func35 rfl rfl (l:=(.slice p n c)::(.int .i64 x)::uu16) rfl ?_
 intro cf cs K hK
 refine Z10 ?_
 refine jai (fun nn l h'=> ∃(k:Nat),nn=n-k∧(k≤n)∧(∀i,i<k→xs.getD i 0≠x)∧(∃U:Nat→Value,l=((.slice p n c)::(.int .i64 x)::(U 2)::(U 3)::(U 4)::(.int .i64 (k:Int))::vw12 U 6 []))∧h=h') _ ⟨0,rfl,by omega,by omega,exU rfl,rfl⟩ ?_;rintro nn l h' ⟨k,rfl,hk,he,⟨U,rfl⟩,rfl⟩ hnext;refine Z6 ?_
 refine jao rfl zq (fun hc=>?_) (fun hc=>?_)
 ·refine Z9 ?_
  obtain ⟨rd_b,rd_o,rfl⟩:=rd.ptr zO
  refine D0 ?_;refine jaW rfl zq (rd.iat k zO zO) ?_;refine Zs ?_
  refine jaS rfl zq (fun hc=>?_) (fun hc=>?_)
  ·refine Z7 ?_;refine jad (h) rfl Tryz.func35 rfl jab ?_;refine Zs ?_
   exact E73
  ·refine Z9 ?_
   exact m.weak jab (hnext _ _ _ zO ⟨k+1,rfl,by omega,fun i hi=>by
    rcases Nat.lt_or_ge i k with h1|h1
    ·exact he i h1
    ·obtain rfl:i=k:=by omega
     assumption,exU rfl,rfl⟩)
 ·refine Z8 ?_;refine jad (h) rfl Tryz.func35 rfl jab ?_;refine Zs ?_
  exact ⟨rfl,IsB.no fun e=>by
   obtain ⟨i,h1,h2⟩:=jcU.1 e
   exact he i zO h2⟩
end
section
variable [LaidO B]
theorem fits_iff {v:List Int}:jcr v n=true↔ ∀j,j<3→(v.getD j 0<0∨v.getD j 0=(jbr n).getD j 0):=by
 rw [jcr,List.all_eq_true];exact E74
theorem ixN (hi:i<3):([.int .i64 ((n:Int)/96),.int .i64 ((n:Int)/8%12),.int .i64 ((n:Int)%8)]:List Value)[0+((i:Nat):Int).toNat*1]?=some (.int .i64 ((jbr n).getD i 0)):=by
 rcases (by omega:i=0∨i=1∨i=2) with rfl|rfl|rfl<;>rfl
theorem f101_c (m:Md Tryz.prog B) (h:Hp) {c:Nat} {v:List Int} (rd:RdS B h 1 (.slice p 3 c) 3 (jaI v)) (n:Nat) (hn:n<960):FnC m 101 #[.slice p 3 c,.int .i64 (n:Int)] h fun w h'=>h'=h∧IsB (jcr v n=true) w:=by
 refine jaf Tryz.func101 rfl rfl (l:=(.slice p 3 c)::(.int .i64 (n:Int))::uu33) rfl ?_
 intro cf cs K hK
 refine Z7 ?_;refine jfc n 96 rfl zq rfl rfl zO zO ?_;refine Zs ?_;refine jfc n 8 rfl zq rfl rfl zO zO ?_;refine jcp (a:=n/8) (b:=12) rfl zq zO ?_;refine Zs ?_;refine jcp (a:=n) (b:=8) rfl zq zO ?_
 refine jdk kdq rfl zq zA zA rfl (fun q14=>jau (jae ?_));refine Z8 ?_
 refine jai (fun nn l h'=> ∃(i:Nat),nn=3-i∧(i≤3)∧(∀j,j<i→(v.getD j 0<0∨v.getD j 0=(jbr n).getD j 0))∧(∃U:Nat→Value,l=((.slice p 3 c)::(.int .i64 (n:Int))::(U 2)::(U 3)::(U 4)::(.slice (some ⟨q14,0,none⟩) 3 3)::(.int .i64 (i:Int))::(U 7)::vw27 U 8 []))∧h++[⟨true,q14,.cells [.int .i64 ((n:Int)/96),.int .i64 ((n:Int)/8%12),.int .i64 ((n:Int)%8)].toArray 3 (0,0)⟩]=h') _ ⟨0,rfl,by omega,fun j hj=>absurd hj zO,exU rfl,rfl⟩ ?_;rintro nn l h' ⟨i,rfl,hi,hft,⟨U,rfl⟩,rfl⟩ hnext;refine Z4 ?_
 refine jao rfl zq (fun hc=>?_) (fun hc=>?_)
 ·refine Z6 ?_
  obtain ⟨b0,o0,rfl⟩:=rd.ptr zO
  refine jar [Zp 0,Zp 1,Zp 2,Zr 3,Zp 4,Zp 5,Zp 6,Zp 7,Zp 8,Zp 10,Zp 11,Zp 12,Zr 9,Zr 13,Zp 14,Zp 15] zK zK (List.Sublist.refl _) ?_;refine Z2 ?_;refine D12 ?_;refine jaW rfl zq (rd.iat i zO zO) ?_;refine jcH rfl zq (fun hc=>?_) (fun hc=>?_)
  ·refine Z3 ?_;refine jcq rfl rfl rfl zO zO ?_;refine Z2 ?_;refine jcq rfl rfl rfl zO zO ?_;refine jaW rfl rfl (rd.iat i zO zO) ?_;refine jaW (v:= .int .i64 ((jbr n).getD i 0)) rfl rfl (Rd.held (Has.mem (b:=q14)) (by have:=ixN (n:=n) (i:=i) zO;simpa using this)) ?_
   refine jbK rfl rfl (fun hc=>?_) (fun hc=>?_)
   ·refine Z8 ?_;refine jad (h) rfl Tryz.func101 rfl jab ?_;refine Zs ?_
    first
     |exact E75
     |exact E76
   ·refine Z10 ?_
    exact m.weak jab (hnext _ _ _ zO ⟨i+1,rfl,by omega,fun j hj=>by
     by_cases e:j<i
     ·exact hft j e
     ·obtain rfl:j=i:=by omega
      omega,exU rfl,rfl⟩)
  ·refine Z20 ?_
   exact m.weak jab (hnext _ _ _ zO ⟨i+1,rfl,by omega,fun j hj=>by
    by_cases e:j<i
    ·exact hft j e
    ·obtain rfl:j=i:=by omega
     omega,exU rfl,rfl⟩)
 ·refine Z8 ?_;refine jad (h) rfl Tryz.func101 rfl jab ?_;refine Zs ?_
  first
   |exact E75
   |exact E76
theorem f32_c (m:Md Tryz.prog B) (h:Hp) (s:Str) (hl:s.length≤100000):FnC m 32 #[str s] h fun w h'=> ∃new,h'=h++new∧OwnS 3 1 w (jbl s).length (jaI (jbl s)) new:=by
 refine jaf Tryz.func32 rfl rfl (l:=(str s)::uu26) rfl ?_
 intro cf cs K hK
 refine Z7 ?_;refine jaD rfl zq zK (Post:=fun v new=> ∃w,OwnS 3 1 w (joZ s).length (jaI (joZ s)) new∧v= .tuple [w,.bool (ja6 s)].toArray) (fun H' hH=>juf m H' s hl) ?_
 rintro v n1 ⟨w1,o1,rfl⟩;refine jaH (jae ?_);obtain ⟨p1,c1,rfl,hc1,r1⟩:=jav (B:=B) o1
 refine Z7 ?_
 cases hfo:ja6 s
 rotate_left
 have hls:joZ s=jal s:=by rw [joZ,if_pos hfo]
 have hll:(joZ s).length=3:=by rw [hls];exact (jbi s).len
 rw [hls] at r1
 have h3:=(jbi s).len
 all_goals
  refine Z9 ?_
 ·rw [hll];refine jai (fun nn l h'=> ∃(k:Nat) (wp:Option Addr) (wc:Nat) (M:Hp),nn=960-k∧(k≤960)∧(OwnS 3 1 (.slice wp (jfv (jal s) k).length wc) (jfv (jal s) k).length (jaI (jfv (jal s) k)) M)∧(∃U:Nat→Value,l=((str s)::(U 1)::(U 2)::(.slice p1 3 c1)::(.bool true)::(.slice wp (jfv (jal s) k).length wc)::(.int .i64 (k:Int))::jr6 U 7 []))∧h++n1++M=h') _ ⟨0,none,0,[],rfl,by omega,OwnS.nil,exU rfl,zS⟩ ?_;rintro nn l h' ⟨k,wp,wc,M,rfl,hk,how,⟨U,rfl⟩,rfl⟩ hnext;have hml:=jl4 (jal s) k
  refine Z2 ?_
  skip
  ·refine Z2 ?_
   refine jcn rfl zq (fun hc=>?_) (fun hc=>?_)
   ·refine Z12 ?_;refine jag (Post:=fun v=>IsB _ v) rfl zq zK (fun H' hH=>f101_c m H' (c:=c1) (p:=p1) ((h3▸r1).keeps (sq hH)) k zO) ?_
    rintro v (⟨hc,rfl⟩|⟨hc,rfl⟩);refine Z6 ?_
    refine jdk kdq rfl zq zA zA rfl (fun q24=>jau (jae ?_));refine jbL rfl zq rfl how kdq zO zO (fun w9 n9 o9=>jae ?_);obtain ⟨p9,c9,rfl,hc9,r9⟩:=jav (B:=B) o9
    refine Z2 ?_
    rotate_left
    refine Z4 ?_
    all_goals
     refine Z6 ?_
    ·have hks:jfv (jal s) (k+1)=jfv (jal s) k:=by rw [jeO,if_neg hc,List.append_nil]
     rw [←hks];exact E19
    ·have hks:jfv (jal s) (k+1)=jfv (jal s) k++[(k:Int)]:=by rw [jeO,if_pos hc]
     have hkl:(jfv (jal s) (k+1)).length=(jfv (jal s) k).length+1:=by rw [hks];simp
     rw [←hkl];exact E20
   ·refine Z12 ?_;refine jad (h++M) rfl Tryz.func32 rfl jab ?_;refine Zs ?_
    obtain rfl:k=960:=by omega
    exact ⟨M,rfl,by rw [jbl,hfo];exact how⟩
 ·refine jai (fun nn l h'=> ∃(k:Nat),nn=0-k∧(k≤0)∧(∃U:Nat→Value,l=((str s)::(U 1)::(U 2)::(U 3)::(.bool false)::(.slice none 0 0)::(.int .i64 (k:Int))::jr6 U 7 []))∧h++n1=h') _ ⟨0,rfl,by omega,exU rfl,rfl⟩ ?_;rintro nn l h' ⟨k,rfl,hk,⟨U,rfl⟩,rfl⟩ hnext;refine Z2 ?_
  skip
  ·refine Z2 ?_
   refine jcn rfl zq (fun hc=>?_) (fun hc=>?_);refine Z3 ?_
   rotate_left
   refine Z3 ?_
   all_goals
    refine Z9 ?_;refine jad (h) rfl Tryz.func32 rfl jab ?_;refine Zs ?_
    exact ⟨[],by simp,by rw [jbl,hfo];exact OwnS.nil⟩
end
section
variable [LaidO B]
theorem wrap8 (n:Nat) (h:n<10):IntKind.u8.wrap (48+(n:Int))=((UInt8.ofNat (48+n)).toNat:Int):=by
 have: ∀n<10,IntKind.u8.wrap (48+((n:Nat):Int))=((UInt8.ofNat (48+n)).toNat:Int):=by decide
 exact this n h
theorem dig_len (n:Nat):(jdj n).length≤2:=by unfold jdj;split<;>simp
theorem figN_eq (n:Nat):jce n=jdj (n/96)++[45]++jdj (n/8%12)++[45]++jdj (n%8):=by
 have h (k:Nat):jaG ((k:Nat):Int)=jdj k:=by rw [jaG,if_neg zO,Int.toNat_natCast]
 rw [jce,jcJ,jbr];simp only [List.map,h]
 simp [jl9]
theorem rd_one {q:Nat} {rw:Bool} {t:TypeId} {f:Nat×Nat} {c:UInt8} [x:Has h q rw (.cells [.int .u8 (c.toNat:Int)].toArray t f)]:RdN B h q 0 ([c].map jbV):=fun j hj=>by
 obtain rfl:j=0:=by simpa using hj
 exact Rd.held x.mem rfl
theorem f102s_c (m:Md Tryz.prog B) (h:Hp) (n:Nat) (hn:n<10):FnC m 102 #[.int .i64 (n:Int)] h fun v h'=>h'=h∧v=str (jdj n):=by
 refine jaf Tryz.func102 rfl rfl (l:=(.int .i64 (n:Int))::jpn) rfl ?_
 intro cf cs K hK
 refine Z8 ?_
 refine jao rfl zq (fun hc=>?_) (fun hc=>?_)
 ·refine Z3 ?_
  omega
 ·refine Z7 ?_
  refine jao rfl zq (fun hc=>?_) (fun hc=>?_)
  ·refine Z6 ?_;refine jbg (n':=((UInt8.ofNat (48+n)).toNat:Int)) rfl zq zK (wrap8 _ zO) ?_
   refine jdk kdq rfl zq zA zA rfl (fun q13=>jau (jae ?_));refine k_b2s (s:=[UInt8.ofNat (48+n)]) rfl zq jfo zK jgR rfl rd_one ?_;refine Z3 ?_;refine jad (h) rfl Tryz.func102 rfl jab ?_;refine Zs ?_;exact ⟨rfl,by rw [jdj,if_pos hn]⟩
  ·refine Z4 ?_
   omega
theorem f102_c (m:Md Tryz.prog B) (h:Hp) (n:Nat) (hn:n<100):FnC m 102 #[.int .i64 (n:Int)] h fun v h'=>h'=h∧v=str (jdj n):=by
 refine jaf Tryz.func102 rfl rfl (l:=(.int .i64 (n:Int))::jpn) rfl ?_
 intro cf cs K hK
 refine Z8 ?_
 refine jao rfl zq (fun hc=>?_) (fun hc=>?_)
 ·refine Z3 ?_
  omega
 ·refine Z7 ?_
  refine jao rfl zq (fun hc=>?_) (fun hc=>?_)
  ·refine Z6 ?_;refine jbg (n':=((UInt8.ofNat (48+n)).toNat:Int)) rfl zq zK (wrap8 _ zO) ?_
   refine jdk kdq rfl zq zA zA rfl (fun q13=>jau (jae ?_));refine k_b2s (s:=[UInt8.ofNat (48+n)]) rfl zq jfo zK jgR rfl rd_one ?_;refine Z3 ?_;refine jad (h) rfl Tryz.func102 rfl jab ?_;refine Zs ?_;refine ⟨rfl,?_⟩
   first
    |(rw [jdj,if_pos zO,jdj,if_neg zO];rfl)
    |(rw [jdj,if_pos zO];done)
  ·refine Z4 ?_;refine jb3 [0,1,2,3,4,5,6,7,8,9,10] zK zK (List.Sublist.refl _) ?_
   refine DrawT.split 2 7 zA ?_ (DrawT.split 2 8 zA ?_ ?_)
   refine DrawT.leaf [Zp 0,Zp 1,Zp 3,Zp 4,Zp 5,Zp 6,Zk 2,Zk 7,Zk 8,Zp 9,Zp 10] zK ?_;refine Zs ?_;refine jfc n 10 rfl zq rfl rfl zO zO ?_;refine Zs ?_;refine jcp (a:=n) (b:=10) rfl zq zO ?_;refine Zs ?_;refine jbg (n':=((UInt8.ofNat (48+n%10)).toNat:Int)) rfl zq zK (wrap8 _ zO) ?_;refine jag (Post:=fun v=>v=_) rfl zq zK (fun H' hH=>f102s_c m H' (n/10) zO) ?_
   rintro v rfl;refine Zs ?_
   refine jdk kdq rfl zq zA zA rfl (fun q22=>jau (jae ?_));refine k_b2s (s:=[UInt8.ofNat (48+n%10)]) rfl zq jfo zK jgR rfl rd_one ?_;rotate_left
   refine DrawT.leaf [Zp 0,Zp 1,Zp 3,Zp 4,Zp 5,Zp 6,Zk 7,Zk 2,Zk 8,Zp 9,Zp 10] zK ?_;refine Zs ?_;refine jfc n 10 rfl zq rfl rfl zO zO ?_;refine Zs ?_;refine jcp (a:=n) (b:=10) rfl zq zO ?_;refine Zs ?_;refine jbg (n':=((UInt8.ofNat (48+n%10)).toNat:Int)) rfl zq zK (wrap8 _ zO) ?_
   refine jdk kdq rfl zq zA zA rfl (fun q22=>jau (jae ?_));refine jag (Post:=fun v=>v=_) rfl zq zK (fun H' hH=>f102s_c m H' (n/10) zO) ?_;rintro v rfl;refine Zs ?_;refine k_b2s (s:=[UInt8.ofNat (48+n%10)]) rfl zq jfo zK jgR rfl rd_one ?_
   rotate_left
   refine DrawT.leaf [Zp 0,Zp 1,Zp 3,Zp 4,Zp 5,Zp 6,Zk 7,Zk 8,Zk 2,Zp 9,Zp 10] zK ?_;refine Zs ?_;refine jfc n 10 rfl zq rfl rfl zO zO ?_;refine Zs ?_;refine jcp (a:=n) (b:=10) rfl zq zO ?_;refine Zs ?_;refine jbg (n':=((UInt8.ofNat (48+n%10)).toNat:Int)) rfl zq zK (wrap8 _ zO) ?_
   refine jdk kdq rfl zq zA zA rfl (fun q22=>jau (jae ?_));refine k_b2s (s:=[UInt8.ofNat (48+n%10)]) rfl zq jfo zK jgR rfl rd_one ?_;refine jag (Post:=fun v=>v=_) rfl zq zK (fun H' hH=>f102s_c m H' (n/10) zO) ?_;rintro v rfl;refine Zs ?_
   all_goals
    refine k_sadd rfl zq (by have:=dig_len (n/10);simp;omega) ?_;refine Z3 ?_;refine jad (h) rfl Tryz.func102 rfl jab ?_;refine Zs ?_;refine ⟨rfl,?_⟩
    first
     |(rw [jdj,if_pos zO,jdj,if_neg zO];rfl)
     |(rw [jdj,if_pos zO];done)
theorem f34_c (m:Md Tryz.prog B) (h:Hp) (n:Nat) (hn:n<960):FnC m 34 #[.int .i64 (n:Int)] h fun v h'=>h'=h∧v=str (jce n):=by
 refine jaf Tryz.func34 rfl rfl (l:=(.int .i64 (n:Int))::uu16) rfl ?_
 intro cf cs K hK
 refine Z5 ?_;refine jaK [Zf 0,Zf 1,Zf 2,Zf 3,Zf 4,Zf 5,Zf 6,Zf 7,Zf 8,Zf 9,Zf 10,Zf 11,Zf 12,Zf 13,Zf 14] zK zK ?_;refine Zs ?_;refine jfc n 96 rfl zq rfl rfl zO zO ?_;refine jag (Post:=fun v=>v=str (jdj (n/96))) rfl zq zK (fun H' hH=>f102_c m H' (n/96) zO) ?_
 rintro v rfl;refine Zs ?_;refine k_sadd rfl zq (by have:=dig_len (n/96);have:=dig_len (n/8%12);have:=dig_len (n%8);simp;omega) ?_;refine Zs ?_;refine jfc n 8 rfl zq rfl rfl zO zO ?_;refine jcp (a:=n/8) (b:=12) rfl zq zO ?_;refine jag (Post:=fun v=>v=str (jdj (n/8%12))) rfl zq zK (fun H' hH=>f102_c m H' (n/8%12) zO) ?_
 rintro v rfl;refine Zs ?_;refine k_sadd rfl zq (by have:=dig_len (n/96);have:=dig_len (n/8%12);have:=dig_len (n%8);simp;omega) ?_;refine k_sadd rfl zq (by have:=dig_len (n/96);have:=dig_len (n/8%12);have:=dig_len (n%8);simp;omega) ?_;refine Zs ?_;refine jcp (a:=n) (b:=8) rfl zq zO ?_;refine jag (Post:=fun v=>v=str (jdj (n%8))) rfl zq zK (fun H' hH=>f102_c m H' (n%8) zO) ?_
 rintro v rfl;refine Zs ?_;refine k_sadd rfl zq (by have:=dig_len (n/96);have:=dig_len (n/8%12);have:=dig_len (n%8);simp;omega) ?_;refine Z3 ?_;refine jad (h) rfl Tryz.func34 rfl jab ?_;refine Zs ?_
 exact ⟨rfl,by rw [figN_eq]⟩
end
end Go.Proofs
namespace Go.Proofs
open Go.Lo
theorem meaP_asc (p:List Int):Asc (jdJ p):=by
 unfold Asc jdJ
 rw [List.pairwise_map];exact (List.Pairwise.filter _ List.pairwise_lt_range).imp fun h=>by omega
theorem meaS_up (s:Str):Asc (jbl s):=by
 unfold jbl
 split
 ·exact meaP_asc _
 ·exact List.Pairwise.nil
theorem asc_nd (h:Asc l):l.Nodup:=List.Pairwise.imp (fun h=>by omega) h
theorem meaS_rng (h:v∈jbl s):0≤v∧v≤959:=by
 unfold jbl at h
 split at h
 ·unfold jdJ at h
  obtain ⟨n,hn,rfl⟩:=List.mem_map.1 h
  have:=List.mem_range.1 (List.mem_filter.1 hn).1
  omega
 ·cases h
theorem up_lat (u:ls.Pairwise fun a b=>a.lat<b.lat) (hi:i<ls.length) (hj:j<ls.length) (e:(ls.getD i default).lat=(ls.getD j default).lat):i=j:=by
 rw [List.getD_eq_getElem?_getD,List.getElem?_eq_getElem hi,List.getD_eq_getElem?_getD,List.getElem?_eq_getElem hj] at e
 simp only [Option.getD_some] at e
 rw [List.pairwise_iff_getElem] at u
 rcases Nat.lt_trichotomy i j with h|h|h
 ·have:=u i j hi hj h;omega
 ·exact h
 ·have:=u j i hj hi h;omega
section
theorem cell_at (hi:i<(jaa b).length):jbO b ((jaa b).getD i default)=true∧jbo b ((jaa b).getD i default)≠jbG:=jaA (jah hi)
theorem canNd_cdT (b:Tb):canNd (cdT b):=fun d hd=>by
 obtain ⟨c,_,rfl⟩:=List.mem_map.1 hd
 exact asc_nd (meaS_up _)
theorem can_at (hi:i<(jaa b).length):(dA (cdT b) i).can=jbl (jbo b ((jaa b).getD i default)):=by rw [jaF b hi];rfl
theorem RngD_cdT (k:TbOk b):RngD (cdT b):=fun d hd=>by
 obtain ⟨c,hc,rfl⟩:=List.mem_map.1 hd
 have h:=jaA hc
 exact ⟨((k.lines c.butt).ok _ (jbz h.1)).lat,fun v hv=>meaS_rng hv⟩
theorem SepD_cdT (k:TbOk b):SepD (cdT b):=fun i j hi hj hij hst hbt e=>by
 rw [jaq] at hi hj
 rw [jaF b hi,jaF b hj] at hst hbt e
 have h1:=jbk.1 (cell_at hi).1
 have h2:=jbk.1 (cell_at hj).1
 have hb:((jaa b).getD i default).butt=((jaa b).getD j default).butt:=hbt
 have hs:((jaa b).getD i default).st=((jaa b).getD j default).st:=hst
 replace e:((jap b ((jaa b).getD i default).butt).getD ((jaa b).getD i default).line.toNat default).lat=((jap b ((jaa b).getD j default).butt).getD ((jaa b).getD j default).line.toNat default).lat:=e
 rw [hb] at e h1
 have:=up_lat (k.lines _).up zO zO e
 refine hij (jkb hi hj ?_)
 rcases hc:(jaa b).getD i default with ⟨b1,l1,s1⟩
 rcases hd:(jaa b).getD j default with ⟨b2,l2,s2⟩
 rw [hc,hd] at hb hs this
 rw [hc] at h1
 rw [hd] at h1 h2
 simp only at hb hs this h1 h2
 rw [hb,hs,show l1=l2 by omega]
end
end Go.Proofs
namespace Go.Proofs
open Go.Lo
open Go.Conc (G)
section
variable [LaidO B]
section
variable {m:Md P B} {l l' l'':List Value} {S h h' H:Hp}
end
section
theorem fig_sm (sm:TbSm b) (k:TbOk b) {c:Ce} (hc:jbO b c=true):(jbo b c).length≤100000:=by
 have h1:=fig_mem k hc
 have h2:=jbz hc
 unfold jap at h2
 split at h2
 ·exact (sm.but _ h2).2 _ h1
 ·exact (sm.wat _ h2).2 _ h1
theorem figs_rd (hn:1≤n) (k:LsOk n ls) (e:lps.map (·.ln)=ls) (hf: ∀x∈lps,x.ln.figs.length≤x.c∧(0<x.ln.figs.length→RdS B h 1 (.slice x.p x.ln.figs.length x.c) x.ln.figs.length (jaC x.ln.figs))): ∀x∈lps,x.ln.figs.length≤x.c∧RdS B h 1 (.slice x.p x.ln.figs.length x.c) x.ln.figs.length (jaC x.ln.figs):=fun x hx=>by
 have hm:x.ln∈ls:=e▸List.mem_map.2 ⟨x,hx,rfl⟩
 have:=(k.ok _ hm).len
 exact E77
theorem f33_r (m:Md Tryz.prog B) (h:Hp) (ra:RawTb B h b ps ns ks pw nw cw pb nb cb) (k:TbOk b) {c:Ce} (hc:jbO b c=true) (f:Str) (hf:f.length≤100000):FnC m 33 #[tbV b ps ns ks pw nw cw pb nb cb,cV c.butt c.line c.st,str f] h fun v h'=> ∃nz,h'=h++nz∧ ∃pw' cw' pb' cb',v=tbV (jat b c f) ps ns ks pw' nw cw' pb' nb cb'∧RdLn B nz (.slice pw' nw cw') nw (jat b c f).waters∧RdLn B nz (.slice pb' nb cb') nb (jat b c f).butts:=by
 obtain ⟨lw,hlw,rlw,hfw⟩:=ra.w
 obtain ⟨lb,hlb,rlb,hfb⟩:=ra.u
 have hn1:=k.n1
 have hsl:=ra.s.elen zA
 have hfw':=figs_rd hn1 k.waters hlw hfw
 have hfb':=figs_rd hn1 k.butts hlb hfb
 have hh:=jbk.1 hc
 have hll:jap b c.butt=(if c.butt then lb else lw).map (·.ln):=by unfold jap;split;exact hlb.symm;exact hlw.symm
 have hlen:((if c.butt then lb else lw).length:Int)=((jap b c.butt).length:Int):=by rw [hll,List.length_map]
 have hfl:((if c.butt then lb else lw).getD c.line.toNat default).ln.figs.length=b.sts.length:=by
  have e1:(jaT b c)=((if c.butt then lb else lw).getD c.line.toNat default).ln:=by
   rw [jaT,hll,ja1 _ _ zO]
  rw [←e1];exact E78
 refine CallF.mono (f33_c m h (b:=b) rlw rlb ra.wn ra.un hfw' hfb' (by rw [hlw];exact fun l hl=>(ra.sm.wat l hl).1) (by rw [hlb];exact fun l hl=>(ra.sm.but l hl).1) c.butt c.line c.st f hh.1 (by rw [hlen];exact hh.2.1) hh.2.2.1 (by rw [hfl];exact hh.2.2.2)) ?_
 rintro v h' ⟨nz,pw',cw',pb',cb',e1,e2,e3,e4⟩;refine ⟨nz,e1,pw',cw',pb',cb',by rw [e2,tbV,tbV,tbL,tbL,setF_wrong],?_,?_⟩
 ·rw [hlw] at e3
  unfold jat
  cases hb:c.butt
  ·rw [hb] at e3
   exact e3
  ·rw [hb] at e3
   exact e3
 ·rw [hlb] at e4
  unfold jat
  cases hb:c.butt
  ·rw [hb] at e4
   exact e4
  ·rw [hb] at e4
   exact e4
theorem raw_set {nz:Hp} {cw':Nat} {cb':Nat} (ra:RawTb B h b ps ns ks pw nw cw pb nb cb) (sm:TbSm b) {c:Ce} (hf:f.length≤100000) (e1:RdLn B nz (.slice pw' nw cw') nw (jat b c f).waters) (e2:RdLn B nz (.slice pb' nb cb') nb (jat b c f).butts) (s1:h.Sublist H) (s2:nz.Sublist H):RawTb B H (jat b c f) ps ns ks pw' nw cw' pb' nb cb':=
 ⟨by rw [(jbF b c f).1];exact ra.s.keeps s1,ra.sc,ra.sn,e1.keeps s2,ra.wn,e2.keeps s2,ra.un,jjk sm hf⟩
end
theorem boats_put (k:TbOk b) (hi:i<(jaa b).length) (hv:v∈jbl (jbo b ((jaa b).getD i default))) (hf:jbl f=[v]) (hd:f≠jbG):(jac (jat b ((jaa b).getD i default) f)).length=jcy (jac b) i v+jaU (jac b) i:=by
 have hi':i<(cdT b).length:=by rw [jaq];exact hi
 unfold jac
 rw [cdT_put k hi hd,setF_wrong,hf];exact put_len hi' (canNd_cdT b _ (dA_mem hi')) (by rw [can_at hi];exact hv)
end
end Go.Proofs
namespace Go.Lo
open Go.Proofs
theorem fig_check:((List.range 960).all fun n=>ja6 (jce n)&&decide (jal (jce n)=jbr n))=true:=by kernel_rfl
theorem fig_parts (h:n<960):ja6 (jce n)=true∧jal (jce n)=jbr n:=by
 have:=List.all_eq_true.1 fig_check n (List.mem_range.2 h)
 simpa using this
theorem fits_self {m:Nat} (hn:n<960) (hm:m<960):jcr (jbr n) m=decide (m=n):=by
 have h3:List.range 3=[0,1,2]:=rfl
 rw [jcr,h3];by_cases e:m=n
 ·subst e
  simp
 ·rw [decide_eq_false e,Bool.eq_false_iff];intro h
  simp only [jbr,List.all_cons,List.all_nil,Bool.and_true,Bool.and_eq_true,Bool.or_eq_true,decide_eq_true_iff,List.getD_cons_zero,List.getD_cons_succ] at h
  omega
theorem meaP_full (hn:n<960):jdJ (jbr n)=[(n:Int)]:=by
 have h1:(List.range 960).filter (jcr (jbr n))=[n]:=by
  have h2:(List.range 960).filter (jcr (jbr n))=(List.range 960).filter (fun m=>decide (m=n)):=List.filter_congr fun m hm=>fits_self hn (List.mem_range.1 hm)
  rw [h2];have h3:(List.range 960).filter (fun m=>decide (m=n))=List.replicate ((List.range 960).count n) n:=by
   rw [←List.filter_beq];exact List.filter_congr fun m _=>by rw [Bool.beq_eq_decide_eq]
  rw [h3,List.nodup_range.count,if_pos (List.mem_range.2 hn)];rfl
 rw [jdJ,h1];rfl
theorem meaS_fig (hn:n<960):jbl (jce n)=[(n:Int)]:=by
 obtain ⟨h1,h2⟩:=fig_parts hn
 rw [jbl,if_pos h1,h2,meaP_full hn]
def gp (n b i:Nat):Str:=if b.testBit i then [63] else (jfw (jce n) 45).getD i []
theorem ends_of (h:l.Pairwise (· < ·)) (hz:z∈l):jfs l≤z∧z≤jiA l:=by
 obtain ⟨i,hi,rfl⟩:=List.mem_iff_getElem.1 hz
 have hp:=List.pairwise_iff_getElem.1 h
 have g: ∀k (hk:k<l.length),l.getD k 0=l[k]:=fun k hk=>by rw [List.getD_eq_getElem?_getD,List.getElem?_eq_getElem hk];rfl
 unfold jfs jiA
 rw [g 0 zO,g (l.length-1) zO];constructor
 ·rcases Nat.eq_zero_or_pos i with rfl|h0
  ·exact Int.le_refl _
  ·have:=hp 0 i zO hi h0;omega
 ·rcases Nat.lt_or_ge i (l.length-1) with h1|h1
  ·have:=hp i (l.length-1) hi zO h1;omega
  ·obtain rfl:i=l.length-1:=by omega
   exact Int.le_refl _
theorem meaS_in (h:z∈jbl s):0≤z∧z≤959:=by
 unfold jbl at h
 split at h
 ·rw [jdJ] at h
  obtain ⟨k,hk,rfl⟩:=List.mem_map.1 h
  have:=List.mem_range.1 (List.mem_filter.1 hk).1
  omega
 ·cases h
end Go.Lo
namespace Go.Proofs
open Go.Lo
open Go.Conc (G)
section
variable [LaidO B]
theorem figN_smu (h:n<960):jb0 (jce n)=0:=by
 rw [jb0,(fig_parts h).2,List.countP_eq_zero];intro x hx
 simp only [jbr,List.mem_cons,List.not_mem_nil,or_false] at hx
 rw [decide_eq_true_eq];omega
theorem figN_ok (h:n<960):jbx (jce n)=true:=by rw [jbx,(fig_parts h).1];rfl
theorem figN_dash (h:n<960):jce n≠jbG:=fun e=>by
 have:=(fig_parts h).1
 rw [e] at this
 exact absurd this zA
theorem put_ok (k:TbOk b) {c:Ce} (hc:jbO b c=true) (h:n<960):TbOk (jat b c (jce n)):=setF_ok k hc (figN_ok h) (by rw [figN_smu h];have:=k.smu;omega)
theorem fig_short0:((List.range 960).all fun n=>decide ((jce n).length≤9))=true:=by kernel_rfl
theorem figN_len (h:n<960):(jce n).length≤9:=of_decide_eq_true (List.all_eq_true.1 fig_short0 n (List.mem_range.2 h))
theorem open_at (hz:tbS b=0) (hk:k<(jaa b).length) (hne:jac b≠[]):jaJ b (jdv b ((jaa b).getD k default))=0:=jej hz (jg6 hk) hne
theorem open_no (hz:tbS b=0) (hk:k<(jaa b).length) (hne:jac b=[]):jaJ b (jdv b ((jaa b).getD k default))=9:=jlV hz (jg6 hk) hne
theorem canL_at (hz:tbS b=0) (hk:k<(jaa b).length) (hne:jac b≠[]):jeu b ((jaa b).getD k default)=jck (cdT b) (jac b) k:=by rw [jeu,if_pos (open_at hz hk hne),jgr hk]
theorem canL_no (hz:tbS b=0) (hk:k<(jaa b).length) (hne:jac b=[]):jeu b ((jaa b).getD k default)=[]:=by rw [jeu,if_neg (by rw [open_no hz hk hne];decide)]
theorem meaS_nat (hj:j<(jbl s).length): ∃n:Nat,n<960∧(jbl s).getD j 0=(n:Int)∧(n:Int)∈jbl s:=by
 have hm:(jbl s).getD j 0∈jbl s:=by rw [List.getD_eq_getElem?_getD,List.getElem?_eq_getElem hj];exact List.getElem_mem hj
 have:=meaS_rng hm
 exact E79
theorem span_eq {p:Int} (h:jaJ b (jfJ b st p)=0):jaE b bt st p=spB (fun x=>bdA (cdT b) x bt st p) (jac b):=by rw [jaE,if_pos h];rfl
theorem ownP_in {p:Int} (h:0≤st∧st<(b.sts.length:Int)) (h2:0≤p∧p≤959):jfJ b st p=0:=by
 rw [jfJ,if_neg (fun e=>e ⟨h.1,by omega⟩),if_neg (fun e=>e h2)]
theorem openP_in {p:Int} (hz:tbS b=0) (h:0≤st∧st<(b.sts.length:Int)) (h2:0≤p∧p≤959) (hne:jac b≠[]):jaJ b (jfJ b st p)=0:=jej hz (ownP_in h h2) hne
theorem place_in (ok:TbOk b) {c:Ce} (hc:jbO b c=true):(0≤c.st∧c.st<(b.sts.length:Int))∧0≤(jaT b c).lat∧(jaT b c).lat≤959:=by
 have h:=jbk.1 hc
 exact ⟨⟨h.2.2.1,h.2.2.2⟩,((ok.lines _).ok _ (jbz hc)).lat⟩
def spW (b:Tb) (c:Ce):Int×Int:=jaE b c.butt c.st (jaT b c).lat
theorem first_mem (h:0<l.length):jfs l∈l∧jiA l∈l:=by
 unfold jfs jiA
 rw [List.getD_eq_getElem?_getD,List.getD_eq_getElem?_getD,List.getElem?_eq_getElem h,List.getElem?_eq_getElem (show l.length-1<l.length by omega)];exact ⟨List.getElem_mem _,List.getElem_mem _⟩
theorem span_self (ok:TbOk b) (hz:tbS b=0) (hk:k<(jaa b).length) (hne:jac b≠[]) (hw:jaU (jac b) k=0):0<(jck (cdT b) (jac b) k).length∧spW b ((jaa b).getD k default)=(jfs (jck (cdT b) (jac b) k),jiA (jck (cdT b) (jac b) k)):=by
 have hk':k<(cdT b).length:=by rw [jaq];exact hk
 have hall: ∀x∈jac b,(xA x k).isSome=true:=fun x hx=>by
  have:=List.countP_eq_zero.1 hw x hx
  cases h:xA x k with
  |none=>rw [h] at this;exact absurd rfl this
  |some v=>rfl
 have hpos:0<(jck (cdT b) (jac b) k).length:=by
  obtain ⟨x,hx⟩:=List.exists_mem_of_ne_nil _ hne
  obtain ⟨v,e⟩:=Option.isSome_iff_exists.1 (hall x hx)
  exact List.length_pos_of_mem (mem_canS_boats.2 ⟨x,hx,e⟩)
 obtain ⟨h1,h2⟩:=first_mem hpos
 have hpl:=place_in ok (cell_at hk).1
 refine ⟨hpos,?_⟩
 rw [spW,span_eq (openP_in hz hpl.1 hpl.2 hne)];have:=spB_self (RngD_cdT ok) (SepD_cdT ok) hk' hall hne h1 h2 fun v hv=>ends_of (jmu hk) hv
 rw [jaF b hk] at this
 exact this
end
section
variable [LaidO B]
theorem line_rd {c:Nat} (r:RdLn B h (.slice p n c) n ls) (h0:0<n): ∃lb lo,∃lps:List Lp,p=some ⟨lb,lo,none⟩∧lps.map (·.ln)=ls∧lps.length=n∧RdS B h 2 (.slice (some ⟨lb,lo,none⟩) n c) n (jaC lps):=by
 obtain ⟨lps,e,r,_⟩:=r
 have hl:=r.elen zA
 obtain ⟨lb,lo,rfl⟩:=r.ptr h0
 exact ⟨lb,lo,lps,rfl,e,hl,r⟩
theorem lat_at (e:lps.map (·.ln)=ls) (hi:i<lps.length):(lps.getD i default).ln.lat=(ls.getD i default).lat:=by
 rw [←e,ja1 _ _ hi]
theorem f38_c (m:Md Tryz.prog B) (h:Hp) (ra:RawTb B h b ps ns ks pw nw cw pb nb cb) {c:Ce} (hht:jbO b c=true):FnC m 38 #[tbV b ps ns ks pw nw cw pb nb cb,cV c.butt c.line c.st] h fun v h'=>h'=h∧v= .tuple [.agg [.int .i64 (spW b c).1,.int .i64 (spW b c).2].toArray,.int .i64 (jaJ b (jfJ b c.st (jaT b c).lat))].toArray:=by
 refine jaf Tryz.func38 rfl rfl (l:=(tbV b ps ns ks pw nw cw pb nb cb)::(cV c.butt c.line c.st)::uu32) rfl ?_
 intro cf cs K hK
 refine Z2 ?_
 refine jaX rfl zq (fun q1=>jau (jae ?_));refine jaX rfl zq (fun q3=>jau (jae ?_));refine jax rfl zq (fun q4=>jau (jae ?_));refine Z8 ?_
 refine jcS (fun hc=>?_) (fun hc=>?_);first|replace hc:=of_decide_eq_true hc|replace hc:=of_decide_eq_false hc|skip
 refine Zs ?_
 have hbt:c.butt=true:=hc
 have hh:=jbk.1 hht
 have hln:(jap b c.butt).length=nb:=by rw [hbt];exact jaV ra.u
 obtain ⟨li,hli⟩:=Int.eq_ofNat_of_zero_le hh.1
 obtain ⟨lb,lo,lps,rfl,hle,hll,rl⟩:=line_rd ra.u zO
 have hlat:(lps.getD li default).ln.lat=(jaT b c).lat:=by
  rw [lat_at hle zO,jaT,hbt,hli];rfl
 refine jar [Zp 1,Zp 3,Zp 5,Zr 0,Zr 2,Zr 4,Zr 6,Zp 7,Zp 8,Zr 9,Zk 10,Zp 11,Zp 12,Zf 13,Zp 14] zK zK (List.Sublist.refl _) ?_;refine Z7 ?_;refine D12 ?_;refine Zs ?_;refine jaW (v:= .int .i64 (lps.getD li default).ln.lat) rfl zq (rl.fat li 0 zO zO rfl) ?_;rw [hlat];refine jag (Post:=fun v=>v= .tuple [.agg [.int .i64 (jaE b true c.st (jaT b c).lat).1,.int .i64 (jaE b true c.st (jaT b c).lat).2].toArray,.int .i64 (jaJ b (jfJ b c.st (jaT b c).lat))].toArray) rfl zq zK (fun H' hH=>f23_c m H' (ra.keeps (sq hH)) _ _) ?_;rotate_left
 first|replace hc:=of_decide_eq_true hc|replace hc:=of_decide_eq_false hc|skip
 refine Z2 ?_
 have hbt:c.butt=false:=by simpa using hc
 have hh:=jbk.1 hht
 have hln:(jap b c.butt).length=nw:=by rw [hbt];exact jaV ra.w
 obtain ⟨li,hli⟩:=Int.eq_ofNat_of_zero_le hh.1
 obtain ⟨lb,lo,lps,rfl,hle,hll,rl⟩:=line_rd ra.w zO
 have hlat:(lps.getD li default).ln.lat=(jaT b c).lat:=by
  rw [lat_at hle zO,jaT,hbt,hli];rfl
 refine jar [Zp 1,Zp 3,Zp 5,Zr 0,Zr 2,Zr 4,Zr 6,Zp 7,Zp 8,Zr 9,Zk 10,Zp 11,Zp 12,Zf 13,Zp 14] zK zK (List.Sublist.refl _) ?_;refine Z7 ?_;refine D12 ?_;refine Zs ?_;refine jaW (v:= .int .i64 (lps.getD li default).ln.lat) rfl zq (rl.fat li 0 zO zO rfl) ?_;rw [hlat];refine jag (Post:=fun v=>v= .tuple [.agg [.int .i64 (jaE b false c.st (jaT b c).lat).1,.int .i64 (jaE b false c.st (jaT b c).lat).2].toArray,.int .i64 (jaJ b (jfJ b c.st (jaT b c).lat))].toArray) rfl zq zK (fun H' hH=>f21_c m H' (ra.keeps (sq hH)) _ _) ?_;all_goals
  rintro v rfl;refine Z3 ?_;refine jhx ?_;refine jad (h) rfl Tryz.func38 rfl jab ?_;refine Zs ?_
  exact ⟨rfl,by rw [spW,hbt]⟩
end
section
variable [LaidO B]
theorem f114_t (m:Md Tryz.prog B) (h:Hp) {c1 c2:Nat} {xs:List Str} (r1:0<n→RdS B h 1 (.slice p1 n c1) n (jaC xs)) (r2:0<n→RdS B h 1 (.slice p2 n c2) n (jaC xs)) (hn:n≤1000):FnC m 114 #[.slice p1 n c1,.slice p2 n c2] h fun v h'=>h'=h∧v= .bool true:=by
 refine jaf Tryz.func114 rfl rfl (l:=(.slice p1 n c1)::(.slice p2 n c2)::jpn) rfl ?_
 intro cf cs K hK
 refine Z11 ?_;refine ja5 rfl zq rfl ?_;refine Z9 ?_
 refine jai (fun nn l h'=> ∃(k:Nat),nn=n-k∧(k≤n)∧(∃U:Nat→Value,l=((.slice p1 n c1)::(.slice p2 n c2)::(U 2)::(U 3)::(U 4)::(.int .i64 (k:Int))::jr6 U 6 []))∧h=h') _ ⟨0,rfl,by omega,exU rfl,rfl⟩ ?_;rintro nn l h' ⟨k,rfl,hk,⟨U,rfl⟩,rfl⟩ hnext;refine Z6 ?_
 refine jao rfl zq (fun hc=>?_) (fun hc=>?_)
 ·refine Z6 ?_
  have q1:=r1 zO
  have q2:=r2 zO
  have hl:=q1.elen zA
  obtain ⟨b1,o1,rfl⟩:=q1.ptr zO
  obtain ⟨b2,o2,rfl⟩:=q2.ptr zO
  refine jar [Zp 0,Zp 1,Zp 2,Zp 4,Zp 5,Zp 6,Zr 3,Zr 7,Zp 8] zK zK (List.Sublist.refl _) ?_;refine Z2 ?_;refine D12 ?_;refine Z2 ?_;refine D12 ?_;refine jaW rfl zq (q1.sat k zO zO) ?_;refine jaW rfl zq (q2.sat k zO zO) ?_;refine jdL rfl zq rfl ?_;refine Z9 ?_;exact E18
 ·refine Z8 ?_;refine jad (h) rfl Tryz.func114 rfl jab ?_;refine Zs ?_
  exact ⟨rfl,rfl⟩
theorem f115_t (m:Md Tryz.prog B) (h:Hp) {c1 c2:Nat} (r1:RdLn B h (.slice p1 n c1) n ls) (r2:RdLn B h (.slice p2 n c2) n ls) (hn:n≤1000) (hf: ∀l∈ls,l.figs.length≤1000):FnC m 115 #[.slice p1 n c1,.slice p2 n c2] h fun v h'=>h'=h∧v= .bool true:=by
 have hls:=jaV r1
 obtain ⟨l1,he1,rl1,hr1⟩:=r1
 obtain ⟨l2,he2,rl2,hr2⟩:=r2
 have hl1:l1.length=n:=by rw [←hls,←he1,List.length_map]
 have hl2:l2.length=n:=by rw [←hls,←he2,List.length_map]
 refine jaf Tryz.func115 rfl rfl (l:=(.slice p1 n c1)::(.slice p2 n c2)::uu40) rfl ?_
 intro cf cs K hK
 refine Z11 ?_;refine ja5 rfl zq rfl ?_;refine Z9 ?_
 refine jai (fun nn l h'=> ∃(k:Nat),nn=n-k∧(k≤n)∧(∃U:Nat→Value,l=((.slice p1 n c1)::(.slice p2 n c2)::(U 2)::(U 3)::(U 4)::(.int .i64 (k:Int))::vw36 U 6 []))∧h=h') _ ⟨0,rfl,by omega,exU rfl,rfl⟩ ?_;rintro nn l h' ⟨k,rfl,hk,⟨U,rfl⟩,rfl⟩ hnext;refine Z6 ?_
 refine jao rfl zq (fun hc=>?_) (fun hc=>?_)
 ·refine Z6 ?_
  have hkn:k<n:=by omega
  obtain ⟨b1,o1,rfl⟩:=rl1.ptr zO
  obtain ⟨b2,o2,rfl⟩:=rl2.ptr zO
  have e1:(l1.getD k default).ln=ls.getD k default:=by rw [←he1,ja1 l1 _ zO]
  have e2:(l2.getD k default).ln=ls.getD k default:=by rw [←he2,ja1 l2 _ zO]
  obtain ⟨_,g1⟩:=hr1 _ (jah (i:=k) zO)
  obtain ⟨_,g2⟩:=hr2 _ (jah (i:=k) zO)
  have hfk:=hf _ (jah (l:=ls) (i:=k) zO)
  rw [e1] at g1
  rw [e2] at g2
  refine jar [Zp 0,Zp 1,Zp 2,Zp 3,Zp 5,Zp 6,Zp 7,Zp 8,Zr 4,Zr 9,Zp 10,Zp 11,Zp 12,Zp 13,Zp 14,Zp 15,Zp 17,Zp 18,Zp 19,Zp 20,Zr 16,Zr 21,Zk 22,Zp 23,Zp 24] zK zK (List.Sublist.refl _) ?_;refine Z2 ?_;refine D12 ?_;refine Z3 ?_;refine D12 ?_;refine Zs ?_;refine jaW (v:= .int .i64 (ls.getD k default).lat) rfl zq (by rw [←e1];exact rl1.fat k 0 zO zO rfl) ?_;refine jaW (v:= .int .i64 (ls.getD k default).lat) rfl zq (by rw [←e2];exact rl2.fat k 0 zO zO rfl) ?_;refine ja5 rfl zq rfl ?_;refine Z3 ?_;refine jcq rfl rfl rfl zO zO ?_;refine Z3 ?_;refine jcq rfl rfl rfl zO zO ?_;refine Zs ?_;refine jaW (v:= .slice (l1.getD k default).p (ls.getD k default).figs.length (l1.getD k default).c) rfl rfl (by rw [←e1];exact rl1.fat k 1 zO zO rfl) ?_;refine jaW (v:= .slice (l2.getD k default).p (ls.getD k default).figs.length (l2.getD k default).c) rfl rfl (by rw [←e2];exact rl2.fat k 1 zO zO rfl) ?_;refine jag (Post:=fun v=>v= .bool true) rfl rfl zK (fun H' hH=>f114_t m H' (xs:=(ls.getD k default).figs) (fun hp=>(g1 hp).keeps (sq hH)) (fun hp=>(g2 hp).keeps (sq hH)) hfk) ?_;rintro v rfl;refine Z12 ?_
  exact E18
 ·refine Z8 ?_;refine jad (h) rfl Tryz.func115 rfl jab ?_;refine Zs ?_
  exact ⟨rfl,rfl⟩
theorem f54_t (m:Md Tryz.prog B) (h:Hp) (ra:RawTb B h b ps ns ks pw nw cw pb nb cb) {ks2:Nat} {cw2:Nat} {cb2:Nat} (ra2:RawTb B h b ps2 ns ks2 pw2 nw cw2 pb2 nb cb2) (hf:(∀l∈b.waters,l.figs.length≤1000)∧ ∀l∈b.butts,l.figs.length≤1000):FnC m 54 #[tbV b ps ns ks pw nw cw pb nb cb,tbV b ps2 ns ks2 pw2 nw cw2 pb2 nb cb2] h fun v h'=>h'=h∧v= .bool true:=by
 refine jaf Tryz.func54 rfl rfl (l:=(tbV b ps ns ks pw nw cw pb nb cb)::(tbV b ps2 ns ks2 pw2 nw cw2 pb2 nb cb2)::uu29) rfl ?_
 intro cf cs K hK
 refine Z2 ?_
 refine jaX rfl zq (fun q1=>jau (jae ?_));refine jaX rfl zq (fun q2=>jau (jae ?_));refine Z3 ?_;refine jaK [Zf 0,Zf 1,Zf 2,Zf 3,Zf 4,Zf 5,Zf 6,Zf 7,Zf 8,Zf 9,Zf 10,Zf 11,Zf 12,Zf 13,Zf 14,Zf 15,Zf 16,Zf 17,Zf 18,Zf 19,Zf 20,Zf 21,Zf 22,Zf 23,Zf 24,Zf 25,Zf 26] zK zK ?_;refine Z4 ?_;refine jbn rfl zq rfl ?_;refine Z5 ?_;refine jag (Post:=fun v=>v= .bool true) rfl rfl zK (fun H' hH=>f114_t m H' (fun _=>ra.s.keeps (sq hH)) (fun _=>ra2.s.keeps (sq hH)) ra.sn) ?_
 rintro v rfl;refine Z7 ?_;refine jag (Post:=fun v=>v= .bool true) rfl rfl zK (fun H' hH=>f115_t m H' (ra.w.keeps (sq hH)) (ra2.w.keeps (sq hH)) ra.wn hf.1) ?_
 rintro v rfl;refine Z7 ?_;refine jag (Post:=fun v=>v= .bool true) rfl rfl zK (fun H' hH=>f115_t m H' (ra.u.keeps (sq hH)) (ra2.u.keeps (sq hH)) ra.un hf.2) ?_
 rintro v rfl;refine Z5 ?_;refine jad (h) rfl Tryz.func54 rfl jab ?_;refine Zs ?_
 exact ⟨rfl,rfl⟩
end
section
variable [LaidO B]
section
variable (ok:TbOk b) (hk:k<(jaa b).length) {c:Ce} (hcx:c=(jaa b).getD k default)
include ok hk hcx
theorem drop_cells:jaa (jat b c jbG)=(jaa b).eraseIdx k:=by
 have hm:(jaa b).getD k default∈jaa b:=jah hk
 rw [hcx,jby ok (jaA hm).1,ja9 (jbu b) hk]
theorem drop_at (hj:j<(jaa b).length) (hne:k≠j): ∃i,i<(jaa (jat b c jbG)).length∧shf k i=j∧(jaa (jat b c jbG)).getD i default=(jaa b).getD j default:=by
 have hi:shf k (if j<k then j else j-1)=j:=by
  by_cases h:j<k
  ·rw [if_pos h,shf,if_pos h]
  ·rw [if_neg h,shf,if_neg zO];omega
 refine ⟨if j<k then j else j-1,?_,hi,?_⟩
 ·rw [drop_cells ok hk hcx,List.length_eraseIdx,if_pos hk];split<;>omega
 ·rw [drop_cells ok hk hcx,getD_erase,hi]
end
end
end Go.Proofs
namespace Go.Proofs
open Go.Lo
theorem fitsP_iff {p:List Int}:jcr p n=true↔ ∀i,i<3→p.getD i 0<0∨p.getD i 0=(jbr n).getD i 0:=by
 unfold jcr
 rw [List.all_eq_true];constructor
 ·intro h i hi
  have:=h i (List.mem_range.2 hi)
  simpa using this
 ·intro h i hi
  have:=h i (List.mem_range.1 hi)
  simpa using this
theorem mem_meaP {p:List Int} (hn:n<960):(n:Int)∈jdJ p↔jcr p n=true:=by
 unfold jdJ
 rw [List.mem_map];constructor
 ·rintro ⟨k,hk,e⟩;have:k=n:=by omega
  rw [this] at hk
  exact (List.mem_filter.1 hk).2
 ·intro h
  exact ⟨n,List.mem_filter.2 ⟨List.mem_range.2 hn,h⟩,rfl⟩
theorem meaP_pos {p:List Int} (hp:PtOk p):jdJ p≠[]:=by
 have h0:=hp.hi 0 zA
 have h1:=hp.hi 1 zA
 have h2:=hp.hi 2 zA
 have m0:mosts.getD 0 0=9:=rfl
 have m1:mosts.getD 1 0=11:=rfl
 have m2:mosts.getD 2 0=7:=rfl
 have l0:=hp.lo 0
 have l1:=hp.lo 1
 have l2:=hp.lo 2
 have hn:96*(p.getD 0 0).toNat+8*(p.getD 1 0).toNat+(p.getD 2 0).toNat<960:=by omega
 refine List.ne_nil_of_mem ((mem_meaP hn).2 (fitsP_iff.2 fun i hi=>?_))
 rcases (by omega:i=0∨i=1∨i=2) with rfl|rfl|rfl
 ·show p.getD 0 0<0∨p.getD 0 0=(((96*(p.getD 0 0).toNat+8*(p.getD 1 0).toNat+(p.getD 2 0).toNat)/96:Nat):Int)
  omega
 ·show p.getD 1 0<0∨p.getD 1 0=(((96*(p.getD 0 0).toNat+8*(p.getD 1 0).toNat+(p.getD 2 0).toNat)/8%12:Nat):Int)
  omega
 ·show p.getD 2 0<0∨p.getD 2 0=(((96*(p.getD 0 0).toNat+8*(p.getD 1 0).toNat+(p.getD 2 0).toNat)%8:Nat):Int)
  omega
theorem meaS_pos (h:ja6 s=true):0<(jbl s).length:=by
 rw [jbl,if_pos h];exact List.length_pos_iff.2 (meaP_pos (jbi s))
section
variable (ok:TbOk b) (hk:k<(jaa b).length) {c:Ce} (hcx:c=(jaa b).getD k default) {f g:Str} (hf:ja6 f=true) (hc:jba (jal f) (jal (jbo b c))=jba (jal (jbo b c)) (jal f)) (hg:g=jcJ (jba (jal (jbo b c)) (jal f)))
include ok hk hcx hf hc hg
end
end Go.Proofs
namespace Go.Proofs
open Go.Lo
open Go.Conc (G)
section
variable [LaidO B]
def zT:Tb:=⟨0,[],[],[]⟩
theorem raw_zero:RawTb B h zT none 0 0 none 0 0 none 0 0:=by
 have r: ∀w,RdS B h w (.slice none 0 0) 0 []:=fun w=>⟨none,0,rfl,by simp,.inl ⟨rfl,rfl⟩⟩
 have l:RdLn B h (.slice none 0 0) 0 []:=⟨[],rfl,r 2,fun x hx=>by cases hx⟩
 exact E91
theorem zero_same (m:Md Tryz.prog B) (h:Hp):FnC m 54 #[.agg zeroL.toArray,.agg zeroL.toArray] h fun v h'=>h'=h∧v= .bool true:=
 f54_t m h (b:=zT) raw_zero raw_zero ⟨fun l hl=>(by cases hl),fun l hl=>(by cases hl)⟩
section
variable (ok:TbOk b) (h0:b.wrong=0) (hk:k<(jaa b).length) {c:Ce} (hcx:c=(jaa b).getD k default) (hn:n<960)
include ok hk hcx hn
theorem jju:jaa (jat b c (jce n))=jaa b:=setF_cells_same ok (hcx▸jah hk) (figN_dash hn)
theorem put_fig:jbo (jat b c (jce n)) c=jce n:=by
 have hht:jbO b c=true:=hcx▸(cell_at hk).1
 rw [jdU ok hht hht,if_pos rfl]
theorem put_snag:putS b c (jce n)=if jac (jat b c (jce n))=[] then 9 else 0:=by
 have hz:=jaN.2 ok
 have hht:jbO b c=true:=hcx▸(cell_at hk).1
 have hf:jhA b c (jce n)=0:=by
  unfold jhA
  rw [if_neg (fun e=>e hz),if_neg (fun e=>e (hcx▸jah hk)),if_neg (by rw [(fig_parts hn).1];decide)]
 rw [putS,if_neg (fun e=>e hf),jaJ,if_neg (fun e=>e (jaN.2 (put_ok ok hht hn))),if_neg (fun e=>e rfl)]
include h0
theorem put_pos (hv:(n:Int)∈jbl (jbo b c)):jac (jat b c (jce n))≠[]↔(n:Int)∈jck (cdT b) (jac b) k:=by
 have h1:(jac (jat b c (jce n))).length=jcy (jac b) k (n:Int)+jaU (jac b) k:=by subst hcx;exact boats_put ok hk hv (meaS_fig hn) (figN_dash hn)
 have h2:jaU (jac b) k=0:=by
  unfold jac
  rw [h0];exact wrongN_zero (by rw [jaq];exact hk)
 rw [←List.length_pos_iff,h1,h2,mem_canC];exact ⟨fun e=>⟨by rw [can_at hk,←hcx];exact hv,by omega⟩,fun e=>by have:=e.2;omega⟩
theorem js0 (hv:(n:Int)∈jbl (jbo b c)):(jac b=[]∧jac (jat b c (jce n))=[])∨(jac b≠[]∧(n:Int)∉jck (cdT b) (jac b) k∧jac (jat b c (jce n))=[])∨(jac b≠[]∧(n:Int)∈jck (cdT b) (jac b) k∧jac (jat b c (jce n))≠[]):=by
 have hp:=put_pos ok h0 hk hcx hn hv
 by_cases h:jac b=[]
 ·refine .inl ⟨h,Classical.byContradiction fun e=>?_⟩
  have:=(mem_canC.1 (hp.1 e)).2
  rw [h] at this
  exact absurd this (Nat.lt_irrefl 0)
 ·by_cases hc:(n:Int)∈jck (cdT b) (jac b) k
  ·exact .inr (.inr ⟨h,hc,hp.2 hc⟩)
  ·exact .inr (.inl ⟨h,hc,Classical.byContradiction fun e=>hc (hp.1 e)⟩)
theorem put_end (hne:jac (jat b c (jce n))≠[]):jeu (jat b c (jce n)) c=[(n:Int)]∧spW (jat b c (jce n)) c=((n:Int),(n:Int)):=by
 have hht:jbO b c=true:=hcx▸(cell_at hk).1
 have hok:=put_ok ok hht hn
 have hz2:=jaN.2 hok
 have hce:=jju ok hk hcx hn
 have hk2:k<(jaa (jat b c (jce n))).length:=by rw [hce];exact hk
 have hc2:(jaa (jat b c (jce n))).getD k default=c:=by rw [hce];exact hcx.symm
 have hw2:jaU (jac (jat b c (jce n))) k=0:=by
  unfold jac
  rw [setF_wrong,h0];exact wrongN_zero (by rw [jaq];exact hk2)
 have hs:=span_self hok hz2 hk2 hne hw2
 have hl:=canL_at hz2 hk2 hne
 rw [hc2] at hs hl
 have hcan:jck (cdT (jat b c (jce n))) (jac (jat b c (jce n))) k=[(n:Int)]:=by
  have h1:=hs.1
  have e:(dA (cdT (jat b c (jce n))) k).can=[(n:Int)]:=by rw [can_at hk2,hc2,put_fig ok hk hcx hn,meaS_fig hn]
  unfold jck at h1⊢
  rw [e] at h1⊢
  rw [List.filter_cons] at h1⊢
  split at h1
  ·rename_i h3
   rw [if_pos h3];rfl
  ·simp at h1
 rw [hcan] at hs hl
 exact ⟨hl,hs.2⟩
end
theorem f12_t (h:Hp) {a:Tb} (rds:RdS B h 1 (.slice ps ns ks) ns (jaC a.sts)) (hcs:ns≤ks) (rdw:RdLn B h (.slice pw nw cw) nw a.waters) (rdb:RdLn B h (.slice pb nb cb) nb a.butts) (y x1:Nat) (hy:y≤255) (hx1:x1≤65535):(Md.starC Tryz.prog B).R (jie Tryz.prog B fun v _=>v= .bool true) (G (Frame.enter Tryz.prog 12 #[tbV a ps ns ks pw nw cw pb nb cb,.int .u8 (y:Int),.int .u16 (x1:Int)] .normal) []) h:=by
 refine jeb Tryz.func12 rfl rfl (l:=[tbV a ps ns ks pw nw cw pb nb cb,.int .u8 (y:Int),.int .u16 (x1:Int),undef,undef,undef,undef,undef,undef,undef,undef,undef,undef,undef,undef,undef,undef,undef,undef,undef,undef,undef,undef,undef,undef,undef,undef,undef,undef,undef,undef,undef,undef,undef,undef,undef,undef,undef,undef,undef,undef,undef,undef,undef,undef,undef,undef,undef,undef,undef,undef,undef,undef,undef,undef,undef,undef,undef,undef,undef,undef,undef,undef,undef,undef,undef,undef,undef,undef,undef,undef,undef,undef,undef,undef,undef,undef,undef,undef,undef,undef,undef,undef,undef,undef,undef,undef,undef,undef,undef,undef,undef,undef,undef,undef,undef,undef,undef,undef,undef,undef,undef,undef,undef,undef,undef,undef,undef,undef,undef,undef,undef,undef,undef,undef,undef,undef,undef,undef,undef,undef,undef,undef,undef,undef,undef,undef,undef,undef,undef,undef,undef,undef,undef,undef,undef,undef,undef,undef,undef,undef,undef,undef,undef,undef,undef,undef,undef,undef,undef,undef,undef,undef,undef]) rfl ?_;refine Z2 ?_
 refine jaX rfl zq (fun q1=>jau (jae ?_));refine Z5 ?_;refine D9 ?_;refine Z3 ?_
 obtain ⟨b,hbx⟩: ∃b:Tb,b={a with wrong:=0}:=⟨_,rfl⟩
 have h0:b.wrong=0:=by rw [hbx]
 replace rds:RdS B h 1 (.slice ps ns ks) ns (jaC b.sts):=by rw [hbx];exact rds
 replace rdw:RdLn B h (.slice pw nw cw) nw b.waters:=by rw [hbx];exact rdw
 replace rdb:RdLn B h (.slice pb nb cb) nb b.butts:=by rw [hbx];exact rdb
 rw [show ([Value.int .i64 0,.slice ps ns ks,.slice pw nw cw,.slice pb nb cb]:List Value)=tbL b ps ns ks pw nw cw pb nb cb by rw [hbx]];clear hbx
 refine Z2 ?_;refine jag (Post:=fun v=>IsB _ v) rfl zq zK (fun H' hH=>f25_c _ H' (rds.keeps (sq hH)) hcs (rdw.keeps (sq hH)) (rdb.keeps (sq hH))) ?_
 rintro v (⟨hc,rfl⟩|⟨hc,rfl⟩)
 ·refine Zs ?_
  have hfit:=hc
  have ra:=jjs rds hcs rdw rdb hfit.1
  have hz:=hfit.2
  have ok:=jaN.1 hz
  have rd:=ra.rd ok
  have h12:=jbH ok
  have hbl:=jbC ok
  refine Z3 ?_;refine jaD rfl rfl zK (Post:=fun w new=>OwnS 37 3 w (jaa b).length (jaC (jaa b)) new) (fun H' hH=>f26_c _ H' (rd.keeps (sq hH))) ?_
  rintro w n27 o27;refine jaH (jae ?_);obtain ⟨p27,c27,rfl,hc27,r27⟩:=jav (B:=B) o27
  refine Zs ?_
  refine jaS rfl rfl (fun hc=>?_) (fun hc=>?_)
  ·refine Z5 ?_;refine ja7 rfl zq zK (f20_c _) ?_
   rintro v h' ⟨nF,rfl,rfl⟩;refine Z4 ?_;refine jbw rfl Tryz.func12 zK rfl ?_
   rfl
  ·refine Z7 ?_;refine jaD rfl zq zK (Post:=fun w new=>OwnS 37 3 w (jaa b).length (jaC (jaa b)) new) (fun H' hH=>f26_c _ H' (rd.keeps (sq hH))) ?_
   rintro w n33 o33;refine jaH (jae ?_);obtain ⟨p33,c33,rfl,hc33,r33⟩:=jav (B:=B) o33
   refine Z6 ?_;refine jbg rfl zq zK (n':=(y:Int)) zL ?_;refine Z2 ?_;refine jcp rfl zq zO ?_
   obtain ⟨k,hkx⟩: ∃k,k=y%(jaa b).length:=⟨_,rfl⟩
   rw [←hkx];have hk:k<(jaa b).length:=hkx▸Nat.mod_lt _ zO
   obtain ⟨b33,o33_,rfl⟩:=r33.ptr zO
   refine D12 ?_;refine jc5 (vs:=[.bool ((jaa b).getD k default).butt,.int .i64 ((jaa b).getD k default).line,.int .i64 ((jaa b).getD k default).st]) rfl zq rfl (r33.eat k zO zO) ?_
   obtain ⟨c,hcx⟩: ∃c,c=(jaa b).getD k default:=⟨_,rfl⟩
   rw [←hcx];have hht:jbO b c=true:=hcx▸(cell_at hk).1
   refine jax rfl zq (fun qc=>jau (jae ?_));refine D6 ?_;refine Z5 ?_;refine jag (Post:=fun v=>v= .tuple [str (jbo b c),.bool true].toArray) rfl zq zK (fun H' hH=>by have:=f27_c (Md.starC Tryz.prog B) H' (rd.keeps (sq hH)) (bt:=c.butt) (li:=c.line) (st:=c.st);rw [show jbO b ⟨c.butt,c.line,c.st⟩=true from hht,if_pos rfl] at this;exact this) ?_
   rintro v rfl;refine Z10 ?_;refine jaD rfl zq zK (Post:=fun w new=>OwnS 3 1 w (jbl (jbo b c)).length (jaI (jbl (jbo b c))) new) (fun H' hH=>f32_c _ H' (jbo b c) (fig_sm ra.sm ok hht)) ?_
   rintro w nL oL;refine jaH (jae ?_);obtain ⟨pL,cL,rfl,hcL,rL⟩:=jav (B:=B) oL
   have h960:=jiK (jbo b c)
   have hmp:=meaS_pos (fig_ok ok (show c∈jaa b from hcx▸jah hk))
   refine Z6 ?_;refine jbg rfl zq zK (n':=(x1:Int)) zL ?_;refine Z2 ?_;refine jcp rfl zq zO ?_
   obtain ⟨j,hjx⟩: ∃j,j=x1%(jbl (jbo b c)).length:=⟨_,rfl⟩
   rw [←hjx];have hj:j<(jbl (jbo b c)).length:=hjx▸Nat.mod_lt _ hmp
   obtain ⟨vn,hvn,hvj,hvm⟩:=meaS_nat hj
   obtain ⟨bL,oL_,rfl⟩:=rL.ptr zO
   refine D12 ?_;refine jaW rfl zq (rL.iat j zO zO) ?_
   rw [hvj];refine Z5 ?_;refine jag (Post:=fun v=>v= .tuple [str (jce vn),.int .i64 0].toArray) rfl zq zK (fun H' hH=>by have:=f59_c (Md.starC Tryz.prog B) H' (vn:Int);rw [if_pos zO,if_pos zO,Int.toNat_natCast] at this;exact this) ?_
   rintro v rfl;refine Z11 ?_;refine ja5 rfl zq rfl ?_;refine Z3 ?_;refine jag (Post:=fun v=>v=str (jce vn)) rfl rfl zK (fun H' hH=>f34_c _ H' vn hvn) ?_
   rintro v rfl;refine Zs ?_;refine jdL rfl rfl rfl ?_;refine Z5 ?_
   have hps:=put_snag ok hk hcx hvn
   rcases js0 ok h0 hk hcx hvn hvm with ⟨hne,hbo⟩|⟨hne,hin,hbo⟩|⟨hne,hin,hbo⟩
   rw [if_pos hbo] at hps
   have ho:jaJ b (jdv b c)=9:=by rw [hcx];exact open_no hz hk hne
   have hcn:jeu b c=[]:=by rw [hcx];exact canL_no hz hk hne
   refine Z3 ?_;refine jaD rfl zq zK (Post:=fun v nw=> ∃w,v= .tuple [w,.int .i64 9].toArray∧RdI B nw w []) (fun H' hH=>by have:=f29_c (Md.starC Tryz.prog B) H' (ra.keeps (sq hH)) c;rw [ho,hcn] at this;exact this) ?_
   rotate_left
   rw [if_pos hbo] at hps
   have ho:jaJ b (jdv b c)=0:=by rw [hcx];exact open_at hz hk hne
   have hcn:jeu b c=jck (cdT b) (jac b) k:=by rw [hcx];exact canL_at hz hk hne
   refine Z3 ?_;refine jaD rfl zq zK (Post:=fun v nw=> ∃w,v= .tuple [w,.int .i64 0].toArray∧RdI B nw w (jck (cdT b) (jac b) k)) (fun H' hH=>by have:=f29_c (Md.starC Tryz.prog B) H' (ra.keeps (sq hH)) c;rw [ho,hcn] at this;exact this) ?_
   rotate_left
   rw [if_neg hbo] at hps
   have ho:jaJ b (jdv b c)=0:=by rw [hcx];exact open_at hz hk hne
   have hcn:jeu b c=jck (cdT b) (jac b) k:=by rw [hcx];exact canL_at hz hk hne
   refine Z3 ?_;refine jaD rfl zq zK (Post:=fun v nw=> ∃w,v= .tuple [w,.int .i64 0].toArray∧RdI B nw w (jck (cdT b) (jac b) k)) (fun H' hH=>by have:=f29_c (Md.starC Tryz.prog B) H' (ra.keeps (sq hH)) c;rw [ho,hcn] at this;exact this) ?_
   all_goals
    rintro v n56 ⟨w,rfl,pcn,ccn,rfl,rcn⟩;refine jaH (jae ?_);refine Z11 ?_
   ·refine jaD rfl zq zK (Post:=fun v nw=>jrX B 0 (jat b c (jce vn)) nw v) (fun H' hH=>by have:=f60_c (Md.starC Tryz.prog B) H' (ra.keeps (sq hH)) c (jce vn) (Nat.le_trans (figN_len hvn) zA);rw [hps] at this;exact this) ?_;rintro v nO ⟨x0,z1,z2,w1,z3,z4,w2,z5,z6,w3,rfl,hz4,hz5⟩;refine jaH (jae ?_);obtain ⟨psO,nsO,ksO,pwO,nwO,cwO,pbO,nbO,cbO,eO,raO⟩:=hz5 rfl
    rw [eO];have hokO:=put_ok ok hht hvn
    have hzO:=jaN.2 hokO
    obtain rfl:ns=nsO:=by have h1:=raO.s.elen zA;have h2:=ra.s.elen zA;rw [(jbF b c (jce vn)).1] at h1;omega
    refine Z3 ?_
    refine jax rfl zq (fun qo=>jau (jae ?_));refine D6 ?_;refine Z6 ?_;refine ja5 rfl zq rfl ?_;refine Z7 ?_;refine jbn rfl zq rfl ?_;refine Z2 ?_;refine jag (Post:=fun v=>IsB _ v) rfl zq zK (fun H' hH=>f35_c _ H' _ (rcn.keeps (sq hH)) (by have:=jde (D:=cdT b) (L:=jac b) (k:=k);rw [show (dA (cdT b) k).can=jbl (jbo b c) by subst hcx;exact can_at hk] at this;omega)) ?_
    rintro v (⟨hc,rfl⟩|⟨hc,rfl⟩)
    ·refine Zs ?_;refine k_neqBF rfl zq zK rfl ?_;refine Z7 ?_;refine ja5 rfl zq rfl ?_;refine Z5 ?_;refine jar [Zp 3,Zr 0,Zr 1,Zr 2,Zk 4,Zk 5,Zp 6] zK zK (List.Sublist.refl _) ?_;refine Z4 ?_;refine jaD rfl zq zK (Post:=fun v nz=> ∃pw' cw' pb' cb',v=tbV (jat b c (jce vn)) ps ns ks pw' nw cw' pb' nb cb'∧RdLn B nz (.slice pw' nw cw') nw (jat b c (jce vn)).waters∧RdLn B nz (.slice pb' nb cb') nb (jat b c (jce vn)).butts) (fun H' hH=>f33_r _ H' (ra.keeps (sq hH)) ok hht (jce vn) (Nat.le_trans (figN_len hvn) zA)) ?_
     rintro v nzW ⟨pwW,cwW,pbW,cbW,rfl,ewW,ebW⟩;refine jaH (jae ?_);obtain rfl:nw=nwO:=by have h1:=jaV raO.w;have h2:=jaV ewW;omega
     obtain rfl:nb=nbO:=by have h1:=jaV raO.u;have h2:=jaV ebW;omega
     refine jag (Post:=fun v=>v= .bool true) rfl zq zK (fun H' hH=>f54_t _ H' (raO.keeps (sq hH)) (raw_set ra ra.sm (Nat.le_trans (figN_len hvn) zA) ewW ebW (sq hH) (sq hH)) ⟨fun l hl=>by have:=((raO.rd hokO).wf l hl).1;have:=rd.n3;omega,fun l hl=>by have:=((raO.rd hokO).bf l hl).1;have:=rd.n3;omega⟩) ?_;rintro v rfl;refine Z6 ?_
     have hhtO:jbO (jat b c (jce vn)) c=true:=by rw [jpE];exact hht
     have hkO:k<(jaa (jat b c (jce vn))).length:=by rw [jju ok hk hcx hvn];exact hk
     have hcO:(jaa (jat b c (jce vn))).getD k default=c:=by rw [jju ok hk hcx hvn];exact hcx.symm
     obtain ⟨hcnO,hspO⟩:=put_end ok h0 hk hcx hvn hbo
     have hoO:jaJ (jat b c (jce vn)) (jdv (jat b c (jce vn)) c)=0:=by have:=open_at hzO hkO hbo;rw [hcO] at this;exact this
     have hpc:=place_in hokO hhtO
     have hocO:=openP_in hzO hpc.1 hpc.2 hbo
     refine Z3 ?_;refine jaD rfl zq zK (Post:=fun v nw=> ∃w,v= .tuple [w,.int .i64 0].toArray∧RdI B nw w [(vn:Int)]) (fun H' hH=>by have:=f29_c (Md.starC Tryz.prog B) H' (raO.keeps (sq hH)) c;rw [hoO,hcnO] at this;exact this) ?_
     rintro v nQ ⟨wQ,rfl,pQ,cQ,rfl,rQ⟩;refine jaH (jae ?_);refine Z10 ?_;refine jag (Post:=fun v=>v= .tuple [.agg [.int .i64 (vn:Int),.int .i64 (vn:Int)].toArray,.int .i64 0].toArray) rfl zq zK (fun H' hH=>by have:=f38_c (Md.starC Tryz.prog B) H' (raO.keeps (sq hH)) hhtO;rw [hocO,hspO] at this;exact this) ?_
     rintro v rfl;refine Z4 ?_
     refine jax rfl zq (fun qx=>jau (jae ?_));refine jhx ?_;refine jaK [Zf 0,Zf 1,Zf 2,Zf 3,Zf 4,Zf 5,Zf 6,Zf 7,Zf 8,Zf 9,Zf 10,Zf 11,Zf 12,Zf 13,Zf 14,Zf 15,Zf 16,Zf 17,Zf 18,Zf 19,Zf 20,Zf 21,Zf 22] zK zK ?_;refine Zs ?_;refine jbn rfl zq rfl ?_;refine Z2 ?_;refine jbn rfl rfl rfl ?_;refine Z4 ?_
     refine jdk kdq rfl rfl zA zA rfl (fun q9=>jau (jae ?_));have rI:RdS B [⟨true,q9,.cells [.int .i64 (vn:Int)].toArray 3 (0,0)⟩] 1 (.slice (some ⟨q9,0,none⟩) 1 1) 1 (jaI [(vn:Int)]):=(OwnS.full (t:=3) (q:=q9) (cs:=jaI [(vn:Int)]) rfl).rd (List.Sublist.refl _)
     refine jag (Post:=fun v=>IsB _ v) rfl rfl zK (fun H' hH=>f61_c _ H' (rQ.keeps (sq hH)) (by show 1≤1000000;decide) (rI.keeps (sq hH))) ?_;rintro v (⟨hc,rfl⟩|⟨hc,rfl⟩)
     ·refine Z6 ?_;refine jnL rfl rfl ?_;refine jjK rfl rfl zK ⟨rfl,rfl⟩ ?_;refine Z2 ?_;refine ja7 rfl rfl zK (f20_c _) ?_
      rintro v h' ⟨nF,rfl,rfl⟩;refine Z5 ?_;refine jbw rfl Tryz.func12 zK rfl ?_
      rfl
     ·refine Zs ?_
      exact absurd rfl hc
    ·refine Zs ?_
     exact absurd hin hc
   ·refine jaD rfl zq zK (Post:=fun v nw=>jrX B 9 (jat b c (jce vn)) nw v) (fun H' hH=>by have:=f60_c (Md.starC Tryz.prog B) H' (ra.keeps (sq hH)) c (jce vn) (Nat.le_trans (figN_len hvn) zA);rw [hps] at this;exact this) ?_;rintro v nO ⟨x0,z1,z2,w1,z3,z4,w2,z5,z6,w3,rfl,hz4,hz5⟩;refine jaH (jae ?_);rw [hz4 zA];refine Z3 ?_
    refine jax rfl zq (fun qo=>jau (jae ?_));refine D6 ?_;refine Z6 ?_;refine k_neqT rfl zq zA ?_;refine Z5 ?_;refine jbn rfl zq rfl ?_;refine Z2 ?_;refine jbn rfl rfl rfl ?_;refine Z2 ?_;refine ja7 rfl rfl zK (f20_c _) ?_
    rintro v h' ⟨nF,rfl,rfl⟩;refine Z5 ?_;refine jbw rfl Tryz.func12 zK rfl ?_
    rfl
   ·refine jaD rfl zq zK (Post:=fun v nw=>jrX B 9 (jat b c (jce vn)) nw v) (fun H' hH=>by have:=f60_c (Md.starC Tryz.prog B) H' (ra.keeps (sq hH)) c (jce vn) (Nat.le_trans (figN_len hvn) zA);rw [hps] at this;exact this) ?_;rintro v nO ⟨x0,z1,z2,w1,z3,z4,w2,z5,z6,w3,rfl,hz4,hz5⟩;refine jaH (jae ?_);rw [hz4 zA];refine Z3 ?_
    refine jax rfl zq (fun qo=>jau (jae ?_));refine D6 ?_;refine Z6 ?_;refine ja5 rfl zq rfl ?_;refine Z7 ?_;refine jfr rfl zq zA ?_;refine Z2 ?_;refine jag (Post:=fun v=>IsB _ v) rfl zq zK (fun H' hH=>f35_c _ H' _ (rcn.keeps (sq hH)) (by have:=jde (D:=cdT b) (L:=jac b) (k:=k);rw [show (dA (cdT b) k).can=jbl (jbo b c) by subst hcx;exact can_at hk] at this;omega)) ?_
    rintro v (⟨hc,rfl⟩|⟨hc,rfl⟩)
    ·refine Zs ?_
     exact absurd hc hin
    ·refine Zs ?_;refine k_neqBF rfl zq zK rfl ?_;refine Z7 ?_;refine k_neqT rfl zq zA ?_;refine Z5 ?_;refine jbn rfl zq rfl ?_;refine Z2 ?_;refine jnL rfl rfl ?_;refine jag (Post:=fun v=>v= .bool true) rfl rfl zK (fun H' hH=>zero_same _ H') ?_
     rintro v rfl;refine Z3 ?_;refine ja7 rfl rfl zK (f20_c _) ?_
     rintro v h' ⟨nF,rfl,rfl⟩;refine Z5 ?_;refine jbw rfl Tryz.func12 zK rfl ?_
     rfl
 ·refine Z12 ?_;refine ja7 rfl zq zK (f20_c _) ?_
  rintro v h' ⟨nF,rfl,rfl⟩;refine Z4 ?_;refine jbw rfl Tryz.func12 zK rfl ?_
  rfl
end
end Go.Proofs
