/- A part of the proof of a law: my own separation logic over the machine, and walks of the program. Condition of each theorem: as its statement says. -/
import Derived.Test.YtgplnpdblmcdoaaGreatDoorWC2
import Derived.Conc.TokenTrace
import Derived.Conc.CrowdSel
import Derived.Conc.QuitsD
import Derived.Conc.Pipeline3
import Derived.Conc.JoinTrace
import Derived.Conc.Holds
set_option linter.all false
namespace Go.Lo
open Go.Conc (G)
section
variable {P:Program} {B:Array Obj} {h:Hp}
theorem jiK {t t2 e k by' ty t':Nat} {b:Nat} {pre junk:List Value} {n cap m:Nat} {x:Value} {cs ys:List Value} {F:Hp} {Q:Value→Hp→Prop} [SliceT P t e k] [SliceT P t2 e k] [ElemT P e k by']
    (hw:Weak B h (F++[⟨true,b,.cells (pre++cs++junk).toArray t' (0,0)⟩])) (hl:cs.length=n*k) (hc:cs.length+junk.length=cap*k) (hn:n≤cap)
    (rx:RdS B h k x m ys) (h1: ∀u∈ys,u.oneCell'=true) (hb:2*(n+m)*by'≤2^48) (hmax:n+m≤2^62)
    (q: ∀v' junk' ex,junk'.length=junk.length→RdS B (⟨true,b,.cells (pre++cs++junk').toArray t' (0,0)⟩::ex) k v' (n+m) (cs++ys)→Q v' (F++(⟨true,b,.cells (pre++cs++junk').toArray t' (0,0)⟩::ex))):
    Tri P B (Builtin.append_ #[t,t2] ty #[.slice (some ⟨b,pre.length,none⟩) n cap,x]) h Q:=by
  obtain ⟨hu,hs⟩:=jbj (P:=P) (B:=B) (h:=h) (t:=t)
  obtain ⟨hu2,_⟩:=jbj (P:=P) (B:=B) (h:=h) (t:=t2)
  obtain ⟨i,z,hi,hi1,hi2,hi3,hz⟩:=jgb (P:=P) (e:=e)
  have hx:=jch (P:=P) rx
  obtain ⟨p,c,rfl,hyl,_⟩:=id rx
  have hinfo:Reads P B (typeInfo e) h i:=(jbu hi).reads
  refine Tri.weakR (Q:=fun a h'=> ∃h'',Weak B h' h''∧Q a h'') ?_ (fun a h' x=>x)
  unfold Builtin.append_
  simp only [List.getElem?_toArray,List.getElem?_cons_zero,List.getElem?_cons_succ]
  refine Tri.bind ((jal hu).reads.tri ?_)
  refine Tri.bind (hs.tri ?_)
  refine Tri.bind ((jal hu2).reads.tri ?_)
  refine Tri.bind (Tri.pure ?_)
  simp only [Bool.false_eq_true,if_false]
  refine Tri.bind (Tri.pure (a:=m) ?_)
  simp only [Bool.not_false,if_true]
  split
  · rename_i hle
    refine Tri.bind (hx.tri ?_)
    refine Tri.weak hw ?_
    refine Tri.bind ?_
    rw [Addr.add_none];have hmul:(n+m)*k≤cap*k:=Nat.mul_le_mul_right _ hle
    have hadd:(n+m)*k=n*k+m*k:=Nat.add_mul ..
    refine jc3 (h1:=F) (h2:=[]) ys 0 _ (by simp;omega) h1 fun c' hc'=>Tri.pure ⟨_,Weak.refl _ _,?_⟩
    have e1:c'=(pre++cs++(ys++junk.drop ys.length)).toArray:=by
      apply Array.ext'
      rw [hc'];simp only [Nat.add_zero,List.toList_toArray]
      rw [←hl,←List.length_append,List.take_left,List.drop_append];simp
    rw [e1];refine q _ _ [] (by simp;omega) ⟨_,cap,rfl,by simp;omega,.inr ⟨b,pre.length,rfl,fun j hj=>?_⟩⟩
    refine Rd.held List.mem_cons_self ?_
    rw [List.getElem?_toArray,List.append_assoc,List.getElem?_append_right (by omega),Nat.add_sub_cancel_left,←List.append_assoc,List.getElem?_append_left hj,List.getD_eq_getElem?_getD,List.getElem?_eq_getElem hj];rfl
  · rename_i hgt
    refine Tri.bind (hinfo.tri ?_)
    have hM:IntKind.i64.max=9223372036854775807:=by decide
    rw [if_neg (by rintro ⟨h3,_⟩;rw [hM] at h3;omega)];refine Tri.bind (hinfo.tri ?_)
    have hnc:Builtin.nextslicecap (n+m) cap≤2*(n+m):=ji2 (by omega)
    rw [if_neg (by rw [hi2];have:=Nat.mul_le_mul_right by' hnc;omega)];refine Tri.bind (jdI rfl fun t0=>?_)
    refine Tri.bind (hinfo.tri ?_)
    refine Tri.bind (reads_room.tri ?_)
    have hro:Reads P B (Builtin.firstCells k n (.slice (some ⟨b,pre.length,none⟩) n cap)) h cs.toArray:=Reads.weak hw (jch ⟨_,cap,rfl,hl,.inr ⟨b,pre.length,rfl,fun j hj=>by
      refine Rd.held (List.mem_append_right _ List.mem_cons_self) ?_
      rw [List.getElem?_toArray,List.append_assoc,List.getElem?_append_right (by omega),Nat.add_sub_cancel_left,List.getElem?_append_left hj,List.getD_eq_getElem?_getD,List.getElem?_eq_getElem hj];rfl⟩⟩)
    refine Tri.bind (hro.tri ?_)
    refine Tri.bind (hx.tri ?_)
    have hzv:Reads P B (zeroValue e) h z:=by
      refine Reads.bind (jbu hi).reads ?_
      simp only [hi3]
      exact Reads.pure _
    refine Tri.bind (hzv.tri ?_)
    refine Tri.bind (jeU fun b2 _=>Tri.pure ⟨F++(⟨true,b,.cells (pre++cs++junk).toArray t' (0,0)⟩::[_]),(by
      have:=Weak.snoc hw
      simpa using this _),?_⟩)
    refine q _ _ [_] rfl ?_
    have e1:(cs++ys).toArray++Builtin.zeroCells z.cells (Question.cut (.appendCap (n+m) cap e) t0-(n+m))=(cs++ys++(Builtin.zeroCells z.cells (Question.cut (.appendCap (n+m) cap e) t0-(n+m))).toList).toArray:=by
      apply Array.ext';simp
    rw [e1];refine ⟨_,_,rfl,by simp [hl,hyl,Nat.add_mul],.inr ⟨b2,0,rfl,fun j hj=>?_⟩⟩
    refine Rd.held (List.mem_cons_of_mem _ List.mem_cons_self) ?_
    rw [Nat.zero_add,List.getElem?_toArray,List.getElem?_append_left hj,List.getD_eq_getElem?_getD,List.getElem?_eq_getElem hj];rfl
end
end Go.Lo
namespace Go.Lo
open Go.Conc (G)
section
variable {P:Program} {B:Array Obj} {m:Md P B} {ops:Array Oper} {l l':List Value} {S h h' H:Hp} {C:List Value→Hp→Prop} {i:Nat} {kd:Kd} {r:List (Nat×Kd)}
  {d:Option Tmp} {ty:TypeId} {pos:String} {af:Array Edge} {g:Option (Nat×Bool)}
theorem k_appP {t t2 t3 t' e k by' q c b o:Nat} {x y:Operand} {n cap mm:Nat} {rw:Bool} {f:Nat×Nat} {pre junk cs ys:List Value} {F:Hp} (ho:ops[i]?=some ⟨d,.call ⟨.builtin .append,[x,y].toArray,#[t,t2]⟩,ty,pos,af,g⟩) (hg:Wt ops l g)
    [ex:OpV l x (.slice (some ⟨b,o,none⟩) n cap)] [ey:OpV l y (.slice (some ⟨q,0,none⟩) mm c)] [SliceT P t e k] [SliceT P t2 e k] [ElemT P e k by'] [hh:Has h q rw (.cells ys.toArray t3 f)] [on:Ones ys] (hy:ys.length=mm*k) (hpre:pre.length=o)
    (hw:Weak B h (F++[⟨true,b,.cells (pre++cs++junk).toArray t' (0,0)⟩])) (hl:cs.length=n*k) (hc:cs.length+junk.length=cap*k) (hn:n≤cap) (hk:kd= .free∨(kd= .keep∧S.Sublist F)) (hb:2*(n+mm)*by'≤2^48) (hmax:n+mm≤2^62)
    (cc: ∀v' junk' exs,junk'.length=junk.length→RdS B (⟨true,b,.cells (pre++cs++junk').toArray t' (0,0)⟩::exs) k v' (n+mm) (cs++ys)→RegK m S ops r (put l d v') (F++(⟨true,b,.cells (pre++cs++junk').toArray t' (0,0)⟩::exs)) C):RegK m S ops ((i,kd)::r) l h C:=by
  subst hpre
  refine RegK.ke (hk.symm.imp (·.1) id) ho hg ?_
  rw [jbm (vs:=[.slice (some ⟨b,pre.length,none⟩) n cap,.slice (some ⟨q,0,none⟩) mm c]) (by simp [ex.eq,ey.eq])];exact Tri.bind (jiK hw hl hc hn (jdj hy) on.one hb hmax fun v' junk' exs hj o'=>Tri.pure ⟨hk.imp id fun x=>x.2.trans (List.sublist_append_left _ _),cc v' junk' exs hj o'⟩)
end
end Go.Lo
namespace Go.Lo
open Go.Conc (G)
section
variable {P:Program} {B:Array Obj} {h:Hp}
theorem jiL {t t2 e k by' ty:Nat} {pp:Option Addr} {m:Nat} {x:Value} {ys:List Value} {Q:Value→Hp→Prop} [SliceT P t e k] [SliceT P t2 e k] [ElemT P e k by']
    (hm:0<m)
    (rx:RdS B h k x m ys) (h1: ∀u∈ys,u.oneCell'=true) (hb:2*(0+m)*by'≤2^48) (hmax:0+m≤2^62)
    (q: ∀v' c,RdS B [c] k v' (0+m) ys→Q v' (h++[c])):
    Tri P B (Builtin.append_ #[t,t2] ty #[.slice pp 0 0,x]) h Q:=by
  obtain ⟨hu,hs⟩:=jbj (P:=P) (B:=B) (h:=h) (t:=t)
  obtain ⟨hu2,_⟩:=jbj (P:=P) (B:=B) (h:=h) (t:=t2)
  obtain ⟨i,z,hi,hi1,hi2,hi3,hz⟩:=jgb (P:=P) (e:=e)
  have hx:=jch (P:=P) rx
  obtain ⟨p,c,rfl,hyl,_⟩:=id rx
  have hinfo:Reads P B (typeInfo e) h i:=(jbu hi).reads
  refine Tri.weakR (Q:=fun a h'=> ∃h'',Weak B h' h''∧Q a h'') ?_ (fun a h' x=>x)
  unfold Builtin.append_
  simp only [List.getElem?_toArray,List.getElem?_cons_zero,List.getElem?_cons_succ]
  refine Tri.bind ((jal hu).reads.tri ?_)
  refine Tri.bind (hs.tri ?_)
  refine Tri.bind ((jal hu2).reads.tri ?_)
  refine Tri.bind (Tri.pure ?_)
  simp only [Bool.false_eq_true,if_false]
  refine Tri.bind (Tri.pure (a:=m) ?_)
  simp only [Bool.not_false,if_true]
  split
  · omega
  · rename_i hgt
    refine Tri.bind (hinfo.tri ?_)
    have hM:IntKind.i64.max=9223372036854775807:=by decide
    rw [if_neg (by rintro ⟨h3,_⟩;rw [hM] at h3;omega)];refine Tri.bind (hinfo.tri ?_)
    have hnc:Builtin.nextslicecap (0+m) 0≤2*(0+m):=ji2 (by omega)
    rw [if_neg (by rw [hi2];have:=Nat.mul_le_mul_right by' hnc;omega)];refine Tri.bind (jdI rfl fun t0=>?_)
    refine Tri.bind (hinfo.tri ?_)
    refine Tri.bind (reads_room.tri ?_)
    have hro:Reads P B (Builtin.firstCells k 0 (.slice pp 0 0)) h #[]:=by
      cases pp with
      |none=>exact Reads.pure _
      |some ad=>
        simp only [Builtin.firstCells,loadCells,Nat.zero_mul]
        exact Reads.pure _
    refine Tri.bind (hro.tri ?_)
    refine Tri.bind (hx.tri ?_)
    have hzv:Reads P B (zeroValue e) h z:=by
      refine Reads.bind (jbu hi).reads ?_
      simp only [hi3]
      exact Reads.pure _
    refine Tri.bind (hzv.tri ?_)
    refine Tri.bind (jeU fun b2 _=>Tri.pure ⟨h++[_],Weak.snoc (Weak.refl _ _) _,?_⟩)
    refine q _ _ ?_
    have e1: #[]++ys.toArray++Builtin.zeroCells z.cells (Question.cut (.appendCap (0+m) 0 e) t0-(0+m))=(ys++(Builtin.zeroCells z.cells (Question.cut (.appendCap (0+m) 0 e) t0-(0+m))).toList).toArray:=by
      apply Array.ext';simp
    rw [e1];refine ⟨_,_,rfl,by simp [hyl],.inr ⟨b2,0,rfl,fun j hj=>?_⟩⟩
    refine Rd.held List.mem_cons_self ?_
    rw [List.getElem?_toArray,show 0+j=j from Nat.zero_add j,List.getElem?_append_left hj,List.getD_eq_getElem?_getD,List.getElem?_eq_getElem hj];rfl
end
end Go.Lo
namespace Go.Lo
open Go.Conc (G)
section
variable {P:Program} {B:Array Obj} {m:Md P B} {ops:Array Oper} {l l':List Value} {S h h' H:Hp} {C:List Value→Hp→Prop} {i:Nat} {kd:Kd} {r:List (Nat×Kd)}
  {d:Option Tmp} {ty:TypeId} {pos:String} {af:Array Edge} {g:Option (Nat×Bool)}
theorem k_app0 {t t2 t3 e k by' q c:Nat} {x y:Operand} {mm:Nat} {rw:Bool} {f:Nat×Nat} {pp:Option Addr} {ys:List Value} (ho:ops[i]?=some ⟨d,.call ⟨.builtin .append,[x,y].toArray,#[t,t2]⟩,ty,pos,af,g⟩) (hg:Wt ops l g)
    [ex:OpV l x (.slice pp 0 0)] [ey:OpV l y (.slice (some ⟨q,0,none⟩) mm c)] [SliceT P t e k] [SliceT P t2 e k] [ElemT P e k by'] [hh:Has h q rw (.cells ys.toArray t3 f)] [on:Ones ys] (hy:ys.length=mm*k) (hm:0<mm)
    (hk:kd= .free∨(kd= .keep∧S.Sublist h)) (hb:2*(0+mm)*by'≤2^48) (hmax:0+mm≤2^62)
    (cc: ∀v' ch,RdS B [ch] k v' (0+mm) ys→RegK m S ops r (put l d v') (h++[ch]) C):RegK m S ops ((i,kd)::r) l h C:=by
  refine RegK.ke (hk.symm.imp (·.1) id) ho hg ?_
  rw [jbm (vs:=[.slice pp 0 0,.slice (some ⟨q,0,none⟩) mm c]) (by simp [ex.eq,ey.eq])];exact Tri.bind (jiL hm (jdj hy) on.one hb hmax fun v' ch o'=>Tri.pure ⟨hk.imp id fun x=>x.2.trans (List.sublist_append_left _ _),cc v' ch o'⟩)
end
end Go.Lo
namespace Go.Lo
open Go.Conc (G)
def jcL:List (Int×Int)→Nat→List MapEntry
  |[],_=>[]
  |e::r,b=>⟨.int .i64 e.1,.int .i64 e.2,b⟩::jcL r (b+1)
def mapI (l:List (Int×Int)):Obj:= .map (jcL l 0).toArray l.length
def jcx (x:Int):List (Int×Int)→Nat→Option (Nat×Int)
  |[],_=>none
  |e::r,i=>if e.1=x then some (i,e.2) else jcx x r (i+1)
def cntI (l:List (Int×Int)) (x:Int):Int:=match jcx x l 0 with|some (_,n)=>n|none=>0
def jgv (l:List (Int×Int)) (x n:Int):List (Int×Int):=match jcx x l 0 with|some (i,_)=>l.set i (x,n)|none=>l++[(x,n)]
theorem jfj (x:Int): ∀(l:List (Int×Int)) (b i:Nat),Instr.findNow (.int .i64) (.int .i64 x) (jcL l b) i=some ((jcx x l i).map fun p=>(p.1,.int .i64 p.2))
  |[],_,_=>rfl
  |e::r,b,i=>by
    unfold jcL Instr.findNow jcx
    simp only [Instr.sameNow,if_true]
    by_cases hk:e.1=x
    · rw [if_pos hk,show (x==e.1)=true by simp [hk]];rfl
    · rw [if_neg hk,show (x==e.1)=false by simp;exact fun h=>hk h.symm];exact jfj x r (b+1) (i+1)
theorem jeL: ∀(l:List (Int×Int)) (b j:Nat),(jcL l b)[j]?=(l[j]?).map fun e=>⟨.int .i64 e.1,.int .i64 e.2,b+j⟩
  |[],_,_=>by simp [jcL]
  |e::r,b,0=>by simp [jcL]
  |e::r,b,j+1=>by simp [jcL,jeL r (b+1) j,Nat.add_assoc,Nat.add_comm 1 j]
theorem jfl: ∀(l r:List (Int×Int)) (b:Nat),jcL (l++r) b=jcL l b++jcL r (b+l.length)
  |[],r,b=>by simp [jcL]
  |e::l,r,b=>by simp [jcL,jfl l r (b+1),Nat.add_assoc,Nat.add_comm 1]
theorem je3 (x:Int): ∀(l:List (Int×Int)) (i j:Nat) (n:Int),jcx x l i=some (j,n)→ ∃p,j=i+p∧l[p]?=some (x,n)
  |[],_,_,_,h=>by simp [jcx] at h
  |e::r,i,j,n,h=>by
    unfold jcx at h
    split at h
    · rename_i hk
      obtain ⟨rfl,rfl⟩:=Prod.mk.inj (Option.some.inj h)
      obtain ⟨e1,e2⟩:=e
      subst hk
      exact ⟨0,rfl,rfl⟩
    · obtain ⟨p,rfl,hp⟩:=je3 x r (i+1) j n h
      exact ⟨p+1,by omega,by simpa using hp⟩
theorem jmX (l:List (Int×Int)) (j:Nat) (x n v:Int) (hj:l[j]?=some (x,n)):(jcL l 0).toArray.modify j (fun e=>{e with key:= .int .i64 x,val:= .int .i64 v})=(jcL (l.set j (x,v)) 0).toArray:=by
  apply Array.ext_getElem?
  intro i
  rw [Array.getElem?_modify,List.getElem?_toArray,List.getElem?_toArray,jeL,jeL,List.getElem?_set];by_cases e:j=i
  · subst e
    have hlt:=(List.getElem?_eq_some_iff.1 hj).1
    simp [hlt]
  · simp [e]
section
variable {P:Program} {B:Array Obj} {m:Md P B} {ops:Array Oper} {l l':List Value} {S h h' H:Hp} {C:List Value→Hp→Prop} {i:Nat} {kd:Kd} {r:List (Nat×Kd)}
  {d:Option Tmp} {ty:TypeId} {pos:String} {af:Array Edge} {g:Option (Nat×Bool)}
theorem jfN {t:TypeId} (ht:P.underlying t=some (.int .i64)) (x:Int) (l:List (Int×Int)):Reads P B (Instr.findKey t (.int .i64 x) (jcL l 0)) h ((jcx x l 0).map fun p=>(p.1,.int .i64 p.2)):=by
  unfold Instr.findKey
  refine Reads.bind (jal ht).reads ?_
  rw [jfj];exact Reads.pure _
theorem jfe (dd:Nat) {e:Bool} {t:TypeId} (ht:P.underlying t=some (.int .i64)) (n:Int):Reads P B (Instr.checkKey e (dd+1) t (.int .i64 n)) h ():=by
  unfold Instr.checkKey
  refine Reads.bind (jal ht).reads ?_
  exact Reads.pure _
theorem k_mkmapI {t:TypeId} (ho:ops[i]?=some ⟨d,.makeMap t none,ty,pos,af,g⟩) (hw:Wt ops l g) (n: ∀q,RegK m S ops r (put l d (.map (some q))) (h++[⟨true,q,mapI []⟩]) C):RegK m S ops ((i,.free)::r) l h C:=jf0 ho hw n
theorem jij {t k e q:Nat} {x y:Operand} {rw:Bool} {v:Int} {es:List (Int×Int)} (ht:P.underlying t=some (.map k e)) (hk:P.underlying k=some (.int .i64)) (ho:ops[i]?=some ⟨d,.lookup t x y false,ty,pos,af,g⟩) (hw:Wt ops l g) [KHeap kd S h H] [ex:OpV l x (.map (some q))] [ey:OpV l y (.int .i64 v)]
    [hq:Has H q rw (mapI es)] [ZeroT P e (.int .i64 0)] [PutV l d (.int .i64 (cntI es v)) l'] (n:RegK m S ops r l' h C):RegK m S ops ((i,kd)::r) l h C:=
  RegK.rd (v:= .int .i64 (cntI es v)) ho hw (by
    simp only [execOp,ex.eq,ey.eq]
    refine Reads.value ?_
    unfold Instr.lookup
    refine Reads.bind (jal ht).reads ?_
    dsimp only
    refine Reads.bind (jbF hq.mem rfl) ?_
    dsimp only [mapI]
    refine Reads.bind (Reads.pure _) ?_
    refine Reads.bind (jfe 9999 hk v) ?_
    refine Reads.bind (jfN hk v es) ?_
    unfold cntI
    cases jcx v es 0 with
    |none=>exact Reads.bind reads_zero (Reads.pure _)
    |some p=>exact Reads.pure _) n
theorem jmt {t k e q:Nat} {x y z:Operand} {rw:Bool} {v w:Int} {es:List (Int×Int)} (ht:P.underlying t=some (.map k e)) (hk:P.underlying k=some (.int .i64)) (ho:ops[i]?=some ⟨none,.mapUpdate t x y z,ty,pos,af,g⟩) (hw:Wt ops l g) [ex:OpV l x (.map (some q))] [ey:OpV l y (.int .i64 v)] [ez:OpV l z (.int .i64 w)]
    [hq:Has h q rw (mapI es)] [u:Upd h q (mapI (jgv es v w)) h'] (n:RegK m S ops r l h' C):RegK m S ops ((i,.free)::r) l h C:=by
  obtain ⟨o1,h1,h2,e1,e2⟩:=u.ex
  refine RegK.ke (.inr rfl) ho hw ?_
  refine jfC hq.mem ⟨o1,h1,h2,e1,rfl⟩ ?_
  simp only [execOp,ex.eq,ey.eq,ez.eq]
  refine Tri.bind ?_
  unfold Instr.mapUpdate
  refine Tri.bind ((jal ht).reads.tri ?_)
  refine Tri.bind ((jbF (o:=mapI es) (rw:=true) (by simp) rfl).tri ?_)
  refine Tri.bind ((jfe 9999 hk v).tri ?_)
  refine Tri.bind ((jfN hk v es).tri ?_)
  cases hf:jcx v es 0 with
  |none=>
    have e3:jgv es v w=es++[(v,w)]:=by simp only [jgv,hf]
    simp only [Option.map_none]
    refine jbK rfl rfl ?_
    refine Tri.pure ⟨.inl (by trivial),?_⟩
    have:(Obj.map ((jcL es 0).toArray.push {key:= .int .i64 v,val:= .int .i64 w,born:=es.length}) (es.length+1))=mapI (jgv es v w):=by
      rw [e3,mapI,jfl];simp [jcL]
    show RegK m S ops r _ (h1++⟨true,q,Obj.map ((jcL es 0).toArray.push {key:= .int .i64 v,val:= .int .i64 w,born:=es.length}) (es.length+1)⟩::h2) C
    rw [this,←e2];exact n
  |some p=>
    obtain ⟨p,c⟩:=p
    obtain ⟨p',hp,hget⟩:=je3 v es 0 p c hf
    rw [Nat.zero_add] at hp
    subst hp
    have e3:jgv es v w=es.set p (v,w):=by simp only [jgv,hf]
    have hold:(((jcL es 0).toArray[p]?).map (·.key)).getD (.int .i64 v)= .int .i64 v:=by
      rw [List.getElem?_toArray,jeL,hget];rfl
    simp only [Option.map_some]
    refine Tri.bind ?_
    have key: ∀(Q:Value→Hp→Prop) (hh:Hp),Q (.int .i64 v) hh→Tri P B (Instr.keyThatStays (((jcL es 0).toArray[p]?.map (·.key)).getD (.int .i64 v)) (.int .i64 v)) hh Q:=by
      intro Q hh hQ
      rw [hold];unfold Instr.keyThatStays
      split
      · exact Tri.pure hQ
      · refine Tri.bind (jdI rfl fun z=>Tri.pure ?_)
        split<;>exact hQ
    refine key _ _ ?_
    refine jbK rfl rfl ?_
    refine Tri.pure ⟨.inl (by trivial),?_⟩
    have:(Obj.map ((jcL es 0).toArray.modify p fun e=>{e with key:= .int .i64 v,val:= .int .i64 w}) es.length)=mapI (jgv es v w):=by
      rw [e3,jmX es p v c w hget,mapI,List.length_set]
    show RegK m S ops r _ (h1++⟨true,q,Obj.map ((jcL es 0).toArray.modify p fun e=>{e with key:= .int .i64 v,val:= .int .i64 w}) es.length⟩::h2) C
    rw [this,←e2];exact n
end
theorem jis (l:List (Int×Int)) (x:Int) (a:Int×Int): ∀i,jcx x (l++[a]) i=match jcx x l i with|some p=>some p|none=>if a.1=x then some (i+l.length,a.2) else none:=by
  induction l with
  |nil=>intro i;simp [jcx]
  |cons e r ih=>
    intro i
    rw [List.cons_append];unfold jcx
    split
    · rfl
    · rw [ih (i+1),List.length_cons,show i+1+r.length=i+(r.length+1) by omega]
theorem jir (x w x':Int): ∀(l:List (Int×Int)) (i p:Nat) (c:Int),jcx x l i=some (i+p,c)→jcx x' (l.set p (x,w)) i=if x'=x then some (i+p,w) else jcx x' l i
  |[],_,_,_,h=>by simp [jcx] at h
  |e::r,i,0,c,h=>by
    have hk:e.1=x:=by
      unfold jcx at h
      split at h
      · assumption
      · obtain ⟨p,hp,_⟩:=je3 x r (i+1) (i+0) c h;omega
    rw [List.set_cons_zero];unfold jcx
    by_cases e':x'=x
    · rw [if_pos e',if_pos e'.symm];rfl
    · rw [if_neg e',if_neg (fun y=>e' y.symm),if_neg (fun y=>e' (y.symm.trans hk))]
  |e::r,i,p+1,c,h=>by
    have hk: ¬e.1=x:=fun hk=>by
      unfold jcx at h
      rw [if_pos hk] at h
      have:=(Prod.mk.inj (Option.some.inj h)).1
      omega
    rw [List.set_cons_succ];unfold jcx at h⊢
    rw [if_neg hk] at h
    have ih:=jir x w x' r (i+1) p c (by rw [h,show i+(p+1)=i+1+p by omega])
    by_cases e':x'=x
    · rw [if_pos e'] at ih⊢
      rw [if_neg (fun y=>hk (y.trans e')),ih,show i+1+p=i+(p+1) by omega]
    · rw [if_neg e'] at ih⊢
      split
      · rfl
      · exact ih
theorem jix (l:List (Int×Int)) (x w x':Int):cntI (jgv l x w) x'=if x'=x then w else cntI l x':=by
  unfold jgv
  cases hf:jcx x l 0 with
  |none=>
    simp only [cntI,jis]
    by_cases e:x'=x
    · subst e
      simp [hf]
    · rw [if_neg e,if_neg (fun y=>e y.symm)];cases jcx x' l 0<;>rfl
  |some p=>
    obtain ⟨p,c⟩:=p
    have:=jir x w x' l 0 p c (by rw [hf,Nat.zero_add])
    simp only [cntI,this]
    by_cases e:x'=x
    · rw [if_pos e,if_pos e]
    · rw [if_neg e,if_neg e]
end Go.Lo
namespace Go.Lo
open Go.Conc
def blk:Loc→Option Nat
  | .cell a=>some a.block
  | .obj r=>some r
  |_=>none
theorem EvOk.touch {B:Array Obj} {h:Hp} {n n':Nat} {e:Event} (o:EvOk B h n n' e) {a:Touch} (ha:(MemAct.ofEvent e).touch?=some a): ∃b,blk a.loc=some b∧Allowed B h n n' a.write b:=by
  rcases o with rfl|⟨hs,o⟩
  · cases ha
  obtain ⟨l,wr,sy⟩:=e
  simp only at hs
  subst hs
  cases l with
  |cell x=>
    have:a=⟨.cell x,wr,.plain⟩:=by simpa [MemAct.ofEvent,MemAct.touch?] using ha.symm
    subst this
    exact ⟨_,rfl,o⟩
  |obj x=>
    have:a=⟨.obj x,wr,.plain⟩:=by simpa [MemAct.ofEvent,MemAct.touch?] using ha.symm
    subst this
    exact ⟨_,rfl,o⟩
  |output=>exact o.elim
  |goroutines=>exact o.elim
  |mark m=>exact o.elim
theorem EvOk.word {B:Array Obj} {h:Hp} {n n':Nat} {e:Event} (o:EvOk B h n n' e): ∀m,MemAct.ofEvent e= .mark m→Neutral m:=by
  rcases o with rfl|⟨hs,o⟩
  · intro m hm;cases hm;rfl
  obtain ⟨l,wr,sy⟩:=e
  simp only at hs
  subst hs
  intro m hm
  cases l with
  |mark x=>exact o.elim
  |_=>simp [MemAct.ofEvent] at hm
def updH (f:Nat→Hp) (i:Nat) (h:Hp):Nat→Hp:=fun j=>if j=i then h else f j
@[simp] theorem updH_same (f:Nat→Hp) (i:Nat) (h:Hp):updH f i h i=h:=by simp [updH]
theorem jar (f:Nat→Hp) {i j:Nat} (h:Hp) (e:j≠i):updH f i h j=f j:=by simp [updH,e]
def ApH (h k:Hp):Prop:= ∀c∈h,∀d∈k,(c.rw=true∨d.rw=true)→c.b≠d.b
theorem ApH.symm {h k:Hp} (a:ApH h k):ApH k h:=fun c hc d hd x e=>a d hd c hc x.symm e.symm
theorem jcG {g:Nat} {fn:FuncId} {pos:String} {es:Array Event} {op:MemOp} (h:op∈MemOp.ofEvents g fn pos es): ∃e∈es,op={g,fn,pos,act:= .ofEvent e}:=by
  unfold MemOp.ofEvents at h
  split at h
  · simp at h
  · obtain ⟨e,he,rfl⟩:=Array.mem_map.1 h
    exact ⟨e,he,rfl⟩
theorem jbV {t u:Trace} {i:Nat} {a:Touch} (h:touchAt (t++u) i=some a):touchAt t i=some a∨ ∃op∈u,(t++u)[i]?=some op∧op.act.touch?=some a:=by
  obtain ⟨op,ho,hoa⟩:=touch_of h
  rcases getElem?_append_cases ho with ⟨hi,ho'⟩|⟨_,hou⟩
  · exact .inl (by rw [touchAt_of ho'];exact hoa)
  · exact .inr ⟨op,hou,ho,hoa⟩
section
variable {n lim lim':Nat} {Hl Hl':Nat→Hp} {Left Left':Nat→Prop} {t u:Trace}
end
end Go.Lo
namespace Go.Lo
open Go.Conc
structure Pro where
  chans:List Nat
  done:Nat
  Msg:Nat→Value→Hp→Nat→Nat→Prop
section
variable {P:Program} {B:Array Obj} {W:World} {C:List Nat} {Left:Nat→Prop} {gs:Array Goroutine} {w w':World} {t:Trace} {Hl:Nat→Hp} {sl:Option (Nat×Nat)}
end
end Go.Lo
namespace Go.Lo
open Go.Conc
inductive Tr where
  |leaf
  |node (f:Goroutine→Hp→Tr)
end Go.Lo
namespace Go.Lo
open Go.Conc
section
variable {P:Program} {B:Array Obj}
theorem jiH {m:Md P B} {S:Hp} {ops:Array Oper} (hn: ∀(x:Nat) (o:Oper),ops[x]?=some o→ ∀c:Call,o.op≠ .defer c) {b:Frame} {ds:List Deferred} {k:List Item} {cs:List Frame} {K:Goroutine→Hp→Prop} (s:List Nat): ∀(r:List (Nat×Kd)) (l:List Value) (h:Hp),(∀x∈r,x.2= .free)→
    RegK m S ops r l h (fun l' h'=>m.R K (Gr b l' ds (.inRegion ops s::k) cs) h')→m.R K (Gr b l ds (.inRegion ops (r.map (·.1)++s)::k) cs) h
  |[],l,h,_,t=>t
  |(i,kd)::r,l,h,hr,⟨o,ho,t⟩=>by
    have hk:kd= .free:=hr _ List.mem_cons_self
    subst hk
    refine jhm ho (hn _ _ ho) (fun e=>by rcases e with e|e<;>cases e) (jcT (fun l' h' t' _=>jiH hn s r l' h' (fun x hx=>hr x (List.mem_cons_of_mem _ hx)) t') t)
theorem jku {ops:Array Oper} {i:Nat} {rest:List Nat} {o:Oper} {b:Frame} {l:List Value} {ds:List Deferred} {k:List Item} {cs:List Frame} (ho:ops[i]?=some o) (hw:Region.wanted o (yielded ops l.toArray)=true)
    (hd: ∀c,o.op≠ .defer c) (main:Bool) (w:World):stepG P main (Gr b l ds (.inRegion ops (i::rest)::k) cs) w=stepG.apply P true (Fr b l ds (.inRegion ops (i::rest)::k)) cs none (execOp (ev l) o) w:=by
  have he:=Fr.eval b l ds (.inRegion ops (i::rest)::k)
  simp only [Fr] at he
  cases hr:b.roundOf with
  |none=>
    rw [hr] at he
    simp [Gr,G,stepG,stepG.exec,stepG.oper,Frame.oper?,Fr,ho,hw,hr,he]
  |some x=>
    rw [hr] at he
    simp [Gr,G,stepG,stepG.exec,stepG.oper,Frame.oper?,Fr,ho,hw,hr]
    split
    · rename_i c _ hop
      exact absurd hop (hd c)
    · rw [he]
section
variable {Q:Pro} {s s':Nat} {ops:Array Oper} {i r:Nat} {rest:List Nat} {b:Frame} {l:List Value} {ds:List Deferred} {k:List Item} {cs:List Frame} {c x:Operand} {v:Value} {hr hp:Hp} {ty:TypeId} {pos:String} {af:Array Edge}
end
def kidF (P:Program):Frame:={(default:Frame) with fn:=P.funcs.size,defers:=[],mode:= .panicking [goexitEntry]}
def kid0 (P:Program) (d:Deferred):Goroutine:={frame:={(default:Frame) with fn:=P.funcs.size,defers:=[d],mode:= .panicking [goexitEntry]},callers:=[],status:= .running,dying:=none}
theorem jiR {ops:Array Oper} {i:Nat} {rest:List Nat} {b:Frame} {l:List Value} {ds:List Deferred} {k:List Item} {cs:List Frame} {d:Option Tmp} {x:Operand} {ats:Array TypeId} {ty:TypeId} {pos:String} {af:Array Edge} {f:FuncId} {first cap:Array Value}
    (ho:ops[i]?=some ⟨d,.go ⟨.value x,#[],ats⟩,ty,pos,af,none⟩) [ex:OpV l x (.func (.func f) first cap)] (w:World):
    stepG P true (Gr b l ds (.inRegion ops (i::rest)::k) cs) w= .spawn (Gr b (put l d undef) ds (.inRegion ops rest::k) cs) (kid0 P {target:= .fn (.func f) cap,args:=first++ #[]}) w #[]:=by
  rw [jku ho rfl (fun c=>by simp)];have hm:execOp (ev l) ⟨d,.go ⟨.value x,#[],ats⟩,ty,pos,af,none⟩=(do pure (.spawn (←Deferred.ofValue (.func (.func f) first cap) #[])):Sem Next):=by
    simp [execOp,resolve,ex.eq]
  have hfin:=Fr.finish b l ds ops i rest k undef ho
  rw [hm];simp only [Deferred.ofValue,pure_bind]
  unfold Gr
  rw [←hfin];simp [stepG.apply,GStep.after,seen,kid0,G,Fr]
end
theorem jhQ {P:Program} {ops:Array Oper} {i:Nat} {rest:List Nat} {b:Frame} {l:List Value} {ds:List Deferred} {k:List Item} {cs:List Frame} {x:Operand} {ats:Array TypeId} {ty:TypeId} {pos:String} {af:Array Edge} {f:FuncId} {first cap:Array Value}
    (ho:ops[i]?=some ⟨none,.go ⟨.value x,#[],ats⟩,ty,pos,af,none⟩) [ex:OpV l x (.func (.func f) first cap)] (w:World):
    stepG P true (Gr b l ds (.inRegion ops (i::rest)::k) cs) w= .spawn (Gr b l ds (.inRegion ops rest::k) cs) (kid0 P {target:= .fn (.func f) cap,args:=first++ #[]}) w #[]:=jiR ho w
section
variable {P:Program} {B:Array Obj} {m:Md P B} {ops:Array Oper} {b:Frame} {l:List Value} {ds:List Deferred} {k:List Item} {cs:List Frame} {h:Hp} {K:Goroutine→Hp→Prop}
def nodef (ops:Array Oper):Bool:=ops.all fun o=>match o.op with| .defer _=>false|_=>true
theorem jkG (h:nodef ops=true): ∀(x:Nat) (o:Oper),ops[x]?=some o→ ∀c:Call,o.op≠ .defer c:=fun x o ho c e=>by
  unfold nodef at h
  rw [Array.all_eq_true_iff_forall_mem] at h
  have:=h o (Array.mem_of_getElem? ho)
  rw [e] at this
  cases this
theorem jiZ {id:Nat} (r:List (Nat×Kd)) (s:List Nat) (hn:(nodef ops&&r.all fun x=>x.2== .free)=true) (hr:r.map (·.1)++s=List.range ops.size)
    (t:RegK m [] ops r l h fun l' h'=>m.R K (Gr b l' ds (.inRegion ops s::k) cs) h'):m.R K (Gr b l ds (.code (.region id ops false)::k) cs) h:=by
  simp only [Bool.and_eq_true,List.all_eq_true,beq_iff_eq] at hn
  exact jds (hr▸jiH (jkG hn.1) s r l h hn.2 t)
end
def ro (h:Hp):Hp:=h.map fun c=>{c with rw:=false}
theorem jhZ {h:Hp} {c:Chunk} (hc:c∈ro h):c.rw=false∧ ∃d∈h,d.b=c.b∧d.o=c.o:=by
  obtain ⟨d,hd,rfl⟩:=List.mem_map.1 hc
  exact ⟨rfl,d,hd,rfl,rfl⟩
theorem jiI {B:Array Obj} (h X:Hp):Weak B (h++X) (ro h++X):=by
  refine ⟨fun w s=>⟨s.base,fun c hc=>?_,?_⟩,fun c hc=>?_⟩
  · rcases List.mem_append.1 hc with hc|hc
    · obtain ⟨_,d,hd,e1,e2⟩:=jhZ hc
      have:=s.mem d (List.mem_append_left _ hd)
      rw [e1,e2] at this;exact this
    · exact s.mem c (List.mem_append_right _ hc)
  · have hp:=List.pairwise_append.1 s.apart
    refine List.pairwise_append.2 ⟨?_,hp.2.1,fun c hc d hd hr=>?_⟩
    · unfold ro
      rw [List.pairwise_map];exact hp.1.imp fun _ x=>by simp at x
    · obtain ⟨h1,c',hc',e1,_⟩:=jhZ hc
      rw [←e1];exact hp.2.2 c' hc' d hd (.inr (hr.resolve_left (by rw [h1];simp)))
  · rcases List.mem_append.1 hc with hc|hc
    · obtain ⟨h1,d,hd,e1,_⟩:=jhZ hc
      exact ⟨d,List.mem_append_left _ hd,e1,fun x=>by rw [h1] at x;cases x⟩
    · exact ⟨c,List.mem_append_right _ hc,rfl,id⟩
theorem Rd.ro {B:Array Obj} {h:Hp} {a:Addr} {v:Value} (r:Rd B h a v):Rd B (Lo.ro h) a v:=by
  obtain ⟨s,r|⟨x,hx,c,t,f,e,e',hv⟩⟩:=r
  · exact ⟨s,.inl r⟩
  · exact ⟨s,.inr ⟨{x with rw:=false},List.mem_map.2 ⟨x,hx,rfl⟩,c,t,f,e,e',hv⟩⟩
theorem RdS.ro {B:Array Obj} {h:Hp} {k:Nat} {v:Value} {n:Nat} {ys:List Value} (r:RdS B h k v n ys):RdS B (Lo.ro h) k v n ys:=by
  obtain ⟨p,c,e,hl,r|⟨b,o,e',rd⟩⟩:=r
  · exact ⟨p,c,e,hl,.inl r⟩
  · exact ⟨p,c,e,hl,.inr ⟨b,o,e',fun j hj=>(rd j hj).ro⟩⟩
section
variable {P:Program} {B:Array Obj} {m:Md P B} {ops:Array Oper} {l l':List Value} {S h h' H:Hp} {C:List Value→Hp→Prop} {i:Nat} {kd:Kd} {r:List (Nat×Kd)}
  {d:Option Tmp} {ty:TypeId} {pos:String} {af:Array Edge} {g:Option (Nat×Bool)}
end
end Go.Lo
namespace Go.Lo
open Go.Conc (G)
section
variable {P:Program} {B:Array Obj} {m:Md P B} {ops:Array Oper} {l l' l'':List Value} {S h h' H:Hp} {C:List Value→Hp→Prop} {i:Nat} {kd:Kd} {r:List (Nat×Kd)}
  {d:Option Tmp} {ty:TypeId} {pos:String} {af:Array Edge} {g:Option (Nat×Bool)}
theorem k_and {t u:TypeId} {x y:Operand} {a b:Int} (v:Int) (ho:ops[i]?=some ⟨d,.binOp .and t x y u,ty,pos,af,g⟩) (hw:Wt ops l g) [KHeap kd S h H] [ex:OpV l x (.int .i64 a)] [ey:OpV l y (.int .i64 b)] (hv:IntKind.wrap .i64 ((BitVec.ofInt 64 a&&&BitVec.ofInt 64 b).toNat:Int)=v) [PutV l d (.int .i64 v) l'] (q:RegK m S ops r l' h C):RegK m S ops ((i,kd)::r) l h C:=
  RegK.rd (v:= .int .i64 v) ho hw (ja5 ex.eq ey.eq (by simp) (by rw [←hv];rfl)) q
theorem k_shl {t u:TypeId} {x y:Operand} {a b:Int} {k k':IntKind} (v:Int) (ho:ops[i]?=some ⟨d,.binOp .shl t x y u,ty,pos,af,g⟩) (hw:Wt ops l g) [KHeap kd S h H] [ex:OpV l x (.int k a)] [ey:OpV l y (.int k' b)] (h0:0≤b) (hv:k.wrap (a*2^(min b.toNat k.bits))=v) [PutV l d (.int k v) l'] (q:RegK m S ops r l' h C):RegK m S ops ((i,kd)::r) l h C:=
  RegK.rd (v:= .int k v) ho hw (by
    simp only [execOp,ex.eq,ey.eq]
    refine Reads.value (Reads.bind (a:=()) (Reads.pure _) ?_)
    show Reads P B (Op.shift .shl k a k' b) H _
    unfold Op.shift
    rw [if_neg (by omega),←hv];exact Reads.pure _) q
theorem ap_last {B:Array Obj} {F hc:Hp} {q:Nat} {o:Obj} {w:World} (s:Sat B (F++[⟨true,q,o⟩]) w) (hF: ∀c∈F,c.rw=false) (hd: ∀d∈hc,d.rw=true→d.b=q):ApH F hc:=fun c hc' d hd' hr=>by
  have h1:=hF c hc'
  have h2:d.rw=true:=hr.resolve_left (by rw [h1];simp)
  rw [hd d hd' h2];exact (List.pairwise_append.1 s.apart).2.2 c hc' _ (List.mem_singleton.2 rfl) (.inr rfl)
end
theorem jbq {B:Array Obj} {t k:Nat} {v:Value} {n:Nat} {cs:List Value} {new:Hp} (o:OwnS t k v n cs new): ∃p c,v= .slice p n c∧n≤c∧RdS B new k (.slice p n c) n cs:=by
  obtain ⟨p,c,rfl,_⟩:=o.len
  exact ⟨p,c,rfl,o.cap,o.rd (List.Sublist.refl _)⟩
end Go.Lo
namespace Go.Lo
open Go.Conc
def Rel (t:Trace) (a:Addr) (i:Nat):Prop:= ∃p,t.act? p=some (.mark (.releaseMerge a))∧t.heard p∧Before t i p
theorem Rel.app {t:Trace} {a:Addr} {i:Nat} (u:Trace) (h:Rel t a i):Rel (t++u) a i:=
  let ⟨p,h1,h2,h3⟩:=h
  have hp:=lt_of_act? h1
  ⟨p,by rw [act?_old hp];exact h1,(heard_old hp).2 h2,h3.app u⟩
structure TJ (n lim gn:Nat) (Hl:Nat→Hp) (Sh:Nat→Prop) (Pool:Hp) (la wa:Addr) (Gone Live:Nat→Prop) (t:Trace):Prop where
  clean: ∀said,¬Race said t
  low: ∀i a b,touchAt t i=some a→blk a.loc=some b→b<lim
  base: ∀i a b,touchAt t i=some a→blk a.loc=some b→b<n→a.write=false
  plain: ∀i a b,touchAt t i=some a→blk a.loc=some b→Sh b∨a.kind= .plain
  known: ∀g,∀c∈Hl g,∀i a,touchAt t i=some a→blk a.loc=some c.b→(c.rw=true∨a.write=true)→Knows t g i
  pool: ∀c∈Pool,∀i a,touchAt t i=some a→blk a.loc=some c.b→(c.rw=true∨a.write=true)→Rel t la i∨ ∀g,Live g→Knows t g i
  sh: ∀b,Sh b→ ∀i a,touchAt t i=some a→blk a.loc=some b→(a.kind= .plain→ ∀g,Live g→Knows t g i)∧(a.kind= .said→Knows t 0 i)
  gone: ∀(i:Nat) (x:MemOp),t[i]?=some x→Gone x.g→t.counts i→Rel t wa i∨Knows t 0 i
  norel: ∀a,NoRelease a t
  gs: ∀op∈t,op.g<gn
section
variable {n lim lim' gn:Nat} {Hl Hl':Nat→Hp} {Sh:Nat→Prop} {Pool Pool':Hp} {la wa:Addr} {Gone Gone' Live Live':Nat→Prop} {t u:Trace}
theorem jc1 (t:Trace) (y:MemOp):(t++ #[y])[t.size]?=some y:=by
  rw [Array.getElem?_append_right (Nat.le_refl _)];simp
theorem jgX {t:Trace} {y:MemOp} (h:Deaf t y.g=0):(t++ #[y]).heard t.size:=
  ⟨y.g,g?_of (jc1 t y),by rw [deaf_old (Nat.le_refl _)];exact h⟩
theorem jgp {t:Trace} {y:MemOp} (h:0<Deaf t y.g): ¬(t++ #[y]).heard t.size:=by
  rintro ⟨g,h1,h2⟩;rw [g?_of (jc1 t y)] at h1
  obtain rfl:=Option.some.inj h1
  rw [deaf_old (Nat.le_refl _)] at h2
  unfold Deaf at h;omega
theorem jdP {t:Trace} {y x:MemOp} {i:Nat} (h:(t++ #[y])[i]?=some x):(i<t.size∧t[i]?=some x)∨(i=t.size∧x=y):=by
  rcases getElem?_append_cases h with ⟨h1,h2⟩|⟨h1,h2⟩
  · exact .inl ⟨h1,h2⟩
  · have:=lt_size_of_getElem? h
    have e:x=y:=by simpa using h2
    exact .inr ⟨by simp at this;omega,e⟩
theorem jb2 {t:Trace} {y:MemOp} {i:Nat} {a:Touch} (h:touchAt (t++ #[y]) i=some a):touchAt t i=some a∨(i=t.size∧y.act.touch?=some a):=by
  obtain ⟨x,hx,hxa⟩:=touch_of h
  rcases jdP hx with ⟨_,h2⟩|⟨h1,rfl⟩
  · exact .inl (by rw [touchAt_of h2];exact hxa)
  · exact .inr ⟨h1,hxa⟩
theorem TJ.one (T:TJ n lim gn Hl Sh Pool la wa Gone Live t) (y:MemOp) (hg:y.g<gn) (hlv: ∀b,y.act.touch?=some b→Live y.g) (hSh: ∀b,Sh b→n≤b∧b<lim) (apH: ∀b,Sh b→ ∀g,∀c∈Hl g,c.b≠b) (apP: ∀b,Sh b→ ∀c∈Pool,c.b≠b)
    (ok: ∀b,y.act.touch?=some b→(∃s,blk b.loc=some s∧Sh s)∧(b.kind= .atomic∨(b.kind= .said∧y.g=0)))
    (nr: ∀a,y.act≠ .mark (.release a)) (hgo:Gone y.g→ ∀b,y.act.touch?=some b→b.kind= .atomic∧0<Deaf t y.g):
    TJ n lim gn Hl Sh Pool la wa Gone Live (t++ #[y]):=by
  refine ⟨fun said=>noRace_append (g:=y.g) (T.clean said) (fun op hop=>?_) fun i a ha op hop b hb hc=>?_,fun i a b ha hb=>?_,fun i a b ha hb hlt=>?_,fun i a b ha hb=>?_,fun g c hc i a ha hb hor=>?_,fun c hc i a ha hb hor=>?_,fun b hb i a ha hl=>?_,fun i x hx hG hct=>?_,
    fun a=>(T.norel a).app fun op hop=>?_,fun op hop=>?_⟩
  · have:op=y:=by simpa using hop
    subst this;rfl
  · have:op=y:=by simpa using hop
    subst this
    obtain ⟨⟨s,hs,hS⟩,hk⟩:=ok b hb
    have hl:blk a.loc=some s:=by rw [hc.1];exact hs
    obtain ⟨p1,p2⟩:=T.sh s hS i a ha hl
    rcases hc.2.2.2 with h|h|⟨_,h,h'⟩
    · exact p1 h _ (hlv b hb)
    · rcases hk with hk|⟨hk,_⟩<;>(rw [hk] at h;cases h)
    · rcases hk with hk|⟨_,h0⟩
      · rw [hk] at h';cases h'
      · rw [h0];exact p2 h
  · rcases jb2 ha with ha|⟨_,ha⟩
    · exact T.low i a b ha hb
    · obtain ⟨⟨s,hs,hS⟩,_⟩:=ok a ha
      rw [hs] at hb
      obtain rfl:=Option.some.inj hb
      exact (hSh _ hS).2
  · rcases jb2 ha with ha|⟨_,ha⟩
    · exact T.base i a b ha hb hlt
    · obtain ⟨⟨s,hs,hS⟩,_⟩:=ok a ha
      rw [hs] at hb
      obtain rfl:=Option.some.inj hb
      have:=(hSh _ hS).1;omega
  · rcases jb2 ha with ha|⟨_,ha⟩
    · exact T.plain i a b ha hb
    · obtain ⟨⟨s,hs,hS⟩,_⟩:=ok a ha
      rw [hs] at hb
      obtain rfl:=Option.some.inj hb
      exact .inl hS
  · rcases jb2 ha with ha|⟨_,ha⟩
    · exact (T.known g c hc i a ha hb hor).app _
    · obtain ⟨⟨s,hs,hS⟩,_⟩:=ok a ha
      rw [hs] at hb
      exact absurd (Option.some.inj hb).symm (apH s hS g c hc)
  · rcases jb2 ha with ha|⟨_,ha⟩
    · exact (T.pool c hc i a ha hb hor).imp (fun h=>h.app _) fun h g hg=>(h g hg).app _
    · obtain ⟨⟨s,hs,hS⟩,_⟩:=ok a ha
      rw [hs] at hb
      exact absurd (Option.some.inj hb).symm (apP s hS c hc)
  · rcases jb2 ha with ha|⟨ei,ha⟩
    · obtain ⟨p1,p2⟩:=T.sh b hb i a ha hl
      exact ⟨fun h g hg=>(p1 h g hg).app _,fun h=>(p2 h).app _⟩
    · obtain ⟨_,hk⟩:=ok a ha
      refine ⟨fun h=>?_,fun h=>?_⟩
      · rcases hk with hk|⟨hk,_⟩<;>(rw [hk] at h;cases h)
      · rcases hk with hk|⟨_,h0⟩
        · rw [hk] at h;cases h
        · have:=knows_own (jc1 t y)
          rw [h0] at this
          rw [ei];exact this
  · rcases jdP hx with ⟨hi,hx'⟩|⟨rfl,rfl⟩
    · exact (T.gone i x hx' hG ((counts_old hi).1 hct)).imp (fun h=>h.app _) fun h=>h.app _
    · obtain ⟨a,ha,_,hk⟩:=hct
      obtain ⟨z,hz,hza⟩:=touch_of ha
      rw [jc1] at hz
      obtain rfl:=Option.some.inj hz
      obtain ⟨k1,k2⟩:=hgo hG a hza
      rcases hk with hk|hk
      · exact absurd k1 hk
      · exact absurd hk (jgp k2)
  · have:op=y:=by simpa using hop
    subst this;exact nr a
  · rcases Array.mem_append.1 hop with h|h
    · exact T.gs op h
    · have:op=y:=by simpa using h
      subst this;exact hg
theorem jkk {a:Addr} {y:MemOp} (hn:NoRelease a t) (hy:y.act= .mark (.acquire a)) (hd:Deaf t y.g=0) {i:Nat} (h:Rel t a i):Knows (t++ #[y]) y.g i:=by
  obtain ⟨p,h1,h2,h3⟩:=h
  have hp:=lt_of_act? h1
  refine ⟨t.size,y,jc1 t y,rfl,.inr ((h3.app _).hb ?_)⟩
  refine .single (.inr ⟨.marked hp (.inr (by rw [act?_old hp];exact h1)) (by rw [act?_of (jc1 t y),hy]) (fun k _ hk=>?_),(heard_old hp).2 h2,jgX hd⟩)
  rw [act?_old hk];exact hn k
theorem jjF {a:Addr} {y:MemOp} (hy:y.act= .mark (.releaseMerge a)) (hd:Deaf t y.g=0) {i:Nat} (h:Knows t y.g i):Rel (t++ #[y]) a i:=
  ⟨t.size,by rw [act?_of (jc1 t y),hy],jgX hd,.inr (h.hb_new (Nat.le_refl _) (jc1 t y) rfl)⟩
theorem TJ.weak (T:TJ n lim gn Hl Sh Pool la wa Gone Live t) (hlim:lim≤lim') (key: ∀g,∀c'∈Hl' g,∃c∈Hl g,c.b=c'.b∧(c'.rw=true→c.rw=true)):TJ n lim' gn Hl' Sh Pool la wa Gone Live t:=
  ⟨T.clean,fun i a b ha hb=>Nat.lt_of_lt_of_le (T.low i a b ha hb) hlim,T.base,T.plain,fun g c' hc' i a ha hb hor=>by
    obtain ⟨c,hc,e,hr⟩:=key g c' hc'
    exact T.known g c hc i a ha (e▸hb) (hor.imp hr id),T.pool,T.sh,T.gone,T.norel,T.gs⟩
theorem TJ.take (T:TJ n lim gn Hl Sh Pool la wa Gone Live t) {y:MemOp} (hg:Live y.g) (hy:y.act= .mark (.acquire la)) (hd:Deaf t y.g=0) (T':TJ n lim gn Hl Sh Pool la wa Gone Live (t++ #[y])):
    TJ n lim gn (updH Hl y.g (Hl y.g++Pool)) Sh [] la wa Gone Live (t++ #[y]):=by
  refine ⟨T'.clean,T'.low,T'.base,T'.plain,fun g c hc i a ha hb hor=>?_,fun c hc=>by simp at hc,T'.sh,T'.gone,T'.norel,T'.gs⟩
  by_cases e:g=y.g
  · subst e
    rw [updH_same] at hc
    rcases List.mem_append.1 hc with hc|hc
    · exact T'.known _ c hc i a ha hb hor
    · rcases jb2 ha with ha'|⟨_,ha'⟩
      · rcases T.pool c hc i a ha' hb hor with h|h
        · exact jkk (T.norel la) hy hd h
        · exact (h _ hg).app _
      · rw [hy] at ha';cases ha'
  · rw [jar _ _ e] at hc
    exact T'.known g c hc i a ha hb hor
theorem TJ.put (T:TJ n lim gn Hl Sh [] la wa Gone Live t) {y:MemOp} (hy:y.act= .mark (.releaseMerge la)) (hd:Deaf t y.g=0) (T':TJ n lim gn Hl Sh [] la wa Gone Live (t++ #[y])) {hr hp:Hp}
    (k1: ∀x'∈hr,∃x∈Hl y.g,x.b=x'.b∧(x'.rw=true→x.rw=true)) (k2: ∀x'∈hp,∃x∈Hl y.g,x.b=x'.b∧(x'.rw=true→x.rw=true)):
    TJ n lim gn (updH Hl y.g hr) Sh hp la wa Gone Live (t++ #[y]):=by
  refine ⟨T'.clean,T'.low,T'.base,T'.plain,fun g c hc i a ha hb hor=>?_,fun c hc i a ha hb hor=>?_,T'.sh,T'.gone,T'.norel,T'.gs⟩
  · by_cases e:g=y.g
    · subst e
      rw [updH_same] at hc
      obtain ⟨x,hx,e,hr⟩:=k1 c hc
      exact T'.known _ x hx i a ha (by rw [e];exact hb) (hor.imp hr id)
    · rw [jar _ _ e] at hc
      exact T'.known g c hc i a ha hb hor
  · obtain ⟨x,hx,e,hr⟩:=k2 c hc
    rcases jb2 ha with ha'|⟨_,ha'⟩
    · exact .inl (jjF hy hd (T.known _ x hx i a ha' (by rw [e];exact hb) (hor.imp hr id)))
    · rw [hy] at ha';cases ha'
theorem TJ.bye (T:TJ n lim gn Hl Sh Pool la wa Gone Live t) {y:MemOp} (hy:y.act= .mark (.releaseMerge wa)) (hd:Deaf t y.g=0) (T':TJ n lim gn Hl Sh Pool la wa Gone Live (t++ #[y])) (hG: ∀g,Gone' g→Gone g∨g=y.g):
    TJ n lim gn Hl Sh Pool la wa Gone' Live (t++ #[y]):=by
  refine ⟨T'.clean,T'.low,T'.base,T'.plain,T'.known,T'.pool,T'.sh,fun i x hx hg hct=>?_,T'.norel,T'.gs⟩
  rcases hG _ hg with h|h
  · exact T'.gone i x hx h hct
  · rcases jdP hx with ⟨hi,hx'⟩|⟨rfl,rfl⟩
    · refine .inl (jjF hy hd ?_)
      rw [←h];exact knows_own hx'
    · obtain ⟨a,ha,_⟩:=hct
      obtain ⟨z,hz,hza⟩:=touch_of ha
      rw [jc1] at hz
      obtain rfl:=Option.some.inj hz
      rw [hy] at hza;cases hza
theorem TJ.heard0 (T:TJ n lim gn Hl Sh Pool la wa Gone Live t) {y:MemOp} (h0:y.g=0) (hy:y.act= .mark (.acquire wa)) (hd:Deaf t y.g=0) (T':TJ n lim gn Hl Sh Pool la wa Gone Live (t++ #[y])):
    ∀(i:Nat) (x:MemOp),(t++ #[y])[i]?=some x→Gone x.g→(t++ #[y]).counts i→Knows (t++ #[y]) 0 i:=by
  intro i x hx hG hct
  rcases jdP hx with ⟨hi,hx'⟩|⟨rfl,rfl⟩
  · rcases T.gone i x hx' hG ((counts_old hi).1 hct) with h|h
    · have:=jkk (T.norel wa) hy hd h
      rwa [h0] at this
    · exact h.app _
  · obtain ⟨a,ha,_⟩:=hct
    obtain ⟨z,hz,hza⟩:=touch_of ha
    rw [jc1] at hz
    obtain rfl:=Option.some.inj hz
    rw [hy] at hza;cases hza
theorem TJ.take0 (T:TJ n lim gn Hl Sh Pool la wa Gone Live t) (hk: ∀(i:Nat) (x:MemOp),t[i]?=some x→x.g≠0→t.counts i→Knows t 0 i) (apP: ∀b,Sh b→ ∀c∈Pool,c.b≠b):
    TJ n lim gn (updH Hl 0 (Hl 0++Pool)) Sh [] la wa Gone Live t:=by
  refine ⟨T.clean,T.low,T.base,T.plain,fun g c hc i a ha hb hor=>?_,fun c hc=>by simp at hc,T.sh,T.gone,T.norel,T.gs⟩
  by_cases e:g=0
  · subst e
    rw [updH_same] at hc
    rcases List.mem_append.1 hc with hc|hc
    · exact T.known _ c hc i a ha hb hor
    · obtain ⟨x,hx,hxa⟩:=touch_of ha
      by_cases e0:x.g=0
      · have:=knows_own hx
        rwa [e0] at this
      · refine hk i x hx e0 ⟨a,ha,?_,.inl ?_⟩
        · cases hloc:a.loc<;>rw [hloc] at hb<;>first|rfl|cases hb
        · rcases T.plain i a c.b ha hb with h|h
          · exact absurd rfl (apP c.b h c hc)
          · rw [h];decide
  · rw [jar _ _ e] at hc
    exact T.known g c hc i a ha hb hor
theorem TJ.handed (hk: ∀(i:Nat) (x:MemOp),t[i]?=some x→x.g≠0→t.counts i→Knows t 0 i):t.HandedOver:=by
  intro i g hg hne hct
  obtain ⟨x,hx,rfl⟩: ∃x,t[i]?=some x∧x.g=g:=by
    unfold Trace.g? at hg
    obtain ⟨x,hx,e⟩:=Option.map_eq_some_iff.1 hg
    exact ⟨x,hx,e⟩
  obtain ⟨q,z,h1,h2,h3⟩:=hk i x hx hne hct
  rcases h3 with rfl|h3
  · rw [hx] at h1
    obtain rfl:=Option.some.inj h1
    exact absurd h2 hne
  · exact ⟨q,by rw [g?_of h1,h2],h3⟩
theorem TJ.own (T:TJ n lim gn Hl Sh Pool la wa Gone Live t) {B:Array Obj} (hn:B.size=n) {g:Nat} (hgn:g<gn) {h':Hp} {w w':World} {es:Array Event} (hlim:w.heap.size=lim) (hlim':w'.heap.size=lim') (st:Stp B (Hl g) h' w w' es)
    (hs: ∀j,Sat B (Hl j) w) (hsP:Sat B Pool w) (ap: ∀j,j≠g→ApH (Hl j) (Hl g)) (apP:ApH Pool (Hl g)) (hSh: ∀b,Sh b→n≤b∧b<lim) (apS: ∀b,Sh b→ ∀c∈Hl g,c.b≠b) (hL: ¬Gone g) (fn:FuncId) (pos:String):
    TJ n lim' gn (updH Hl g h') Sh Pool la wa Gone Live (t++MemOp.ofEvents g fn pos es):=by
  subst hlim;subst hlim';subst hn
  have hev: ∀op∈MemOp.ofEvents g fn pos es,op.g=g∧(∀m,op.act= .mark m→Neutral m)∧ ∀a,op.act.touch?=some a→a.kind= .plain∧ ∃b,blk a.loc=some b∧Allowed B (Hl g) w.heap.size w'.heap.size a.write b:=by
    intro op hop
    obtain ⟨e,he,rfl⟩:=jcG hop
    refine ⟨rfl,(st.evs e he).word,fun a ha=>⟨?_,(st.evs e he).touch ha⟩⟩
    rcases st.evs e he with rfl|⟨hsy,o⟩
    · cases ha
    · obtain ⟨l,wr,sy⟩:=e
      simp only at hsy
      subst hsy
      cases l with
      |cell x=>
        have:a=⟨.cell x,wr,.plain⟩:=by simpa [MemAct.ofEvent,MemAct.touch?] using ha.symm
        rw [this]
      |obj x=>
        have:a=⟨.obj x,wr,.plain⟩:=by simpa [MemAct.ofEvent,MemAct.touch?] using ha.symm
        rw [this]
      |output=>exact o.elim
      |goroutines=>exact o.elim
      |mark m=>exact o.elim
  --a new touch's block
  have hnew: ∀op∈MemOp.ofEvents g fn pos es,∀a b,op.act.touch?=some a→blk a.loc=some b→Allowed B (Hl g) w.heap.size w'.heap.size a.write b:=fun op hop a b ha hb=>by
    obtain ⟨b',hb',hal⟩:=((hev op hop).2.2 a ha).2
    rw [hb] at hb'
    obtain rfl:=Option.some.inj hb'
    exact hal
  refine ⟨fun said=>noRace_append (T.clean said) (fun op hop=>(hev op hop).1) fun i a ha op hop b hb hc=>?_,fun i a b ha hb=>?_,fun i a b ha hb hlt=>?_,fun i a b ha hb=>?_,fun j c hc i a ha0 hb hor=>?_,fun c hc i a ha0 hb hor=>?_,fun b hb i a ha hl=>?_,fun i x hx hg ht=>?_,
    fun a=>(T.norel a).app fun op hop e=>?_,fun op hop=>?_⟩
  · obtain ⟨bb,hbb,hal⟩:=((hev op hop).2.2 b hb).2
    have e:blk a.loc=some bb:=by rw [hc.1];exact hbb
    rcases hal with hal|⟨d,hd,e',hr⟩|⟨h1,h2⟩
    · have:=T.low i a bb ha e;omega
    · exact T.known g d hd i a ha (by rw [e'];exact e) (hc.2.2.1.symm.imp hr id)
    · have:=T.base i a bb ha e h2
      rcases hc.2.2.1 with h3|h3
      · rw [this] at h3;cases h3
      · rw [h1] at h3;cases h3
  · rcases jbV ha with ha|⟨op,ho,_,hoa⟩
    · exact Nat.lt_of_lt_of_le (T.low i a b ha hb) st.size
    · rcases hnew op ho a b hoa hb with hal|⟨d,hd,e',_⟩|⟨_,h2⟩
      · exact hal.2
      · have:=(hs g).lt hd;have:=st.size;omega
      · have:=(hs g).size;have:=st.size;omega
  · rcases jbV ha with ha|⟨op,ho,_,hoa⟩
    · exact T.base i a b ha hb hlt
    · rcases hnew op ho a b hoa hb with hal|⟨d,hd,e',hr⟩|⟨h1,h2⟩
      · have:=(hs g).size;omega
      · have:=((hs g).mem d hd).1;omega
      · exact h1
  · rcases jbV ha with ha|⟨op,ho,_,hoa⟩
    · exact T.plain i a b ha hb
    · exact .inr ((hev op ho).2.2 a hoa).1
  · rcases jbV ha0 with ha|⟨op,ho,hx,hoa⟩
    · by_cases e:j=g
      · subst e
        rw [updH_same] at hc
        rcases st.key c hc with k|⟨d,hd,e',hr⟩
        · have:=T.low i a c.b ha hb;omega
        · exact (T.known j d hd i a ha (by rw [e'];exact hb) (hor.imp hr id)).app _
      · rw [jar _ _ e] at hc
        exact (T.known j c hc i a ha hb hor).app _
    · by_cases e:j=g
      · subst e
        have:=knows_own hx
        rwa [(hev op ho).1] at this
      · rw [jar _ _ e] at hc
        exfalso
        rcases hnew op ho a c.b hoa hb with hal|⟨d,hd,e',hr⟩|⟨h1,h2⟩
        · have:=(hs j).lt hc;omega
        · exact ap j e c hc d hd (hor.imp id hr) e'.symm
        · have:=((hs j).mem c hc).1;omega
  · rcases jbV ha0 with ha|⟨op,ho,hx,hoa⟩
    · exact (T.pool c hc i a ha hb hor).imp (fun h=>h.app _) fun h g hg=>(h g hg).app _
    · exfalso
      rcases hnew op ho a c.b hoa hb with hal|⟨d,hd,e',hr⟩|⟨h1,h2⟩
      · have:=hsP.lt hc;omega
      · exact apP c hc d hd (hor.imp id hr) e'.symm
      · have:=(hsP.mem c hc).1;omega
  · rcases jbV ha with ha|⟨op,ho,hx,hoa⟩
    · obtain ⟨p1,p2⟩:=T.sh b hb i a ha hl
      exact ⟨fun h g hg=>(p1 h g hg).app _,fun h=>(p2 h).app _⟩
    · exfalso
      have:=hSh b hb
      rcases hnew op ho a b hoa hl with hal|⟨d,hd,e',hr⟩|⟨h1,h2⟩
      · omega
      · exact apS b hb d hd e'
      · omega
  · rcases getElem?_append_cases hx with ⟨hi,hx'⟩|⟨_,hxu⟩
    · exact (T.gone i x hx' hg ((counts_old hi).1 ht)).imp (fun h=>h.app _) fun h=>h.app _
    · exact absurd ((hev x hxu).1▸hg) hL
  · have:=(hev op hop).2.1 _ e;cases this
  · rcases Array.mem_append.1 hop with h|h
    · exact T.gs op h
    · rw [(hev op h).1];exact hgn
theorem jhA {B:Array Obj} {h h':Hp} {w w':World} {es:Array Event} (st:Stp B h h' w w' es) (t:Trace) (g:Nat) (fn:FuncId) (pos:String) (j:Nat):Deaf (t++MemOp.ofEvents g fn pos es) j=Deaf t j:=by
  by_cases e:j=g
  · subst e
    rw [Deaf_own];unfold deafBehind
    have hev: ∀e∈es,∀m,e.loc= .mark m→Neutral m:=fun e he m hm=>(st.evs e he).word m (by obtain ⟨l,a,b⟩:=e;simp only at hm;subst hm;rfl)
    rw [←Array.foldl_toList];have gen: ∀(l:List Event) (d:Nat),(∀e∈l,∀m,e.loc= .mark m→Neutral m)→l.foldl (fun d e=>match e.loc with| .mark .disable=>d+1| .mark .enable=>d-1|_=>d) d=d:=by
      intro l
      induction l with
      |nil=>exact fun _ _=>rfl
      |cons e l ih=>
        intro d hl
        rw [List.foldl_cons];have h1:(match e.loc with| .mark .disable=>d+1| .mark .enable=>d-1|_=>d)=d:=by
          have:=hl e List.mem_cons_self
          split
          · rename_i x;have:=this _ x;cases this
          · rename_i x;have:=this _ x;cases this
          · rfl
        rw [h1];exact ih d fun e he=>hl e (List.mem_cons_of_mem _ he)
    exact gen _ _ fun e he=>hev e (Array.mem_toList_iff.1 he)
  · exact Deaf_other t (fun x=>e x.symm) _ fun op hop=>by obtain ⟨e',_,rfl⟩:=jcG hop;rfl
theorem TJ.share (T:TJ n lim gn Hl Sh [] la wa Gone Live t) (hlv: ∀g,Live g→g=0) (hk: ∀(i:Nat) (x:MemOp),t[i]?=some x→x.g≠0→t.counts i→Knows t 0 i) {Sh':Nat→Prop} {la' wa':Addr} {h' hp:Hp} (hS: ∀b,Sh b→Sh' b)
    (kS: ∀b,Sh' b→Sh b∨ ∃c∈Hl 0,c.b=b∧c.rw=true) (k1: ∀x'∈h',∃x∈Hl 0,x.b=x'.b∧(x'.rw=true→x.rw=true)) (k2: ∀x'∈hp,∃x∈Hl 0,x.b=x'.b∧(x'.rw=true→x.rw=true)):
    TJ n lim gn (updH Hl 0 h') Sh' hp la' wa' (fun g=>g≠0∧Gone' g) Live t:=by
  refine ⟨T.clean,T.low,T.base,fun i a b ha hb=>(T.plain i a b ha hb).imp (hS b) id,fun g c hc i a ha hb hor=>?_,fun c hc i a ha hb hor=> .inr fun g hg=>?_,fun b hb i a ha hl=>?_,fun i x hx hg hct=> .inr (hk i x hx hg.1 hct),T.norel,T.gs⟩
  · by_cases e:g=0
    · subst e
      rw [updH_same] at hc
      obtain ⟨x,hx,e,hr⟩:=k1 c hc
      exact T.known 0 x hx i a ha (by rw [e];exact hb) (hor.imp hr id)
    · rw [jar _ _ e] at hc
      exact T.known g c hc i a ha hb hor
  · obtain rfl:=hlv g hg
    obtain ⟨x,hx,e,hr⟩:=k2 c hc
    exact T.known 0 x hx i a ha (by rw [e];exact hb) (hor.imp hr id)
  · rcases kS b hb with h|⟨c,hc,e,hr⟩
    · exact T.sh b h i a ha hl
    · have:=T.known 0 c hc i a ha (by rw [e];exact hl) (.inl hr)
      exact ⟨fun _ g hg=>by obtain rfl:=hlv g hg;exact this,fun _=>this⟩
theorem TJ.less (T:TJ n lim gn Hl Sh Pool la wa Gone Live t) (hl: ∀g,Live' g→Live g) (hG: ∀g,Gone' g→Gone g):TJ n lim gn Hl Sh Pool la wa Gone' Live' t:=
  ⟨T.clean,T.low,T.base,T.plain,T.known,fun c hc i a ha hb hor=>(T.pool c hc i a ha hb hor).imp id fun h g hg=>h g (hl g hg),fun b hb i a ha hx=>⟨fun h g hg=>(T.sh b hb i a ha hx).1 h g (hl g hg),(T.sh b hb i a ha hx).2⟩,
    fun i x hx hg=>T.gone i x hx (hG _ hg),T.norel,T.gs⟩
theorem jge {t:Trace} {g:Nat} (h: ∀op∈t,op.g≠g):Deaf t g=0:=by
  have gen: ∀i,i≤t.size→t.deaf g i=0:=by
    intro i
    induction i with
    |zero=>exact fun _=>rfl
    |succ i ih=>
      intro hi
      have hlt:i<t.size:=by omega
      rw [deaf_succ (Array.getElem?_eq_getElem hlt),ih (by omega)];have:=h t[i] (Array.getElem_mem hlt)
      unfold deafStep
      split
      · rw [if_neg this]
      · rw [if_neg this]
      · rfl
  exact gen _ (Nat.le_refl _)
theorem TJ.spawn (T:TJ n lim gn Hl Sh Pool la wa Gone Live t) {g:Nat} (hgn:g<gn) (hlv:Live g) (hlv': ∀j,Live' j→Live j∨j=gn) (hlim:lim≤lim') {hg hc:Hp} (k1: ∀x'∈hg,∃x∈Hl g,x.b=x'.b∧(x'.rw=true→x.rw=true)) (k2: ∀x'∈hc,∃x∈Hl g,x.b=x'.b∧(x'.rw=true→x.rw=true))
    (hd:Deaf t g=0) (hG: ¬Gone gn) (fh:FuncId) (ph:String) (fc:FuncId):
    TJ n lim' (gn+1) (updH (updH Hl g hg) gn hc) Sh Pool la wa Gone Live' (t++ #[{g:=g,fn:=fh,pos:=ph,act:= .go gn},{g:=gn,fn:=fc,pos:=ph,act:= .start}]):=by
  have hdc:Deaf t gn=0:=jge fun op hop=>by have:=T.gs op hop;omega
  generalize hu:(#[{g:=g,fn:=fh,pos:=ph,act:= .go gn},{g:=gn,fn:=fc,pos:=ph,act:= .start}]:Trace)=u
  have mem: ∀op∈u,op={g:=g,fn:=fh,pos:=ph,act:= .go gn}∨op={g:=gn,fn:=fc,pos:=ph,act:= .start}:=by
    intro op hop
    subst hu
    simpa using hop
  have hn: ∀op∈u,op.act.touch?=none:=fun op hop=>by rcases mem op hop with rfl|rfl<;>rfl
  have e0:(t++u)[t.size]?=some {g:=g,fn:=fh,pos:=ph,act:= .go gn}:=by subst hu;simp
  have e1:(t++u)[t.size+1]?=some {g:=gn,fn:=fc,pos:=ph,act:= .start}:=by subst hu;simp
  have hh0:(t++u).heard t.size:=⟨g,g?_of e0,by rw [deaf_old (Nat.le_refl _)];exact hd⟩
  have hh1:(t++u).heard (t.size+1):=⟨gn,g?_of e1,by rw [deaf_succ e0,deaf_old (Nat.le_refl _)];exact hdc⟩
  have edge:HappensBefore (t++u) t.size (t.size+1):=Relation.TransGen.single (.inr ⟨.spawn (act?_of e0) (act?_of e1) (g?_of e1),hh0,hh1⟩)
  have told: ∀i a,touchAt (t++u) i=some a→touchAt t i=some a:=fun i a ha=>by
    rcases jbV ha with h|⟨op,ho,_,hoa⟩
    · exact h
    · rw [hn op ho] at hoa;cases hoa
  have pass: ∀i,Knows t g i→Knows (t++u) gn i:=fun i h=>⟨t.size+1,_,e1,rfl,.inr ((h.hb_new (Nat.le_refl _) e0 rfl).trans edge)⟩
  have all: ∀i,(∀j,Live j→Knows t j i)→ ∀j,Live' j→Knows (t++u) j i:=fun i h j hj=>by
    rcases hlv' j hj with e|e
    · exact (h j e).app u
    · subst e;exact pass i (h g hlv)
  refine ⟨fun said=>noRace_appendMute (T.clean said) hn,fun i a b ha hb=>Nat.lt_of_lt_of_le (T.low i a b (told i a ha) hb) hlim,fun i a b ha hb hlt=>T.base i a b (told i a ha) hb hlt,fun i a b ha hb=>T.plain i a b (told i a ha) hb,fun j x hx i a ha hb hor=>?_,
    fun c hc i a ha hb hor=>(T.pool c hc i a (told i a ha) hb hor).imp (fun h=>h.app u) (all i),fun b hb i a ha hl=>?_,fun i x hx hg' ht=>?_,fun a=>(T.norel a).app fun op hop e=>?_,fun op hop=>?_⟩
  · have ha:=told i a ha
    by_cases ec:j=gn
    · subst ec
      rw [updH_same] at hx
      obtain ⟨y,hy,e,hr⟩:=k2 x hx
      exact pass i (T.known g y hy i a ha (by rw [e];exact hb) (hor.imp hr id))
    · rw [jar _ _ ec] at hx
      by_cases eg:j=g
      · subst eg
        rw [updH_same] at hx
        obtain ⟨y,hy,e,hr⟩:=k1 x hx
        exact (T.known j y hy i a ha (by rw [e];exact hb) (hor.imp hr id)).app u
      · rw [jar _ _ eg] at hx
        exact (T.known j x hx i a ha hb hor).app u
  · obtain ⟨p1,p2⟩:=T.sh b hb i a (told i a ha) hl
    exact ⟨fun h=>all i (p1 h),fun h=>(p2 h).app u⟩
  · rcases getElem?_append_cases hx with ⟨hi,hx'⟩|⟨_,hxu⟩
    · exact (T.gone i x hx' hg' ((counts_old hi).1 ht)).imp (fun h=>h.app _) fun h=>h.app _
    · obtain ⟨a,ha,_⟩:=ht
      obtain ⟨z,hz,hza⟩:=touch_of ha
      rw [hx] at hz
      obtain rfl:=Option.some.inj hz
      rw [hn _ hxu] at hza;cases hza
  · rcases mem op hop with rfl|rfl<;>cases e
  · rcases Array.mem_append.1 hop with h|h
    · have:=T.gs op h;omega
    · rcases mem op h with rfl|rfl
      · simp only;omega
      · simp only;omega
theorem TJ.zero {h0:Hp}:TJ n lim gn (fun _=>h0) (fun _=>False) [] la wa Gone Live #[]:=by
  have none: ∀i a,touchAt (#[]:Trace) i=some a→False:=fun i a ha=>by
    obtain ⟨x,hx,_⟩:=touch_of ha
    simp at hx
  exact ⟨fun said=>by rintro ⟨i,j,_,⟨a,b,ha,_⟩,_⟩;exact none i a ha,fun i a b ha=>(none i a ha).elim,fun i a b ha=>(none i a ha).elim,fun i a b ha=>(none i a ha).elim,fun g c _ i a ha=>(none i a ha).elim,fun c hc=>by simp at hc,
    fun b hb=>hb.elim,fun i x hx=>by simp at hx,fun a i=>by simp [Trace.act?],fun op hop=>by simp at hop⟩
end
end Go.Lo
namespace Go.Lo
open Go.Conc
inductive QuietS:Goroutine→Prop
  |runs {g:Goroutine} (h:g.status= .running):QuietS g
  |ended {g:Goroutine} (h:g.status= .finished):QuietS g
  |blocks {g:Goroutine} (h:g.status= .blocked) (ho:g.offers=none):QuietS g
def awoken (g:Goroutine):Goroutine:=if g.status= .blocked then {g with status:= .running} else g
theorem QuietS.woken {P:Program} {g a a':Goroutine} {w:World} (q:QuietS g):woken P a a' w g=if mayWake P a&&a'.status != .blocked&&a'.status != .waiting then awoken g else g:=by
  unfold Conc.woken
  split
  · cases q with
    |runs h=>unfold Goroutine.again awoken;rw [h,if_neg (by decide)]
    |ended h=>unfold Goroutine.again awoken;rw [h,if_neg (by decide)]
    |blocks h ho=>unfold Goroutine.again awoken;rw [h,ho,if_pos rfl]
  · rfl
theorem QuietS.awoken {g:Goroutine} (q:QuietS g):QuietS (awoken g):=by
  unfold Lo.awoken
  split
  · exact .runs rfl
  · exact q
def Later (o o':Os):Prop:= ∃d:Nat,o'={o with wall:=o.wall+d,mono:=o.mono+d}
theorem Later.refl (o:Os):Later o o:=⟨0,rfl⟩
theorem Later.trans {a b c:Os} (h:Later a b) (k:Later b c):Later a c:=by
  obtain ⟨d,rfl⟩:=h
  obtain ⟨e,rfl⟩:=k
  exact ⟨d+e,by simp [Nat.add_assoc]⟩
structure SEff (B:Array Obj) (Shp Shp':Hp) (w w':World):Prop where
  sat: ∀X,Sat B (X++Shp) w→Sat B (X++Shp') w'
  size:w'.heap.size=w.heap.size
  os:Later w.os w'.os
  out:w'.output=w.output
  tape:w'.tape=w.tape
  drawn:w.drawn≤w'.drawn
  old: ∀b,(∀c∈Shp,c.b≠b)→w'.heap[b]?=w.heap[b]?
  keys:Shp'.map (·.b)=Shp.map (·.b)
  rw: ∀c∈Shp',c.rw=true
theorem SEff.refl {B:Array Obj} {Shp:Hp} {w:World} (h: ∀c∈Shp,c.rw=true):SEff B Shp Shp w w:=⟨fun _ s=>s,rfl,.refl _,rfl,rfl,Nat.le_refl _,fun _ _=>rfl,rfl,h⟩
theorem jjS {A C:Hp} (h:A.map (·.b)=C.map (·.b)) (b:Nat):(∃c∈A,c.b=b)↔ ∃c∈C,c.b=b:=by
  have:b∈A.map (·.b)↔b∈C.map (·.b):=by rw [h]
  simpa [List.mem_map] using this
structure CoreS (B:Array Obj) (W:World) (old:Nat→Prop) (Shp Pool:Hp) (la wa:Addr) (Gone Live:Nat→Prop) (gs:Array Goroutine) (w:World) (t:Trace) (Hl:Nat→Hp):Prop where
  sat: ∀i,Sat B (Hl i) w
  satS:Sat B (Pool++Shp) w
  apart: ∀i j,i≠j→ApH (Hl i) (Hl j)
  apS: ∀i,ApH (Pool++Shp) (Hl i)
  shB: ∀c∈Shp,c.rw=true
  oldB: ∀b,old b→(B.size≤b∧b<w.heap.size)∧(∀i,∀c∈Hl i,c.b≠b)∧ ∀c∈Pool,c.b≠b
  tj:TJ B.size w.heap.size gs.size Hl (fun b=>old b∨ ∃c∈Shp,c.b=b) Pool la wa Gone Live t
  far:Later W.os w.os∧w.output=W.output∧w.tape=W.tape
  out: ∀i,gs.size≤i→Hl i=[]
  quiet: ∀(i:Nat) g,gs[i]?=some g→QuietS g
section
variable {P:Program} {B:Array Obj} {W:World} {old:Nat→Prop} {Shp Shp' Pool Pool':Hp} {la wa:Addr} {Gone Gone' Live Live':Nat→Prop} {gs:Array Goroutine} {w w':World} {t:Trace} {Hl Hl':Nat→Hp} {sl:Option (Nat×Nat)}
theorem CoreS.shared (c:CoreS B W old Shp Pool la wa Gone Live gs w t Hl):(∀b,(old b∨ ∃c∈Shp,c.b=b)→B.size≤b∧b<w.heap.size)∧(∀b,(old b∨ ∃c∈Shp,c.b=b)→ ∀g,∀d∈Hl g,d.b≠b)∧ ∀b,(old b∨ ∃c∈Shp,c.b=b)→ ∀d∈Pool,d.b≠b:=by
  refine ⟨fun b hb=>?_,fun b hb g d hd=>?_,fun b hb d hd=>?_⟩
  · rcases hb with hb|⟨x,hx,rfl⟩
    · exact (c.oldB b hb).1
    · exact ⟨(c.satS.mem x (List.mem_append_right _ hx)).1,c.satS.lt (List.mem_append_right _ hx)⟩
  · rcases hb with hb|⟨x,hx,rfl⟩
    · exact (c.oldB b hb).2.1 g d hd
    · exact fun e=>c.apS g x (List.mem_append_right _ hx) d hd (.inl (c.shB x hx)) e.symm
  · rcases hb with hb|⟨x,hx,rfl⟩
    · exact (c.oldB b hb).2.2 d hd
    · exact (List.pairwise_append.1 c.satS.apart).2.2 d hd x hx (.inr (c.shB x hx))
def after (P:Program) (g g':Goroutine) (w':World) (gs:Array Goroutine) (i:Nat):Array Goroutine:=(gs.map (woken P g g' w')).setIfInBounds i g'
theorem jaC {g g':Goroutine} {i:Nat}:(after P g g' w' gs i).size=gs.size:=by unfold after;rw [Array.size_setIfInBounds,Array.size_map]
theorem jaN {g g' x:Goroutine} {i:Nat} (hi:gs[i]?=some x):(after P g g' w' gs i)[i]?=some g':=by
  unfold after
  rw [Array.getElem?_setIfInBounds_self_of_lt (by rw [Array.size_map];exact (Array.getElem?_eq_some_iff.1 hi).1)]
theorem jbY {g g' x:Goroutine} {i j:Nat} (q: ∀(i:Nat) g,gs[i]?=some g→QuietS g) (e:i≠j) (hj:gs[j]?=some x):(after P g g' w' gs i)[j]?=some (if mayWake P g&&g'.status != .blocked&&g'.status != .waiting then awoken x else x):=by
  unfold after
  rw [Array.getElem?_setIfInBounds_ne e,Array.getElem?_map,hj,Option.map_some,(q j x hj).woken]
theorem jep {g g':Goroutine} {i:Nat} (q: ∀(i:Nat) g,gs[i]?=some g→QuietS g) (q':QuietS g'): ∀(j:Nat) x,(after P g g' w' gs i)[j]?=some x→QuietS x:=by
  intro j x hj
  have hlt:j<gs.size:=by have:=(Array.getElem?_eq_some_iff.1 hj).1;rwa [jaC] at this
  have hx:gs[j]?=some gs[j]:=Array.getElem?_eq_getElem hlt
  by_cases e:i=j
  · subst e
    rw [jaN hx] at hj
    exact (Option.some.inj hj)▸q'
  · rw [jbY q e hx] at hj
    obtain rfl:=Option.some.inj hj
    split
    · exact (q j _ hx).awoken
    · exact q j _ hx
theorem CoreS.own (c:CoreS B W old Shp Pool la wa Gone Live gs w t Hl) {i:Nat} {g g':Goroutine} {h':Hp} {es:Array Event} (hi:gs[i]?=some g) (hst:stepG P (i==0) g w= .go g' w' es) (st:Stp B (Hl i) h' w w' es)
    (hG: ¬Gone i) (q:QuietS g'):
    runT P (crowd gs w sl) i=(.next (crowd (after P g g' w' gs i) w' sl),MemOp.ofEvents i g.frame.fn g.frame.place es)∧
      CoreS B W old Shp Pool la wa Gone Live (after P g g' w' gs i) w' (t++MemOp.ofEvents i g.frame.fn g.frame.place es) (updH Hl i h'):=by
  have hlt:i<gs.size:=(Array.getElem?_eq_some_iff.1 hi).1
  obtain ⟨s1,s2,s3⟩:=c.shared
  have keep: ∀(X:Hp),Sat B X w→ApH X (Hl i)→ ∀d∈X,w'.heap[d.b]?=w.heap[d.b]?:=fun X sX ap d hd=>
    st.old d.b (sX.lt hd) fun x hx hr=>fun e=>ap d hd x hx (.inr hr) e.symm
  have satK: ∀(X:Hp),Sat B X w→ApH X (Hl i)→Sat B X w':=fun X sX ap=>⟨st.sat.base,fun d hd=>⟨(sX.mem d hd).1,by rw [keep X sX ap d hd];exact (sX.mem d hd).2⟩,sX.apart⟩
  have one: ∀(X:Hp),Sat B X w→ApH X (Hl i)→ApH X h':=fun X sX ap d hd x hx hor=>by
    rcases st.key x hx with k|⟨y,hy,e,hr⟩
    · have:=sX.lt hd;omega
    · rw [←e];exact ap d hd y hy (hor.imp id hr)
  refine ⟨runT_crowd_go hi hst,fun j=>?_,satK _ c.satS (c.apS i),fun j k hjk=>?_,fun j=>?_,c.shB,fun b hb=>?_,?_,⟨by rw [st.os];exact c.far.1,st.out.trans c.far.2.1,st.tape.trans c.far.2.2⟩,fun j hj=>?_,jep c.quiet q⟩
  · by_cases e:j=i
    · subst e;rw [updH_same];exact st.sat
    · rw [jar _ _ e];exact satK _ (c.sat j) (c.apart j i e)
  · by_cases e1:j=i
    · subst e1
      rw [updH_same,jar _ _ (fun e=>hjk e.symm)];exact (one _ (c.sat k) (c.apart k j fun e=>hjk e.symm)).symm
    · rw [jar _ _ e1];by_cases e2:k=i
      · subst e2;rw [updH_same];exact one _ (c.sat j) (c.apart j k e1)
      · rw [jar _ _ e2];exact c.apart j k hjk
  · by_cases e:j=i
    · subst e;rw [updH_same];exact one _ c.satS (c.apS j)
    · rw [jar _ _ e];exact c.apS j
  · obtain ⟨o1,o2,o3⟩:=c.oldB b hb
    refine ⟨⟨o1.1,Nat.lt_of_lt_of_le o1.2 st.size⟩,fun j d hd=>?_,o3⟩
    by_cases e:j=i
    · subst e
      rw [updH_same] at hd
      rcases st.key d hd with k|⟨y,hy,e,_⟩
      · omega
      · rw [←e];exact o2 j y hy
    · rw [jar _ _ e] at hd;exact o2 j d hd
  · rw [jaC];exact c.tj.own rfl hlt rfl rfl st c.sat ⟨c.satS.base,fun d hd=>c.satS.mem d (List.mem_append_left _ hd),(List.pairwise_append.1 c.satS.apart).1⟩ (fun j hj=>c.apart j i hj) (fun d hd=>c.apS i d (List.mem_append_left _ hd)) s1 (fun b hb=>s2 b hb i) hG _ _
  · rw [jaC] at hj
    rw [jar _ _ (by omega)];exact c.out j hj
theorem CoreS.sync (c:CoreS B W old Shp Pool la wa Gone Live gs w t Hl) {i:Nat} {g g':Goroutine} {es:Array Event} (hi:gs[i]?=some g) (hst:stepG P (i==0) g w= .go g' w' es) (e:SEff B Shp Shp' w w') (q:QuietS g') {hi':Hp}
    (key: ∀x∈hi'++Pool',∃y∈Hl i++Pool,y.b=x.b∧(x.rw=true→y.rw=true)) (sat':Sat B (hi'++Pool'++Shp) w)
    (tj':TJ B.size w.heap.size gs.size (updH Hl i hi') (fun b=>old b∨ ∃c∈Shp,c.b=b) Pool' la wa Gone' Live' (t++MemOp.ofEvents i g.frame.fn g.frame.place es)):
    runT P (crowd gs w sl) i=(.next (crowd (after P g g' w' gs i) w' sl),MemOp.ofEvents i g.frame.fn g.frame.place es)∧
      CoreS B W old Shp' Pool' la wa Gone' Live' (after P g g' w' gs i) w' (t++MemOp.ofEvents i g.frame.fn g.frame.place es) (updH Hl i hi'):=by
  have hlt:i<gs.size:=(Array.getElem?_eq_some_iff.1 hi).1
  have sat2:=e.sat _ sat'
  have keep: ∀j,j≠i→ ∀d∈Hl j,w'.heap[d.b]?=w.heap[d.b]?:=fun j hj d hd=>e.old d.b fun x hx he=>c.apS j x (List.mem_append_right _ hx) d hd (.inl (c.shB x hx)) he
  --what another holds is apart from what goroutine i and the pool hold
  have far': ∀j,j≠i→ApH (hi'++Pool') (Hl j):=fun j hj x hx d hd hor=>by
    obtain ⟨y,hy,e1,hr⟩:=key x hx
    rw [←e1];rcases List.mem_append.1 hy with hy|hy
    · exact c.apart i j (fun e=>hj e.symm) y hy d hd (hor.imp hr id)
    · exact c.apS j y (List.mem_append_left _ hy) d hd (hor.imp hr id)
  have shk: ∀x∈Shp',∃y∈Shp,y.b=x.b:=fun x hx=>(jjS e.keys x.b).1 ⟨x,hx,rfl⟩
  obtain ⟨p1,p2,p3⟩:=List.pairwise_append.1 sat2.apart
  obtain ⟨q1,q2,q3⟩:=List.pairwise_append.1 p1
  have mono: ∀{X:Hp},X.Sublist (hi'++Pool'++Shp')→Sat B X w':=fun {X} hX=>⟨sat2.base,fun d hd=>sat2.mem d (hX.subset hd),sat2.apart.sublist hX⟩
  refine ⟨runT_crowd_go hi hst,fun j=>?_,mono ?_,fun j k hjk=>?_,fun j=>?_,e.rw,fun b hb=>?_,?_,⟨c.far.1.trans e.os,e.out.trans c.far.2.1,e.tape.trans c.far.2.2⟩,fun j hj=>?_,jep c.quiet q⟩
  · by_cases ej:j=i
    · subst ej;rw [updH_same]
      exact mono ((List.sublist_append_left _ _).trans (List.sublist_append_left _ _))
    · rw [jar _ _ ej];exact ⟨sat2.base,fun d hd=>⟨((c.sat j).mem d hd).1,by rw [keep j ej d hd];exact ((c.sat j).mem d hd).2⟩,(c.sat j).apart⟩
  · rw [List.append_assoc];exact List.sublist_append_right _ _
  · by_cases e1:j=i
    · subst e1
      rw [updH_same,jar _ _ (fun e=>hjk e.symm)];exact fun x hx=>far' k (fun e=>hjk e.symm) x (List.mem_append_left _ hx)
    · rw [jar _ _ e1];by_cases e2:k=i
      · subst e2;rw [updH_same]
        exact ApH.symm fun x hx=>far' j e1 x (List.mem_append_left _ hx)
      · rw [jar _ _ e2];exact c.apart j k hjk
  · by_cases ej:j=i
    · subst ej;rw [updH_same]
      intro x hx d hd hor he
      rcases List.mem_append.1 hx with hx|hx
      · exact q3 d hd x hx hor.symm he.symm
      · exact p3 d (List.mem_append_left _ hd) x hx hor.symm he.symm
    · rw [jar _ _ ej];intro x hx d hd hor
      rcases List.mem_append.1 hx with hx|hx
      · exact far' j ej x (List.mem_append_right _ hx) d hd hor
      · obtain ⟨y,hy,e1⟩:=shk x hx
        rw [←e1];exact c.apS j y (List.mem_append_right _ hy) d hd (.inl (c.shB y hy))
  · obtain ⟨o1,o2,o3⟩:=c.oldB b hb
    have hn: ∀x∈hi'++Pool',x.b≠b:=fun x hx=>by
      obtain ⟨y,hy,e1,_⟩:=key x hx
      rw [←e1];rcases List.mem_append.1 hy with hy|hy
      · exact o2 i y hy
      · exact o3 y hy
    refine ⟨⟨o1.1,by rw [e.size];exact o1.2⟩,fun j d hd=>?_,fun d hd=>hn d (List.mem_append_right _ hd)⟩
    by_cases ej:j=i
    · subst ej;rw [updH_same] at hd;exact hn d (List.mem_append_left _ hd)
    · rw [jar _ _ ej] at hd;exact o2 j d hd
  · rw [jaC,e.size];have:(fun b=>old b∨ ∃c∈Shp',c.b=b)=(fun b=>old b∨ ∃c∈Shp,c.b=b):=by
      funext b
      exact propext (or_congr Iff.rfl (jjS e.keys b))
    rw [this];exact tj'
  · rw [jaC] at hj
    rw [jar _ _ (by omega)];exact c.out j hj
end
end Go.Lo
namespace Go.Lo
open Go.Conc
def fineE (Sh:Nat→Prop) (i:Nat) (gone:Prop) (d:Nat) (e:Event):Prop:=
  match e.loc with
  | .cell ad=>e.sync=true∧Sh ad.block∧(gone→0<d)
  | .mark .disable| .mark .enable| .mark (.acquire _)| .mark (.releaseMerge _)| .mark .noRoom| .mark (.extern _)=>True
  | .mark (.read ad)| .mark (.write ad)=>i=0∧Sh ad.block∧ ¬gone
  |_=>False
def jem (d:Nat) (e:Event):Nat:=match e.loc with| .mark .disable=>d+1| .mark .enable=>d-1|_=>d
def jd0 (Sh:Nat→Prop) (i:Nat) (gone:Prop):Nat→List Event→Prop
  |_,[]=>True
  |d,e::l=>fineE Sh i gone d e∧jd0 Sh i gone (jem d e) l
theorem jdE (d:Nat) (l:List Event):deafBehind d l.toArray=l.foldl jem d:=by
  unfold deafBehind
  rw [←Array.foldl_toList];rfl
section
variable {n lim gn:Nat} {Hl:Nat→Hp} {Sh:Nat→Prop} {Pool:Hp} {la wa:Addr} {Gone Live:Nat→Prop} {t:Trace}
theorem TJ.ev (T:TJ n lim gn Hl Sh Pool la wa Gone Live t) {i:Nat} (hg:i<gn) (hlv:Live i) (hSh: ∀b,Sh b→n≤b∧b<lim) (apH: ∀b,Sh b→ ∀g,∀c∈Hl g,c.b≠b) (apP: ∀b,Sh b→ ∀c∈Pool,c.b≠b) {e:Event} {d:Nat} (hd:Deaf t i=d) (f:fineE Sh i (Gone i) d e)
    (fn:FuncId) (pos:String):TJ n lim gn Hl Sh Pool la wa Gone Live (t++ #[{g:=i,fn,pos,act:= .ofEvent e}])∧Deaf (t++ #[{g:=i,fn,pos,act:= .ofEvent e}]) i=jem d e:=by
  refine ⟨T.one _ hg (fun _ _=>hlv) hSh apH apP (fun b hb=>?_) (fun a ha=>?_) fun hG b hb=>?_,?_⟩
  · obtain ⟨l,wr,sy⟩:=e
    cases l with
    |cell ad=>
      obtain ⟨h1,h2,_⟩:=f
      simp only at h1
      subst h1
      have:b=⟨.cell ad,wr,.atomic⟩:=by simpa [MemAct.ofEvent,MemAct.touch?] using hb.symm
      subst this
      exact ⟨⟨_,rfl,h2⟩,.inl rfl⟩
    |mark m=>
      cases m with
      |read ad=>
        obtain ⟨h1,h2,_⟩:=f
        have:b=⟨.cell ad,false,.said⟩:=by simpa [MemAct.ofEvent,MemAct.touch?] using hb.symm
        subst this
        exact ⟨⟨_,rfl,h2⟩,.inr ⟨rfl,h1⟩⟩
      |write ad=>
        obtain ⟨h1,h2,_⟩:=f
        have:b=⟨.cell ad,true,.said⟩:=by simpa [MemAct.ofEvent,MemAct.touch?] using hb.symm
        subst this
        exact ⟨⟨_,rfl,h2⟩,.inr ⟨rfl,h1⟩⟩
      |_=>cases hb
    |_=>exact f.elim
  · obtain ⟨l,wr,sy⟩:=e
    cases l with
    |mark m=>cases m<;>first|(cases ha;done)|exact f.elim
    |cell ad=>cases ha
    |_=>exact f.elim
  · obtain ⟨l,wr,sy⟩:=e
    cases l with
    |cell ad=>
      obtain ⟨h1,h2,h3⟩:=f
      simp only at h1
      subst h1
      have:b=⟨.cell ad,wr,.atomic⟩:=by simpa [MemAct.ofEvent,MemAct.touch?] using hb.symm
      subst this
      exact ⟨rfl,by show 0<Deaf t i;rw [hd];exact h3 hG⟩
    |mark m=>
      cases m with
      |read ad=>exact absurd hG f.2.2
      |write ad=>exact absurd hG f.2.2
      |_=>cases hb
    |_=>exact f.elim
  · rw [Deaf_push,hd];obtain ⟨l,wr,sy⟩:=e
    cases l with
    |mark m=>cases m<;>simp [deafStep,MemAct.ofEvent,jem]
    |cell ad=>simp [deafStep,MemAct.ofEvent,jem]
    |_=>exact f.elim
theorem TJ.evs (T:TJ n lim gn Hl Sh Pool la wa Gone Live t) {i:Nat} (hg:i<gn) (hlv:Live i) (hSh: ∀b,Sh b→n≤b∧b<lim) (apH: ∀b,Sh b→ ∀g,∀c∈Hl g,c.b≠b) (apP: ∀b,Sh b→ ∀c∈Pool,c.b≠b) {d:Nat} (hd:Deaf t i=d) (fn:FuncId) (pos:String):
    ∀(l:List Event),jd0 Sh i (Gone i) d l→TJ n lim gn Hl Sh Pool la wa Gone Live (t++MemOp.ofEvents i fn pos l.toArray):=by
  intro l
  induction l generalizing t d with
  |nil=>intro _;simpa [ofEvents_eq] using T
  |cons e l ih=>
    intro f
    obtain ⟨T1,hd1⟩:=T.ev hg hlv hSh apH apP hd f.1 fn pos
    have:=ih T1 hd1 f.2
    have e1:t++MemOp.ofEvents i fn pos (e::l).toArray=t++ #[{g:=i,fn,pos,act:= .ofEvent e}]++MemOp.ofEvents i fn pos l.toArray:=by
      rw [ofEvents_eq,ofEvents_eq,Array.append_assoc];congr 1
      apply Array.ext'
      simp
    rw [e1];exact this
theorem TJ.mutes (T:TJ n lim gn Hl Sh Pool la wa Gone Live t) {i:Nat} (hg:i<gn) (hSh: ∀b,Sh b→n≤b∧b<lim) (apH: ∀b,Sh b→ ∀g,∀c∈Hl g,c.b≠b) (apP: ∀b,Sh b→ ∀c∈Pool,c.b≠b) (fn:FuncId) (pos:String):
    ∀(l:List Event),(∀e∈l,Event.mute e=true)→TJ n lim gn Hl Sh Pool la wa Gone Live (t++MemOp.ofEvents i fn pos l.toArray):=by
  intro l
  induction l generalizing t with
  |nil=>intro _;simpa [ofEvents_eq] using T
  |cons e l ih=>
    intro f
    have hm:=f e List.mem_cons_self
    have ht:(MemAct.ofEvent e).touch?=none∧ ∀a,MemAct.ofEvent e≠ .mark (.release a):=by
      obtain ⟨lc,wr,sy⟩:=e
      cases lc with
      |mark m=>cases m<;>first|(exfalso;cases hm;done)|exact ⟨rfl,fun a h=>by cases h⟩
      |_=>cases hm
    have T1:=T.one {g:=i,fn,pos,act:= .ofEvent e} hg (fun b hb=>by rw [show MemAct.touch? (MemAct.ofEvent e)=none from ht.1] at hb;cases hb) hSh apH apP (fun b hb=>by rw [show MemAct.touch? (MemAct.ofEvent e)=none from ht.1] at hb;cases hb) ht.2 (fun _ b hb=>by rw [show MemAct.touch? (MemAct.ofEvent e)=none from ht.1] at hb;cases hb)
    have:=ih T1 fun e he=>f e (List.mem_cons_of_mem _ he)
    have e1:t++MemOp.ofEvents i fn pos (e::l).toArray=t++ #[{g:=i,fn,pos,act:= .ofEvent e}]++MemOp.ofEvents i fn pos l.toArray:=by
      rw [ofEvents_eq,ofEvents_eq,Array.append_assoc];congr 1
      apply Array.ext'
      simp
    rw [e1];exact this
end
structure ProS where
  S:Type
  la:Addr
  wa:Addr
  Inv:Hp→Hp→(Nat→Option S)→Prop
  Blk:S→Hp→Prop
  gone:S→Prop
def updS {S:Type} (F:Nat→Option S) (i:Nat) (s:Option S):Nat→Option S:=fun j=>if j=i then s else F j
@[simp] theorem updS_same {S:Type} (F:Nat→Option S) (i:Nat) (s:Option S):updS F i s i=s:=by simp [updS]
theorem jav {S:Type} (F:Nat→Option S) {i j:Nat} (s:Option S) (e:j≠i):updS F i s j=F j:=by simp [updS,e]
inductive SOut (P:Program) (B:Array Obj) (Q:ProS) (i d:Nat) (s:Q.S) (h Shp Pool:Hp) (F:Nat→Option Q.S) (g:Goroutine) (w:World) (K':Nat→Option Q.S→Goroutine→Hp→Prop):GStep→Prop
  |act {g':Goroutine} {w':World} {l:List Event} {Shp':Hp} {o:Option Q.S} (e:SEff B Shp Shp' w w') (wk:Shp'=Shp∨mayWake P g=true) (hs:g'.status= .running) (f:jd0 (fun b=> ∃c∈Shp,c.b=b) i (Q.gone s) d l)
      (hgo: ∀s',o=some s'→(Q.gone s'↔Q.gone s)) (hno:o=none→Q.gone s∧h=[]) (inv:Q.Inv Shp' Pool (updS F i o)) (k:K' (l.foldl jem d) o g' h):SOut P B Q i d s h Shp Pool F g w K' (.go g' w' l.toArray)
  |take {g':Goroutine} {s':Q.S} (hs:g'.status= .running) (hd:d=0) (hg: ¬Q.gone s∧ ¬Q.gone s') (inv:Q.Inv Shp [] (updS F i (some s'))) (k:K' d (some s') g' (h++Pool)):SOut P B Q i d s h Shp Pool F g w K' (.go g' w #[⟨.mark (.acquire Q.la),false,true⟩])
  |put {g':Goroutine} {s':Q.S} {hr hp:Hp} (hs:g'.status= .running) (hd:d=0) (hg: ¬Q.gone s∧ ¬Q.gone s') (hP:Pool=[]) (eh:Weak B h (hr++hp)) (inv:Q.Inv Shp hp (updS F i (some s'))) (k:K' d (some s') g' hr):SOut P B Q i d s h Shp Pool F g w K' (.go g' w #[⟨.mark (.releaseMerge Q.la),false,true⟩])
  |bye {g':Goroutine} {s':Q.S} (hs:g'.status= .running) (hd:d=0) (hg: ¬Q.gone s∧Q.gone s') (hi:i≠0) (inv:Q.Inv Shp Pool (updS F i (some s'))) (k:K' d (some s') g' []):SOut P B Q i d s h Shp Pool F g w K' (.go g' w #[⟨.mark (.releaseMerge Q.wa),false,true⟩])
  |block (hb:Q.Blk s Shp):SOut P B Q i d s h Shp Pool F g w K' (.go {g with status:= .blocked} w #[])
end Go.Lo
namespace Go.Lo
structure Wd where
  l:Bool
  w:Bool
  s:Bool
  n:Nat
def b01 (b:Bool):Nat:=if b then 1 else 0
@[simp] theorem b01_true:b01 true=1:=rfl
@[simp] theorem b01_false:b01 false=0:=rfl
def Wd.val (x:Wd):Nat:=b01 x.l+2*b01 x.w+4*b01 x.s+8*x.n
theorem Wd.inj {x y:Wd} (h:x.val=y.val):x=y:=by
  obtain ⟨a,b,c,n⟩:=x
  obtain ⟨a',b',c',n'⟩:=y
  cases a<;>cases b<;>cases c<;>cases a'<;>cases b'<;>cases c'<;>simp [Wd.val] at h⊢ <;>omega
inductive LS where
  |rest (r:Nat)
  |out
  |look (aw:Bool) (k:Nat)
  |try_ (aw:Bool) (old:Wd) (k:Nat)
  |wait (k:Nat)
  |woken (k:Nat)
  |handed (m:Nat)
  |hold (q:Nat)
  |seek (k:Nat)
  |unl (old:Wd) (k:Nat)
  |post
  |fin
def LS.phi:LS→Nat
  | .rest r=>6*r
  | .out=>6
  | .look aw _=>6-b01 aw
  | .try_ aw _ _=>6-b01 aw
  | .wait _=>4
  | .woken _=>5
  | .handed _=>4
  | .hold _=>3
  | .seek _=>2
  | .unl _ _=>2
  | .post=>1
  | .fin=>0
def LS.cL:LS→Nat| .hold _=>1|_=>0
def LS.cT:LS→Nat| .look aw _=>b01 aw| .try_ aw _ _=>b01 aw|_=>0
def LS.cK:LS→Nat| .woken _=>1|_=>0
def LS.cQ:LS→Nat| .wait _=>1|_=>0
def LS.cR:LS→Nat| .post=>1|_=>0
def LS.cH:LS→Nat| .handed _=>1|_=>0
def LS.cU:LS→Nat| .seek _=>1| .unl _ _=>1|_=>0
def LS.ok (x:Wd) (p:Nat):LS→Prop
  | .look _ k=>p≤k
  | .try_ aw old k=>p≤k∧(x≠old→p<k)∧(aw=true→old.w=true∧old.s=false)
  | .wait k=>p≤k
  | .woken k=>p≤k
  | .handed m=>1≤m∧m≤x.n
  | .seek k=>p≤k
  | .unl old k=>p≤k∧(x≠old→p<k)∧old.l=false∧old.w=false∧old.s=false∧0<old.n
  |_=>True
section
variable {α:Type}
def tot (f:α→Nat) (G:Nat→α):Nat→Nat
  |0=>0
  |n+1=>tot f G n+f (G n)
def updF (G:Nat→α) (i:Nat) (a:α):Nat→α:=fun j=>if j=i then a else G j
@[simp] theorem updF_same (G:Nat→α) (i:Nat) (a:α):updF G i a i=a:=by simp [updF]
theorem jbv (G:Nat→α) {i j:Nat} (a:α) (e:j≠i):updF G i a j=G j:=by simp [updF,e]
theorem jhL {f:α→Nat} {G G':Nat→α}: ∀{n:Nat},(∀j,j<n→f (G j)=f (G' j))→tot f G n=tot f G' n
  |0,_=>rfl
  |n+1,h=>by simp only [tot];rw [jhL fun j hj=>h j (by omega),h n (by omega)]
theorem jbi {f:α→Nat} {G:Nat→α} {i:Nat} {a:α}: ∀{n:Nat},i<n→tot f (updF G i a) n+f (G i)=tot f G n+f a
  |0,h=>by omega
  |n+1,h=>by
    simp only [tot]
    by_cases e:i=n
    · subst e
      rw [updF_same,jhL (G':=G) fun j hj=>by rw [jbv _ _ (by omega)]];omega
    · have:=jbi (f:=f) (G:=G) (i:=i) (a:=a) (n:=n) (by omega)
      rw [jbv _ _ (fun x=>e x.symm)];omega
theorem jcB {f:α→Nat} {G:Nat→α} {i:Nat}: ∀{n:Nat},i<n→f (G i)≤tot f G n
  |0,h=>by omega
  |n+1,h=>by
    simp only [tot]
    by_cases e:i=n
    · subst e;omega
    · have:=jcB (f:=f) (G:=G) (i:=i) (n:=n) (by omega)
      omega
theorem jiM {f:α→Nat} {G:Nat→α}: ∀{n:Nat},0<tot f G n→ ∃i,i<n∧0<f (G i)
  |0,h=>by simp [tot] at h
  |n+1,h=>by
    simp only [tot] at h
    by_cases e:0<f (G n)
    · exact ⟨n,by omega,e⟩
    · obtain ⟨i,h1,h2⟩:=jiM (f:=f) (G:=G) (n:=n) (by omega)
      exact ⟨i,by omega,h2⟩
theorem jiN {f:α→Nat} {G:Nat→α} {n:Nat} (h: ∀j,n≤j→f (G j)=0): ∀{m:Nat},n≤m→tot f G m=tot f G n
  |0,hm=>by
                obtain rfl:n=0:=by omega
                rfl
  |m+1,hm=>by
    by_cases e:n=m+1
    · rw [e]
    · simp only [tot]
      rw [jiN h (m:=m) (by omega),h m (by omega)];rfl
theorem tot_le {f g:α→Nat} (h: ∀a,f a≤g a) {G:Nat→α}: ∀{n:Nat},tot f G n≤tot g G n
  |0=>Nat.le_refl _
  |n+1=>by
    simp only [tot]
    have:=tot_le h (G:=G) (n:=n)
    have:=h (G n)
    omega
theorem jcC {f g:α→Nat} {G:Nat→α}: ∀{n:Nat},tot (fun a=>f a+g a) G n=tot f G n+tot g G n
  |0=>rfl
  |n+1=>by
    simp only [tot]
    have:=jcC (f:=f) (g:=g) (G:=G) (n:=n)
    omega
end
structure Cts where
  L:Nat
  T:Nat
  K:Nat
  Q:Nat
  R:Nat
  H:Nat
  U:Nat
def jbM (G:Nat→LS) (N:Nat):Cts:=⟨tot LS.cL G N,tot LS.cT G N,tot LS.cK G N,tot LS.cQ G N,tot LS.cR G N,tot LS.cH G N,tot LS.cU G N⟩
structure Fits (x:Wd) (sm:Nat) (c:Cts):Prop where
  hL:c.L=b01 x.l
  nS:x.s=false→b01 x.w=c.T+c.K+sm+c.R∧c.H=0∧x.n+sm+c.R=c.Q
  yS:x.s=true→x.w=false∧c.T=0∧x.n=c.Q+c.K+c.H∧1≤x.n∧sm+c.R+c.K+c.H+b01 x.l=1
  hU:x.s=false→x.l=false→x.w=false→0<x.n→0<c.U
structure Moves (a b:LS) (c c':Cts):Prop where
  L:c'.L+a.cL=c.L+b.cL
  T:c'.T+a.cT=c.T+b.cT
  K:c'.K+a.cK=c.K+b.cK
  Q:c'.Q+a.cQ=c.Q+b.cQ
  R:c'.R+a.cR=c.R+b.cR
  H:c'.H+a.cH=c.H+b.cH
  U:c'.U+a.cU=c.U+b.cU
theorem jmb {G:Nat→LS} {i N:Nat} (hi:i<N) (b:LS):Moves (G i) b (jbM G N) (jbM (updF G i b) N):=
  ⟨jbi hi,jbi hi,jbi hi,jbi hi,jbi hi,jbi hi,jbi hi⟩
def Phi (G:Nat→LS) (N sm:Nat):Nat:=tot LS.phi G N+sm
structure LockInv (top:Nat) (x:Wd) (sm N:Nat) (G:Nat→LS):Prop where
  fits:Fits x sm (jbM G N)
  ok: ∀j,j<N→(G j).ok x (Phi G N sm)
  bd:Phi G N sm≤top
section
variable {top sm sm' N i k:Nat} {x x':Wd} {G:Nat→LS} {a b:LS}
theorem Phi_upd (hi:i<N) (b:LS):Phi (updF G i b) N sm'+((G i).phi+sm)=Phi G N sm+(b.phi+sm'):=by
  have:=jbi (f:=LS.phi) (G:=G) (a:=b) hi
  unfold Phi;omega
theorem LS.ok_mono {p p':Nat} (h:a.ok x p) (hp:p'≤p) (hx:x'≠x→p'<p) (hn:x.n≤x'.n∨a.cH=0):a.ok x' p':=by
  cases a with
  |look aw k=>exact Nat.le_trans hp h
  |try_ aw old k=>
    refine ⟨Nat.le_trans hp h.1,fun hne=>?_,h.2.2⟩
    by_cases e:x=old
    · have:=hx (by rw [e];exact hne)
      have:=h.1
      omega
    · have:=h.2.1 e
      omega
  |wait k=>exact Nat.le_trans hp h
  |woken k=>exact Nat.le_trans hp h
  |handed m=>
    refine ⟨h.1,?_⟩
    rcases hn with hn|hn
    · exact Nat.le_trans h.2 hn
    · simp [LS.cH] at hn
  |seek k=>exact Nat.le_trans hp h
  |unl old k=>
    refine ⟨Nat.le_trans hp h.1,fun hne=>?_,h.2.2⟩
    by_cases e:x=old
    · have:=hx (by rw [e];exact hne)
      have:=h.1
      omega
    · have:=h.2.1 e
      omega
  |_=>trivial
theorem LockInv.go (I:LockInv top x sm N G) (hi:i<N) (ha:G i=a) (b:LS) (x':Wd) (sm':Nat) (hp:b.phi+sm'≤a.phi+sm) (hx:x'≠x→b.phi+sm'<a.phi+sm)
    (hn:x.n≤x'.n∨(jbM G N).H=a.cH) (hb: ∀p',p'+(a.phi+sm)=Phi G N sm+(b.phi+sm')→b.ok x' p') (hc: ∀c c',Moves a b c c'→Fits x sm c→Fits x' sm' c'):LockInv top x' sm' N (updF G i b):=by
  have e:=Phi_upd (sm:=sm) (sm':=sm') (G:=G) hi b
  rw [ha] at e
  refine ⟨hc _ _ (ha▸jmb hi b) I.fits,fun j hj=>?_,by have:=I.bd;omega⟩
  by_cases ej:j=i
  · subst ej
    rw [updF_same];exact hb _ e
  · rw [jbv _ _ ej];refine LS.ok_mono (I.ok j hj) (by omega) (fun h=>by have:=hx h;omega) (hn.imp id fun h=>?_)
    have h1:=jbi (f:=LS.cH) (G:=G) (a:= .fin) hi
    have h2:=jcB (f:=LS.cH) (G:=updF G i .fin) hj
    rw [jbv _ _ ej] at h2
    rw [ha] at h1
    have h3:tot LS.cH G N=a.cH:=h
    have h4:LS.cH .fin=0:=rfl
    omega
theorem LockInv.has (I:LockInv top x sm N G) (hi:i<N) (ha:G i=a):Fits x sm (jbM G N)∧a.cL≤(jbM G N).L∧a.cT≤(jbM G N).T∧a.cK≤(jbM G N).K∧a.cQ≤(jbM G N).Q∧a.cR≤(jbM G N).R∧a.cH≤(jbM G N).H∧a.cU≤(jbM G N).U∧a.phi+sm≤Phi G N sm∧a.ok x (Phi G N sm):=by
  refine ⟨I.fits,?_,?_,?_,?_,?_,?_,?_,?_,?_⟩
  · rw [←ha];exact jcB hi
  · rw [←ha];exact jcB hi
  · rw [←ha];exact jcB hi
  · rw [←ha];exact jcB hi
  · rw [←ha];exact jcB hi
  · rw [←ha];exact jcB hi
  · rw [←ha];exact jcB hi
  · have:=jcB (f:=LS.phi) (G:=G) hi
    rw [ha] at this
    unfold Phi;omega
  · rw [←ha];exact I.ok i hi
end
end Go.Lo
namespace Go.Lo
section
variable {top sm N i k m q:Nat} {x old:Wd} {G:Nat→LS} {aw sv:Bool}
theorem LockInv.fast (I:LockInv top x sm N G) (hi:i<N) (ha:G i= .out) (hx:x.val=0):LockInv top ⟨true,false,false,0⟩ sm N (updF G i (.hold 0)):=by
  have hx:x=⟨false,false,false,0⟩:=Wd.inj (by simpa [Wd.val] using hx)
  subst hx
  refine I.go hi ha (.hold 0) _ sm (by simp [LS.phi]) (fun _=>by simp [LS.phi]) (.inl (Nat.le_refl _)) (fun _ _=>trivial) fun c c' ⟨h1,h2,h3,h4,h5,h6,h7⟩ ⟨f1,f2,f3,f4⟩=>?_
  simp [LS.cL,LS.cT,LS.cK,LS.cQ,LS.cR,LS.cH,LS.cU] at h1 h2 h3 h4 h5 h6 h7 f1 f2
  refine ⟨?_,?_,?_,?_⟩<;>simp<;>omega
theorem LockInv.slow (I:LockInv top x sm N G) (hi:i<N) (ha:G i= .out):LockInv top x sm N (updF G i (.look false (Phi G N sm))):=by
  refine I.go hi ha (.look false (Phi G N sm)) x sm (by simp [LS.phi]) (fun h=>absurd rfl h) (.inl (Nat.le_refl _)) (fun p' e=>?_) fun c c' ⟨h1,h2,h3,h4,h5,h6,h7⟩ ⟨f1,f2,f3,f4⟩=>?_
  · simp [LS.phi] at e
    exact Nat.le_of_eq e
  · simp [LS.cL,LS.cT,LS.cK,LS.cQ,LS.cR,LS.cH,LS.cU] at h1 h2 h3 h4 h5 h6 h7
    exact ⟨by rw [h1];exact f1,by rw [h2,h3,h4,h5,h6];exact f2,by rw [h2,h3,h4,h5,h6];exact f3,by rw [h7];exact f4⟩
theorem LockInv.load (I:LockInv top x sm N G) (hi:i<N) (ha:G i= .look aw k):LockInv top x sm N (updF G i (.try_ aw x k)):=by
  obtain ⟨⟨f1,f2,f3,f4⟩,g1,g2,g3,g4,g5,g6,g7,g8,g9⟩:=I.has hi ha
  refine I.go hi ha (.try_ aw x k) x sm (by simp [LS.phi]) (fun h=>absurd rfl h) (.inl (Nat.le_refl _)) (fun p' e=>⟨?_,fun h=>absurd rfl h,fun h=>?_⟩) fun c c' ⟨h1,h2,h3,h4,h5,h6,h7⟩ ⟨f1,f2,f3,f4⟩=>?_
  · simp [LS.phi] at e
    have:Phi G N sm≤k:=g9
    omega
  · subst h
    simp [LS.cT] at g2
    obtain ⟨l,w,s,n⟩:=x
    cases s with
    |false=>
      have:=(f2 rfl).1
      cases w<;>simp at this⊢
      omega
    |true=>
      have:=(f3 rfl).2.1
      omega
  · simp [LS.cL,LS.cT,LS.cK,LS.cQ,LS.cR,LS.cH,LS.cU] at h1 h2 h3 h4 h5 h6 h7
    exact ⟨by rw [h1];exact f1,by rw [h2,h3,h4,h5,h6];exact f2,by rw [h2,h3,h4,h5,h6];exact f3,by rw [h7];exact f4⟩
theorem LockInv.casNo (I:LockInv top x sm N G) (hi:i<N) (ha:G i= .try_ aw old k) (hne:x≠old):0<k∧LockInv top x sm N (updF G i (.look aw (k-1))):=by
  obtain ⟨_,_,_,_,_,_,_,_,g8,g9⟩:=I.has hi ha
  have:=g9.2.1 hne
  refine ⟨by omega,I.go hi ha (.look aw (k-1)) x sm (by simp [LS.phi]) (fun h=>absurd rfl h) (.inl (Nat.le_refl _)) (fun p' e=>?_) fun c c' ⟨h1,h2,h3,h4,h5,h6,h7⟩ ⟨f1,f2,f3,f4⟩=>?_⟩
  · simp [LS.phi] at e
    show p'≤k-1
    omega
  · simp [LS.cL,LS.cT,LS.cK,LS.cQ,LS.cR,LS.cH,LS.cU] at h1 h2 h3 h4 h5 h6 h7
    exact ⟨by rw [h1];exact f1,by rw [h2,h3,h4,h5,h6];exact f2,by rw [h2,h3,h4,h5,h6];exact f3,by rw [h7];exact f4⟩
theorem LockInv.take (I:LockInv top x sm N G) (hi:i<N) (ha:G i= .try_ aw x k) (hl:x.l=false) (hs:x.s=false):LockInv top ⟨true,x.w&&!aw,false,x.n⟩ sm N (updF G i (.hold 0)):=by
  obtain ⟨l,w,s,n⟩:=x
  dsimp only at hl hs
  subst hl hs
  obtain ⟨_,_,g2,_,_,_,_,_,_,g9⟩:=I.has hi ha
  refine I.go hi ha (.hold 0) _ sm (by cases aw<;>simp [LS.phi]) (fun _=>by cases aw<;>simp [LS.phi]) (.inl (Nat.le_refl _)) (fun _ _=>trivial) fun c c' ⟨h1,h2,h3,h4,h5,h6,h7⟩ ⟨f1,f2,f3,f4⟩=>?_
  have f2:=f2 rfl
  simp [LS.cL,LS.cT,LS.cK,LS.cQ,LS.cR,LS.cH,LS.cU] at h1 h2 h3 h4 h5 h6 h7 f1 f2
  refine ⟨?_,fun _=>?_,fun h=>by simp at h,fun _ h=>by simp at h⟩
  · simp;omega
  · have:=g9.2.2
    cases aw with
    |false=>cases w<;>simp at h2 f2⊢ <;>omega
    |true=>
      have hw:w=true:=(this rfl).1
      subst hw
      simp at h2 f2⊢
      omega
theorem LockInv.queue (I:LockInv top x sm N G) (hi:i<N) (ha:G i= .try_ aw x k) (hls:x.l=true∨x.s=true) (hsv:sv=true→aw=true):
    0<k∧LockInv top ⟨x.l,x.w&&!aw,x.s||(sv&&x.l),x.n+1⟩ sm N (updF G i (.wait (k-1))):=by
  obtain ⟨l,w,s,n⟩:=x
  dsimp only at hls⊢
  obtain ⟨_,_,_,_,_,_,_,_,g8,g9⟩:=I.has hi ha
  have hk:=g9.1
  have hp:5≤LS.phi (.try_ aw ⟨l,w,s,n⟩ k):=by cases aw<;>simp [LS.phi]
  refine ⟨by omega,I.go hi ha (.wait (k-1)) _ sm (by show 4+sm≤_;omega) (fun _=>by show 4+sm<_;omega) (.inl (Nat.le_succ _)) (fun p' e=>?_) fun c c' ⟨h1,h2,h3,h4,h5,h6,h7⟩ ⟨f1,f2,f3,f4⟩=>?_⟩
  · have e4:LS.phi (.wait (k-1))=4:=rfl
    show p'≤k-1
    omega
  · have hw:=g9.2.2
    simp only [LS.cL,LS.cT,LS.cK,LS.cQ,LS.cR,LS.cH,LS.cU] at h1 h2 h3 h4 h5 h6 h7
    cases s with
    |true=>
      have haw:aw=false:=by
        cases aw with
        |false=>rfl
        |true=>exact absurd (hw rfl).2 (by simp)
      subst haw
      have f3:=f3 rfl
      simp at h1 h2 h3 h4 h5 h6 h7 f1 f3
      refine ⟨by simp [h1,f1],fun h=>by simp at h,fun _=>?_,fun h=>by simp at h⟩
      simp
      exact ⟨f3.1,by omega⟩
    |false=>
      have hl:l=true:=by simpa using hls
      subst hl
      have f2:=f2 rfl
      cases aw with
      |true=>
        have hww:w=true:=(hw rfl).1
        subst hww
        cases sv with
        |true=>
          simp at h1 h2 h3 h4 h5 h6 h7 f1 f2
          refine ⟨by simp [h1,f1],fun h=>by simp at h,fun _=>?_,fun h=>by simp at h⟩
          simp
          omega
        |false=>
          simp at h1 h2 h3 h4 h5 h6 h7 f1 f2
          refine ⟨by simp [h1,f1],fun _=>?_,fun h=>by simp at h,fun _ h=>by simp at h⟩
          simp
          omega
      |false=>
        have hsv':sv=false:=by
          cases sv with
          |false=>rfl
          |true=>exact absurd (hsv rfl) (by simp)
        subst hsv'
        simp at h1 h2 h3 h4 h5 h6 h7 f1 f2
        refine ⟨by simp [h1,f1],fun _=>?_,fun h=>by simp at h,fun _ h=>by simp at h⟩
        simp
        omega
theorem LockInv.spin (I:LockInv top x sm N G) (hi:i<N) (ha:G i= .try_ false x k) (hl:x.l=true) (hs:x.s=false) (hw:x.w=false):0<k∧LockInv top ⟨true,true,false,x.n⟩ sm N (updF G i (.look true (k-1))):=by
  obtain ⟨l,w,s,n⟩:=x
  dsimp only at hl hs hw
  subst hl hs hw
  obtain ⟨_,_,_,_,_,_,_,_,g8,g9⟩:=I.has hi ha
  have hk:=g9.1
  simp [LS.phi] at g8
  refine ⟨by omega,I.go hi ha (.look true (k-1)) _ sm (by simp [LS.phi]) (fun _=>by simp [LS.phi]) (.inl (Nat.le_refl _)) (fun p' e=>?_) fun c c' ⟨h1,h2,h3,h4,h5,h6,h7⟩ ⟨f1,f2,f3,f4⟩=>?_⟩
  · simp [LS.phi] at e
    show p'≤k-1
    omega
  · have f2:=f2 rfl
    simp [LS.cL,LS.cT,LS.cK,LS.cQ,LS.cR,LS.cH,LS.cU] at h1 h2 h3 h4 h5 h6 h7 f1 f2
    refine ⟨by simp [h1,f1],fun _=>?_,fun h=>by simp at h,fun _ h=>by simp at h⟩
    simp
    omega
theorem LockInv.again (I:LockInv top x sm N G) (hi:i<N) (ha:G i= .try_ aw old k):LockInv top x sm N (updF G i (.look aw k)):=by
  obtain ⟨_,_,_,_,_,_,_,_,g8,g9⟩:=I.has hi ha
  refine I.go hi ha (.look aw k) x sm (by simp [LS.phi]) (fun h=>absurd rfl h) (.inl (Nat.le_refl _)) (fun p' e=>?_) fun c c' ⟨h1,h2,h3,h4,h5,h6,h7⟩ ⟨f1,f2,f3,f4⟩=>?_
  · simp [LS.phi] at e
    have:=g9.1
    show p'≤k
    omega
  · simp [LS.cL,LS.cT,LS.cK,LS.cQ,LS.cR,LS.cH,LS.cU] at h1 h2 h3 h4 h5 h6 h7
    exact ⟨by rw [h1];exact f1,by rw [h2,h3,h4,h5,h6];exact f2,by rw [h2,h3,h4,h5,h6];exact f3,by rw [h7];exact f4⟩
theorem LockInv.pass (I:LockInv top x (sm+1) N G) (hi:i<N) (ha:G i= .wait k):LockInv top x sm N (updF G i (.woken k)):=by
  obtain ⟨_,_,_,_,_,_,_,_,g8,g9⟩:=I.has hi ha
  refine I.go hi ha (.woken k) x sm (by simp [LS.phi];omega) (fun h=>absurd rfl h) (.inl (Nat.le_refl _)) (fun p' e=>?_) fun c c' ⟨h1,h2,h3,h4,h5,h6,h7⟩ ⟨f1,f2,f3,f4⟩=>?_
  · simp [LS.phi] at e
    have:Phi G N (sm+1)≤k:=g9
    show p'≤k
    omega
  · simp [LS.cL,LS.cT,LS.cK,LS.cQ,LS.cR,LS.cH,LS.cU] at h1 h2 h3 h4 h5 h6 h7
    refine ⟨by rw [h1];exact f1,fun hs=>?_,fun hs=>?_,by rw [h7];exact f4⟩
    · have:=f2 hs;omega
    · have:=f3 hs
      refine ⟨this.1,?_,?_,?_,?_⟩<;>omega
theorem LockInv.awake (I:LockInv top x sm N G) (hi:i<N) (ha:G i= .woken k) (hs:x.s=false):LockInv top x sm N (updF G i (.try_ true x k)):=by
  obtain ⟨⟨f1,f2,f3,f4⟩,g1,g2,g3,g4,g5,g6,g7,g8,g9⟩:=I.has hi ha
  refine I.go hi ha (.try_ true x k) x sm (by simp [LS.phi]) (fun h=>absurd rfl h) (.inl (Nat.le_refl _)) (fun p' e=>⟨?_,fun h=>absurd rfl h,fun _=>⟨?_,hs⟩⟩) fun c c' ⟨h1,h2,h3,h4,h5,h6,h7⟩ ⟨f1,f2,f3,f4⟩=>?_
  · simp [LS.phi] at e
    have:Phi G N sm≤k:=g9
    omega
  · have:=(f2 hs).1
    simp [LS.cK] at g3
    cases hw:x.w with
    |true=>rfl
    |false=>
      rw [hw] at this
      simp at this
      omega
  · simp [LS.cL,LS.cT,LS.cK,LS.cQ,LS.cR,LS.cH,LS.cU] at h1 h2 h3 h4 h5 h6 h7
    refine ⟨by rw [h1];exact f1,fun hs=>?_,fun hs'=>by (rw [hs] at hs';cases hs'),by rw [h7];exact f4⟩
    have:=f2 hs
    omega
theorem LockInv.given (I:LockInv top x sm N G) (hi:i<N) (ha:G i= .woken k) (hs:x.s=true):x.l=false∧x.w=false∧1≤x.n∧LockInv top x sm N (updF G i (.handed x.n)):=by
  obtain ⟨⟨f1,f2,f3,f4⟩,g1,g2,g3,g4,g5,g6,g7,g8,g9⟩:=I.has hi ha
  obtain ⟨e1,e2,e3,e4,e5⟩:=f3 hs
  simp [LS.cK] at g3
  have hl:x.l=false:=by
    cases hl:x.l with
    |false=>rfl
    |true=>rw [hl] at e5;simp at e5;omega
  refine ⟨hl,e1,e4,I.go hi ha (.handed x.n) x sm (by simp [LS.phi]) (fun h=>absurd rfl h) (.inl (Nat.le_refl _)) (fun p' e=>⟨e4,Nat.le_refl _⟩) fun c c' ⟨h1,h2,h3,h4,h5,h6,h7⟩ ⟨f1,f2,f3,f4⟩=>?_⟩
  simp [LS.cL,LS.cT,LS.cK,LS.cQ,LS.cR,LS.cH,LS.cU] at h1 h2 h3 h4 h5 h6 h7
  refine ⟨by rw [h1];exact f1,fun hs'=>by (rw [hs] at hs';cases hs'),fun hs=>?_,by rw [h7];exact f4⟩
  have:=f3 hs
  refine ⟨this.1,?_,?_,?_,?_⟩<;>omega
theorem LockInv.accept (I:LockInv top x sm N G) (hi:i<N) (ha:G i= .handed m) (e:Bool) (he:e=false→2≤m):
    x.l=false∧x.w=false∧x.s=true∧1≤x.n∧LockInv top ⟨true,false,!e,x.n-1⟩ sm N (updF G i (.hold 0)):=by
  obtain ⟨⟨f1,f2,f3,f4⟩,g1,g2,g3,g4,g5,g6,g7,g8,g9⟩:=I.has hi ha
  simp [LS.cH] at g6
  have hs:x.s=true:=by
    cases hs:x.s with
    |true=>rfl
    |false=>have:=(f2 hs).2.1;omega
  obtain ⟨e1,e2,e3,e4,e5⟩:=f3 hs
  have hl:x.l=false:=by
    cases hl:x.l with
    |false=>rfl
    |true=>rw [hl] at e5;simp at e5;omega
  have hm:m≤x.n:=g9.2
  refine ⟨hl,e1,hs,e4,I.go hi ha (.hold 0) _ sm (by simp [LS.phi]) (fun _=>by simp [LS.phi]) (.inr ?_) (fun _ _=>trivial) fun c c' ⟨h1,h2,h3,h4,h5,h6,h7⟩ ⟨f1,f2,f3,f4⟩=>?_⟩
  · simp only [LS.cH];omega
  · simp [LS.cL,LS.cT,LS.cK,LS.cQ,LS.cR,LS.cH,LS.cU] at h1 h2 h3 h4 h5 h6 h7
    have f3:=f3 hs
    rw [hl] at f1 f3
    simp at f1 f3
    cases e with
    |true=>
      refine ⟨by simp;omega,fun _=>?_,fun h=>by simp at h,fun _ h=>by simp at h⟩
      simp
      omega
    |false=>
      have:=he rfl
      refine ⟨by simp;omega,fun h=>by simp at h,fun _=>?_,fun h=>by simp at h⟩
      simp
      omega
def LS.behind (x:Wd) (k:Nat):LS:=if x.s=true then .post else if x.n=0∨x.w=true then .fin else .unl x k
theorem LockInv.give (I:LockInv top x sm N G) (hi:i<N) (ha:G i= .hold q):x.l=true∧LockInv top {x with l:=false} sm N (updF G i (.behind {x with l:=false} (Phi G N sm))):=by
  obtain ⟨⟨f1,f2,f3,f4⟩,g1,g2,g3,g4,g5,g6,g7,g8,g9⟩:=I.has hi ha
  simp [LS.cL] at g1
  have hl:x.l=true:=by
    cases hl:x.l with
    |true=>rfl
    |false=>rw [hl] at f1;simp at f1;omega
  obtain ⟨l,w,s,n⟩:=x
  dsimp only at hl f1 f2 f3 f4⊢
  subst hl
  refine ⟨rfl,?_⟩
  have hphi:LS.phi (.hold q)=3:=rfl
  cases s with
  |true=>
    refine I.go hi ha .post _ sm (by simp [LS.phi]) (fun _=>by simp [LS.phi]) (.inl (Nat.le_refl _)) (fun _ _=>trivial) fun c c' ⟨h1,h2,h3,h4,h5,h6,h7⟩ ⟨f1,f2,f3,f4⟩=>?_
    have f3:=f3 rfl
    simp [LS.cL,LS.cT,LS.cK,LS.cQ,LS.cR,LS.cH,LS.cU] at h1 h2 h3 h4 h5 h6 h7 f1 f3
    refine ⟨by simp;omega,fun h=>by simp at h,fun _=>?_,fun h=>by simp at h⟩
    simp
    exact ⟨f3.1,by omega⟩
  |false=>
    by_cases hn:n=0∨w=true
    · have hb:LS.behind ⟨false,w,false,n⟩ (Phi G N sm)= .fin:=by simp [LS.behind,hn]
      rw [hb];refine I.go hi ha .fin _ sm (by simp [LS.phi]) (fun _=>by simp [LS.phi]) (.inl (Nat.le_refl _)) (fun _ _=>trivial) fun c c' ⟨h1,h2,h3,h4,h5,h6,h7⟩ ⟨f1,f2,f3,f4⟩=>?_
      have f2:=f2 rfl
      simp [LS.cL,LS.cT,LS.cK,LS.cQ,LS.cR,LS.cH,LS.cU] at h1 h2 h3 h4 h5 h6 h7 f1 f2
      refine ⟨by simp;omega,fun _=>?_,fun h=>by simp at h,fun _ _ h h'=>?_⟩
      · simp only
        omega
      · rcases hn with hn|hn
        · simp only at h';omega
        · rw [hn] at h;cases h
    · have hb:LS.behind ⟨false,w,false,n⟩ (Phi G N sm)= .unl ⟨false,w,false,n⟩ (Phi G N sm):=by simp [LS.behind,hn]
      rw [hb];have hw:w=false:=by cases w<;>simp at hn⊢
      have hn':0<n:=by omega
      subst hw
      refine I.go hi ha _ _ sm (by simp [LS.phi]) (fun _=>by simp [LS.phi]) (.inl (Nat.le_refl _)) (fun p' e=>⟨?_,fun h=>absurd rfl h,rfl,rfl,rfl,hn'⟩) fun c c' ⟨h1,h2,h3,h4,h5,h6,h7⟩ ⟨f1,f2,f3,f4⟩=>?_
      · simp [LS.phi] at e;omega
      · have f2:=f2 rfl
        simp [LS.cL,LS.cT,LS.cK,LS.cQ,LS.cR,LS.cH,LS.cU] at h1 h2 h3 h4 h5 h6 h7 f1 f2
        refine ⟨by simp;omega,fun _=>?_,fun h=>by simp at h,fun _ _ _ _=>?_⟩
        · simp;omega
        · omega
def LS.found (x:Wd) (k:Nat):LS:=if x.n=0∨x.l=true∨x.w=true∨x.s=true then .fin else .unl x k
theorem LockInv.seekLoad (I:LockInv top x sm N G) (hi:i<N) (ha:G i= .seek k):LockInv top x sm N (updF G i (.found x k)):=by
  obtain ⟨⟨f1,f2,f3,f4⟩,g1,g2,g3,g4,g5,g6,g7,g8,g9⟩:=I.has hi ha
  unfold LS.found
  split
  · rename_i hc
    refine I.go hi ha .fin x sm (by simp [LS.phi]) (fun h=>absurd rfl h) (.inl (Nat.le_refl _)) (fun _ _=>trivial) fun c c' ⟨h1,h2,h3,h4,h5,h6,h7⟩ ⟨f1,f2,f3,f4⟩=>?_
    simp [LS.cL,LS.cT,LS.cK,LS.cQ,LS.cR,LS.cH,LS.cU] at h1 h2 h3 h4 h5 h6 h7
    refine ⟨by rw [h1];exact f1,by rw [h2,h3,h4,h5,h6];exact f2,by rw [h2,h3,h4,h5,h6];exact f3,fun a b c d=>?_⟩
    rcases hc with hc|hc|hc|hc
    · omega
    · rw [hc] at b;cases b
    · rw [hc] at c;cases c
    · rw [hc] at a;cases a
  · rename_i hc
    have hc':0<x.n∧x.l=false∧x.w=false∧x.s=false:=by
      obtain ⟨l,w,s,n⟩:=x
      cases l<;>cases w<;>cases s<;>simp at hc⊢
      omega
    refine I.go hi ha _ x sm (by simp [LS.phi]) (fun h=>absurd rfl h) (.inl (Nat.le_refl _)) (fun p' e=>⟨?_,fun h=>absurd rfl h,hc'.2.1,hc'.2.2.1,hc'.2.2.2,hc'.1⟩) fun c c' ⟨h1,h2,h3,h4,h5,h6,h7⟩ ⟨f1,f2,f3,f4⟩=>?_
    · simp [LS.phi] at e
      have:Phi G N sm≤k:=g9
      omega
    · simp [LS.cL,LS.cT,LS.cK,LS.cQ,LS.cR,LS.cH,LS.cU] at h1 h2 h3 h4 h5 h6 h7
      exact ⟨by rw [h1];exact f1,by rw [h2,h3,h4,h5,h6];exact f2,by rw [h2,h3,h4,h5,h6];exact f3,by rw [h7];exact f4⟩
theorem LockInv.unlNo (I:LockInv top x sm N G) (hi:i<N) (ha:G i= .unl old k) (hne:x≠old):0<k∧LockInv top x sm N (updF G i (.seek (k-1))):=by
  obtain ⟨_,_,_,_,_,_,_,_,g8,g9⟩:=I.has hi ha
  have:=g9.2.1 hne
  refine ⟨by omega,I.go hi ha (.seek (k-1)) x sm (by simp [LS.phi]) (fun h=>absurd rfl h) (.inl (Nat.le_refl _)) (fun p' e=>?_) fun c c' ⟨h1,h2,h3,h4,h5,h6,h7⟩ ⟨f1,f2,f3,f4⟩=>?_⟩
  · simp [LS.phi] at e
    show p'≤k-1
    omega
  · simp [LS.cL,LS.cT,LS.cK,LS.cQ,LS.cR,LS.cH,LS.cU] at h1 h2 h3 h4 h5 h6 h7
    exact ⟨by rw [h1];exact f1,by rw [h2,h3,h4,h5,h6];exact f2,by rw [h2,h3,h4,h5,h6];exact f3,by rw [h7];exact f4⟩
theorem LockInv.unlYes (I:LockInv top x sm N G) (hi:i<N) (ha:G i= .unl x k):x.l=false∧x.w=false∧x.s=false∧0<x.n∧LockInv top ⟨false,true,false,x.n-1⟩ sm N (updF G i .post):=by
  obtain ⟨⟨f1,f2,f3,f4⟩,g1,g2,g3,g4,g5,g6,g7,g8,g9⟩:=I.has hi ha
  obtain ⟨_,_,hl,hw,hs,hn⟩:=g9
  refine ⟨hl,hw,hs,hn,?_⟩
  obtain ⟨l,w,s,n⟩:=x
  dsimp only at hl hw hs hn f2⊢
  subst hl hw hs
  have f2:=f2 rfl
  refine I.go hi ha .post _ sm (by simp [LS.phi]) (fun _=>by simp [LS.phi]) (.inr ?_) (fun _ _=>trivial) fun c c' ⟨h1,h2,h3,h4,h5,h6,h7⟩ ⟨f1,f2,f3,f4⟩=>?_
  · exact f2.2.1
  · have f2:=f2 rfl
    simp [LS.cL,LS.cT,LS.cK,LS.cQ,LS.cR,LS.cH,LS.cU] at h1 h2 h3 h4 h5 h6 h7 f1 f2
    refine ⟨by simp;omega,fun _=>?_,fun h=>by simp at h,fun _ _ h=>by simp at h⟩
    simp
    omega
theorem LockInv.wakes (I:LockInv top x sm N G) (hi:i<N) (ha:G i= .post):LockInv top x (sm+1) N (updF G i .fin):=by
  refine I.go hi ha .fin x (sm+1) (by simp [LS.phi];omega) (fun h=>absurd rfl h) (.inl (Nat.le_refl _)) (fun _ _=>trivial) fun c c' ⟨h1,h2,h3,h4,h5,h6,h7⟩ ⟨f1,f2,f3,f4⟩=>?_
  simp [LS.cL,LS.cT,LS.cK,LS.cQ,LS.cR,LS.cH,LS.cU] at h1 h2 h3 h4 h5 h6 h7
  refine ⟨by rw [h1];exact f1,fun hs=>?_,fun hs=>?_,by rw [h7];exact f4⟩
  · have:=f2 hs;omega
  · have:=f3 hs
    refine ⟨this.1,?_,?_,?_,?_⟩<;>omega
theorem LockInv.holds (I:LockInv top x sm N G) (hi:i<N) (ha:G i= .hold q) (q':Nat):LockInv top x sm N (updF G i (.hold q')):=by
  refine I.go hi ha (.hold q') x sm (by simp [LS.phi]) (fun h=>absurd rfl h) (.inl (Nat.le_refl _)) (fun _ _=>trivial) fun c c' ⟨h1,h2,h3,h4,h5,h6,h7⟩ ⟨f1,f2,f3,f4⟩=>?_
  simp [LS.cL,LS.cT,LS.cK,LS.cQ,LS.cR,LS.cH,LS.cU] at h1 h2 h3 h4 h5 h6 h7
  exact ⟨by rw [h1];exact f1,by rw [h2,h3,h4,h5,h6];exact f2,by rw [h2,h3,h4,h5,h6];exact f3,by rw [h7];exact f4⟩
theorem LockInv.skips (I:LockInv top x sm N G) (hi:i<N) (ha:G i= .out):LockInv top x sm N (updF G i .fin):=by
  refine I.go hi ha .fin x sm (by simp [LS.phi]) (fun h=>absurd rfl h) (.inl (Nat.le_refl _)) (fun _ _=>trivial) fun c c' ⟨h1,h2,h3,h4,h5,h6,h7⟩ ⟨f1,f2,f3,f4⟩=>?_
  simp [LS.cL,LS.cT,LS.cK,LS.cQ,LS.cR,LS.cH,LS.cU] at h1 h2 h3 h4 h5 h6 h7
  exact ⟨by rw [h1];exact f1,by rw [h2,h3,h4,h5,h6];exact f2,by rw [h2,h3,h4,h5,h6];exact f3,by rw [h7];exact f4⟩
theorem LockInv.more (I:LockInv top x sm N G) {N':Nat} (hN:N≤N') (hz: ∀j,N≤j→G j= .fin):LockInv top x sm N' G:=by
  have e: ∀f:LS→Nat,f .fin=0→tot f G N'=tot f G N:=fun f hf=>jiN (fun j hj=>by rw [hz j hj];exact hf) hN
  have ec:jbM G N'=jbM G N:=by
    unfold jbM
    rw [e _ rfl,e _ rfl,e _ rfl,e _ rfl,e _ rfl,e _ rfl,e _ rfl]
  have ep:Phi G N' sm=Phi G N sm:=by unfold Phi;rw [e _ rfl]
  refine ⟨by rw [ec];exact I.fits,fun j hj=>?_,by rw [ep];exact I.bd⟩
  rw [ep];by_cases h:j<N
  · exact I.ok j h
  · rw [hz j (by omega)];trivial
theorem LockInv.start (I:LockInv top x sm N G) {i0 r:Nat} (h0:i0<N) (ha0:G i0= .rest (r+1)) (hi:i<N) (ha:G i= .fin):LockInv top x sm N (updF (updF G i0 (.rest r)) i .out):=by
  have hne:i≠i0:=fun e=>by rw [e,ha0] at ha;cases ha
  have h1: ∀f:LS→Nat,f (.rest r)=0→f (.rest (r+1))=0→f .fin=0→f .out=0→tot f (updF (updF G i0 (.rest r)) i .out) N=tot f G N:=fun f e1 e2 e3 e4=>by
    have a1:=jbi (f:=f) (G:=G) (a:= .rest r) h0
    have a2:=jbi (f:=f) (G:=updF G i0 (.rest r)) (a:= .out) hi
    rw [jbv _ _ hne,ha,e3,e4] at a2
    rw [ha0,e1,e2] at a1
    omega
  have ec:jbM (updF (updF G i0 (.rest r)) i .out) N=jbM G N:=by
    unfold jbM
    rw [h1 _ rfl rfl rfl rfl,h1 _ rfl rfl rfl rfl,h1 _ rfl rfl rfl rfl,h1 _ rfl rfl rfl rfl,h1 _ rfl rfl rfl rfl,h1 _ rfl rfl rfl rfl,h1 _ rfl rfl rfl rfl]
  have ep:Phi (updF (updF G i0 (.rest r)) i .out) N sm=Phi G N sm:=by
    have a1:=jbi (f:=LS.phi) (G:=G) (a:= .rest r) h0
    have a2:=jbi (f:=LS.phi) (G:=updF G i0 (.rest r)) (a:= .out) hi
    rw [jbv _ _ hne,ha] at a2
    rw [ha0] at a1
    simp only [LS.phi] at a1 a2
    unfold Phi
    omega
  refine ⟨by rw [ec];exact I.fits,fun j hj=>?_,by rw [ep];exact I.bd⟩
  rw [ep];by_cases e1:j=i
  · subst e1;rw [updF_same];trivial
  · rw [jbv _ _ e1];by_cases e2:j=i0
    · subst e2;rw [updF_same];trivial
    · rw [jbv _ _ e2];exact I.ok j hj
def LS.runs (a:LS):Nat:=a.cL+a.cT+a.cK+a.cR+a.cH+a.cU
theorem LockInv.live (I:LockInv top x 0 N G) (hi:i<N) (ha:G i= .wait k): ∃j,j<N∧0<(G j).runs:=by
  obtain ⟨⟨f1,f2,f3,f4⟩,g1,g2,g3,g4,g5,g6,g7,g8,g9⟩:=I.has hi ha
  simp [LS.cQ] at g4
  refine jiM (f:=LS.runs) ?_
  have e:tot LS.runs G N=(jbM G N).L+(jbM G N).T+(jbM G N).K+(jbM G N).R+(jbM G N).H+(jbM G N).U:=by
    unfold jbM
    simp only
    rw [←jcC,←jcC,←jcC,←jcC,←jcC];rfl
  rw [e];obtain ⟨l,w,s,n⟩:=x
  cases s with
  |true=>
    have f3:=f3 rfl
    cases l<;>simp at f1 f3<;>omega
  |false=>
    have f2:=f2 rfl
    have f4:=f4 rfl
    cases l with
    |true=>simp at f1;omega
    |false=>
      cases w with
      |true=>simp at f2;omega
      |false=>
        have f4:=f4 rfl rfl
        simp at f2 f4
        omega
theorem LockInv.small (I:LockInv top x sm N G):x.n≤top∧sm≤top:=by
  have h:=I.bd
  obtain ⟨f1,f2,f3,f4⟩:=I.fits
  have h1:(jbM G N).Q+(jbM G N).K+(jbM G N).H≤tot LS.phi G N:=by
    have:tot (fun a=>a.cQ+a.cK+a.cH) G N=(jbM G N).Q+(jbM G N).K+(jbM G N).H:=by
      unfold jbM
      simp only
      rw [←jcC,←jcC]
    rw [←this];refine tot_le (fun a=>?_)
    cases a<;>simp [LS.cQ,LS.cK,LS.cH,LS.phi]
  unfold Phi at h
  cases hs:x.s with
  |true=>
    have:=f3 hs
    omega
  |false=>
    have:=f2 hs
    omega
end
end Go.Lo
namespace Go.Lo
inductive WS where
  |idle
  |on
  |bye
  |l1
  |l2
  |l3
  |adds
  |look (k:Nat)
  |tries (y k:Nat)
  |parked
  |woke
  |done
def WS.cV:WS→Nat| .on=>1| .bye=>1| .adds=>1|_=>0
def WS.c1:WS→Nat| .l1=>1|_=>0
def WS.c2:WS→Nat| .l2=>1|_=>0
def WS.c3:WS→Nat| .l3=>1|_=>0
def WS.kid:WS→Prop
  | .idle| .on| .bye| .l1| .l2| .l3=>True
  |_=>False
structure WCt where
  V:Nat
  a:Nat
  b:Nat
  c:Nat
def jeT (G:Nat→WS) (N:Nat):WCt:=⟨tot WS.cV G N,tot WS.c1 G N,tot WS.c2 G N,tot WS.c3 G N⟩
structure WMoves (p q:WS) (c c':WCt):Prop where
  hV:c'.V+p.cV=c.V+q.cV
  h1:c'.a+p.c1=c.a+q.c1
  h2:c'.b+p.c2=c.b+q.c2
  h3:c'.c+p.c3=c.c+q.c3
theorem jgw {G:Nat→WS} {i N:Nat} (hi:i<N) (b:WS):WMoves (G i) b (jeT G N) (jeT (updF G i b) N):=⟨jbi hi,jbi hi,jbi hi,jbi hi⟩
def jbR (v wt ws:Nat) (c:WCt):WS→Prop
  | .idle| .adds=>wt=0∧ws=0∧c.a=0∧c.b=0∧c.c=0
  | .look k=>wt=0∧ws=0∧c.a=0∧c.b=0∧c.c=0∧v≤k
  | .tries y k=>wt=0∧ws=0∧c.a=0∧c.b=0∧c.c=0∧v≤k∧(v≠y→v<k)∧0<y
  | .parked=>(wt=1∧ws=0∧c.c=0∧(0<v→c.a+c.b=0)∧(v=0→c.a+c.b=1))∨(wt=0∧v=0∧c.a=0∧c.b=0∧c.c+ws=1)
  | .woke| .done=>wt=0∧v=0∧ws=0∧c.a=0∧c.b=0∧c.c=0
  |_=>False
structure WgInv (v wt ws N:Nat) (G:Nat→WS):Prop where
  pos:0<N
  hV:v=(jeT G N).V
  fits:jbR v wt ws (jeT G N) (G 0)
  kids: ∀j,j≠0→(G j).kid
section
variable {v wt ws v' wt' ws' N i k y:Nat} {G:Nat→WS} {a b:WS}
theorem WgInv.kid (I:WgInv v wt ws N G) (hi:i<N) (h0:i≠0) (ha:G i=a) (b:WS) (hb:b.kid) (hc: ∀c c',WMoves a b c c'→v=c.V→jbR v wt ws c (G 0)→v'=c'.V∧jbR v' wt' ws' c' (G 0)):WgInv v' wt' ws' N (updF G i b):=by
  have m:=jgw (G:=G) hi b
  rw [ha] at m
  obtain ⟨h1,h2⟩:=hc _ _ m I.hV I.fits
  refine ⟨I.pos,h1,by rw [jbv _ _ (fun e=>h0 e.symm)];exact h2,fun j hj=>?_⟩
  by_cases e:j=i
  · subst e;rw [updF_same];exact hb
  · rw [jbv _ _ e];exact I.kids j hj
theorem WgInv.main (I:WgInv v wt ws N G) (ha:G 0=a) (b:WS) (hc: ∀c c',WMoves a b c c'→v=c.V→jbR v wt ws c a→v'=c'.V∧jbR v' wt' ws' c' b):WgInv v' wt' ws' N (updF G 0 b):=by
  have m:=jgw (G:=G) I.pos b
  rw [ha] at m
  obtain ⟨h1,h2⟩:=hc _ _ m I.hV (ha▸I.fits)
  refine ⟨I.pos,h1,by rw [updF_same];exact h2,fun j hj=>?_⟩
  rw [jbv _ _ hj];exact I.kids j hj
theorem WgInv.has (I:WgInv v wt ws N G) (hi:i<N) (ha:G i=a):a.cV≤v∧a.c1≤(jeT G N).a∧a.c2≤(jeT G N).b∧a.c3≤(jeT G N).c:=by
  refine ⟨?_,?_,?_,?_⟩
  · rw [←ha,I.hV];exact jcB hi
  · rw [←ha];exact jcB hi
  · rw [←ha];exact jcB hi
  · rw [←ha];exact jcB hi
theorem WgInv.adds (I:WgInv v wt ws N G) (ha:G 0= .idle):wt=0∧WgInv (v+1) wt ws N (updF G 0 .adds):=by
  have f:=I.fits
  rw [ha] at f
  refine ⟨f.1,I.main ha .adds fun c c' ⟨m1,m2,m3,m4⟩ hv f=>?_⟩
  simp only [WS.cV,WS.c1,WS.c2,WS.c3] at m1 m2 m3 m4
  simp only [jbR] at f⊢
  omega
theorem WgInv.more (I:WgInv v wt ws N G) {N':Nat} (hN:N≤N') (hz: ∀j,N≤j→G j= .idle):WgInv v wt ws N' G:=by
  have e: ∀f:WS→Nat,f .idle=0→tot f G N'=tot f G N:=fun f hf=>jiN (fun j hj=>by rw [hz j hj];exact hf) hN
  have ec:jeT G N'=jeT G N:=by
    unfold jeT
    rw [e _ rfl,e _ rfl,e _ rfl,e _ rfl]
  exact ⟨Nat.lt_of_lt_of_le I.pos hN,by rw [ec];exact I.hV,by rw [ec];exact I.fits,I.kids⟩
theorem WgInv.start (I:WgInv v wt ws N G) (ha0:G 0= .adds) (h0:i≠0) (hi:i<N) (ha:G i= .idle):WgInv v wt ws N (updF (updF G 0 .idle) i .on):=by
  have I1:WgInv (v-1) wt ws N (updF G 0 .idle):=by
    refine I.main ha0 .idle fun c c' ⟨m1,m2,m3,m4⟩ hv f=>?_
    simp only [WS.cV,WS.c1,WS.c2,WS.c3] at m1 m2 m3 m4
    simp only [jbR] at f⊢
    omega
  have hv:=(I.has I.pos ha0).1
  simp only [WS.cV] at hv
  refine I1.kid (a:= .idle) hi h0 (by rw [jbv _ _ h0];exact ha) .on trivial fun c c' ⟨m1,m2,m3,m4⟩ hv f=>?_
  simp only [WS.cV,WS.c1,WS.c2,WS.c3] at m1 m2 m3 m4
  rw [updF_same] at f⊢
  simp only [jbR] at f⊢
  omega
theorem WgInv.begin (I:WgInv v wt ws N G) (ha:G 0= .idle):WgInv v wt ws N (updF G 0 (.look v)):=by
  refine I.main ha _ fun c c' ⟨m1,m2,m3,m4⟩ hv f=>?_
  simp only [WS.cV,WS.c1,WS.c2,WS.c3] at m1 m2 m3 m4
  simp only [jbR] at f⊢
  omega
theorem WgInv.loadNone (I:WgInv v wt ws N G) (ha:G 0= .look k) (hv:v=0):wt=0∧WgInv v wt ws N (updF G 0 .done):=by
  have f:=I.fits
  rw [ha] at f
  refine ⟨f.1,I.main ha _ fun c c' ⟨m1,m2,m3,m4⟩ hv f=>?_⟩
  simp only [WS.cV,WS.c1,WS.c2,WS.c3] at m1 m2 m3 m4
  simp only [jbR] at f⊢
  omega
theorem WgInv.loadSome (I:WgInv v wt ws N G) (ha:G 0= .look k) (hv:0<v):wt=0∧WgInv v wt ws N (updF G 0 (.tries v k)):=by
  have f:=I.fits
  rw [ha] at f
  refine ⟨f.1,I.main ha _ fun c c' ⟨m1,m2,m3,m4⟩ hv f=>?_⟩
  simp only [WS.cV,WS.c1,WS.c2,WS.c3] at m1 m2 m3 m4
  simp only [jbR] at f⊢
  omega
theorem WgInv.casNo (I:WgInv v wt ws N G) (ha:G 0= .tries y k) (hv:v≠y):0<k∧wt=0∧WgInv v wt ws N (updF G 0 (.look (k-1))):=by
  have f:=I.fits
  rw [ha] at f
  simp only [jbR] at f
  refine ⟨by omega,f.1,I.main ha _ fun c c' ⟨m1,m2,m3,m4⟩ hv f=>?_⟩
  simp only [WS.cV,WS.c1,WS.c2,WS.c3] at m1 m2 m3 m4
  simp only [jbR] at f⊢
  omega
theorem WgInv.casYes (I:WgInv v wt ws N G) (ha:G 0= .tries v k):wt=0∧WgInv v 1 ws N (updF G 0 .parked):=by
  have f:=I.fits
  rw [ha] at f
  simp only [jbR] at f
  refine ⟨f.1,I.main ha _ fun c c' ⟨m1,m2,m3,m4⟩ hv f=>?_⟩
  simp only [WS.cV,WS.c1,WS.c2,WS.c3] at m1 m2 m3 m4
  simp only [jbR] at f⊢
  exact ⟨by omega,.inl ⟨by first|trivial|omega,by omega,by omega,fun _=>by omega,fun _=>by omega⟩⟩
theorem WgInv.passes (I:WgInv v wt (ws+1) N G) (ha:G 0= .parked):ws=0∧WgInv v wt ws N (updF G 0 .woke):=by
  have f:=I.fits
  rw [ha] at f
  simp only [jbR] at f
  refine ⟨by omega,I.main ha _ fun c c' ⟨m1,m2,m3,m4⟩ hv f=>?_⟩
  simp only [WS.cV,WS.c1,WS.c2,WS.c3] at m1 m2 m3 m4
  simp only [jbR] at f⊢
  omega
theorem WgInv.ends (I:WgInv v wt ws N G) (ha:G 0= .woke):v=0∧wt=0∧WgInv v wt ws N (updF G 0 .done):=by
  have f:=I.fits
  rw [ha] at f
  simp only [jbR] at f
  refine ⟨f.2.1,f.1,I.main ha _ fun c c' ⟨m1,m2,m3,m4⟩ hv f=>?_⟩
  simp only [WS.cV,WS.c1,WS.c2,WS.c3] at m1 m2 m3 m4
  simp only [jbR] at f⊢
  omega
theorem WgInv.none_left (I:WgInv v wt ws N G) (ha:G 0= .done) (h0:i≠0) (hi:i<N):G i= .idle:=by
  have f:=I.fits
  rw [ha] at f
  simp only [jbR] at f
  obtain ⟨g1,g2,g3,g4⟩:=I.has hi rfl
  have hk:=I.kids i h0
  cases hg:G i with
  |idle=>rfl
  |_=>rw [hg] at g1 g2 g3 g4 hk;simp only [WS.cV,WS.c1,WS.c2,WS.c3,WS.kid] at g1 g2 g3 g4 hk<;>omega
theorem WgInv.byes (I:WgInv v wt ws N G) (hi:i<N) (h0:i≠0) (ha:G i= .on):WgInv v wt ws N (updF G i .bye):=by
  refine I.kid hi h0 ha .bye trivial fun c c' ⟨m1,m2,m3,m4⟩ hv f=>?_
  simp only [WS.cV,WS.c1,WS.c2,WS.c3] at m1 m2 m3 m4
  refine ⟨by omega,?_⟩
  cases hg:G 0<;>rw [hg] at f<;>simp only [jbR] at f⊢ <;>omega
theorem WgInv.less (I:WgInv v wt ws N G) (hi:i<N) (h0:i≠0) (ha:G i= .bye) (hd:v≠1∨wt=0):0<v∧WgInv (v-1) wt ws N (updF G i .idle):=by
  have hv:=(I.has hi ha).1
  simp only [WS.cV] at hv
  refine ⟨hv,I.kid hi h0 ha .idle trivial fun c c' ⟨m1,m2,m3,m4⟩ hv f=>?_⟩
  simp only [WS.cV,WS.c1,WS.c2,WS.c3] at m1 m2 m3 m4
  refine ⟨by omega,?_⟩
  cases hg:G 0<;>rw [hg] at f<;>simp only [jbR] at f⊢ <;>omega
theorem WgInv.last (I:WgInv 1 wt ws N G) (hi:i<N) (h0:i≠0) (ha:G i= .bye) (hw:wt≠0):wt=1∧WgInv 0 wt ws N (updF G i .l1):=by
  have f:=I.fits
  have hw1:wt=1:=by cases hg:G 0<;>rw [hg] at f<;>simp only [jbR] at f<;>omega
  refine ⟨hw1,I.kid hi h0 ha .l1 trivial fun c c' ⟨m1,m2,m3,m4⟩ hv f=>?_⟩
  simp only [WS.cV,WS.c1,WS.c2,WS.c3] at m1 m2 m3 m4
  refine ⟨by omega,?_⟩
  cases hg:G 0<;>rw [hg] at f<;>simp only [jbR] at f⊢ <;>omega
theorem WgInv.lastLoad (I:WgInv v wt ws N G) (hi:i<N) (h0:i≠0) (ha:G i= .l1):v=0∧wt=1∧WgInv v wt ws N (updF G i .l2):=by
  have f:=I.fits
  obtain ⟨g1,g2,g3,g4⟩:=I.has hi ha
  simp only [WS.c1] at g2
  have hw1:v=0∧wt=1:=by cases hg:G 0<;>rw [hg] at f<;>simp only [jbR] at f<;>omega
  refine ⟨hw1.1,hw1.2,I.kid hi h0 ha .l2 trivial fun c c' ⟨m1,m2,m3,m4⟩ hv f=>?_⟩
  simp only [WS.cV,WS.c1,WS.c2,WS.c3] at m1 m2 m3 m4
  refine ⟨by omega,?_⟩
  cases hg:G 0<;>rw [hg] at f<;>simp only [jbR] at f⊢ <;>omega
theorem WgInv.lastStore (I:WgInv v wt ws N G) (hi:i<N) (h0:i≠0) (ha:G i= .l2):v=0∧WgInv 0 0 ws N (updF G i .l3):=by
  have f:=I.fits
  obtain ⟨g1,g2,g3,g4⟩:=I.has hi ha
  simp only [WS.c2] at g3
  have hw1:v=0∧wt=1:=by cases hg:G 0<;>rw [hg] at f<;>simp only [jbR] at f<;>omega
  refine ⟨hw1.1,I.kid hi h0 ha .l3 trivial fun c c' ⟨m1,m2,m3,m4⟩ hv f=>?_⟩
  simp only [WS.cV,WS.c1,WS.c2,WS.c3] at m1 m2 m3 m4
  refine ⟨by omega,?_⟩
  cases hg:G 0<;>rw [hg] at f<;>simp only [jbR] at f⊢ <;>first|omega|exact .inr ⟨trivial,trivial,by omega,by omega,by omega⟩
theorem WgInv.lastWake (I:WgInv v wt ws N G) (hi:i<N) (h0:i≠0) (ha:G i= .l3):ws=0∧WgInv v wt 1 N (updF G i .idle):=by
  have f:=I.fits
  obtain ⟨g1,g2,g3,g4⟩:=I.has hi ha
  simp only [WS.c3] at g4
  have hw1:ws=0:=by cases hg:G 0<;>rw [hg] at f<;>simp only [jbR] at f<;>omega
  refine ⟨hw1,I.kid hi h0 ha .idle trivial fun c c' ⟨m1,m2,m3,m4⟩ hv f=>?_⟩
  simp only [WS.cV,WS.c1,WS.c2,WS.c3] at m1 m2 m3 m4
  refine ⟨by omega,?_⟩
  cases hg:G 0<;>rw [hg] at f<;>simp only [jbR] at f⊢ <;>omega
theorem WgInv.live (I:WgInv v wt 0 N G) (ha:G 0= .parked): ∃j,j<N∧j≠0∧G j≠ .idle:=by
  have f:=I.fits
  rw [ha] at f
  simp only [jbR] at f
  have:0<tot (fun a=>a.cV+a.c1+a.c2+a.c3) G N:=by
    rw [jcC,jcC,jcC];have:=I.hV
    unfold jeT at this f
    simp only at this f
    omega
  obtain ⟨j,h1,h2⟩:=jiM this
  refine ⟨j,h1,fun e=>?_,fun e=>?_⟩
  · rw [e,ha] at h2;simp [WS.cV,WS.c1,WS.c2,WS.c3] at h2
  · rw [e] at h2;simp [WS.cV,WS.c1,WS.c2,WS.c3] at h2
theorem WgInv.small (I:WgInv v wt ws N G):wt≤1∧ws≤1:=by
  have f:=I.fits
  cases hg:G 0<;>rw [hg] at f<;>simp only [jbR] at f<;>omega
end
end Go.Lo
namespace Go.Lo
open Go.Conc
inductive TrU:Type 1 where
  |leaf
  |node (α:Type) (f:α→TrU)
def TrU.Lt (a b:TrU):Prop:= ∃(α:Type) (f:α→TrU) (x:α),b= .node α f∧a=f x
theorem TrU.lt {α:Type} (f:α→TrU) (x:α):TrU.Lt (f x) (.node α f):=⟨α,f,x,rfl,rfl⟩
theorem TrU.acc (t:TrU):Acc TrU.Lt t:=by
  induction t with
  |leaf=>exact ⟨_,fun y ⟨α,f,x,e,_⟩=>by cases e⟩
  |node α f ih=>exact ⟨_,fun y ⟨α',f',x,e,e'⟩=>by cases e;subst e';exact ih x⟩
def TrU.ofNat:Nat→TrU
  |0=> .leaf
  |n+1=> .node Unit fun _=> .ofNat n
def ULt (n:Nat) (a b:Nat→TrU):Prop:= ∃i,i<n∧TrU.Lt (a i) (b i)∧ ∀j,j≠i→a j=b j
theorem ULt.acc: ∀(n:Nat) (f:Nat→TrU),Acc (ULt n) f
  |0,f=>⟨_,fun g ⟨i,h,_⟩=>by omega⟩
  |n+1,f=>by
    have key: ∀T:TrU,∀f:Nat→TrU,f n=T→Acc (ULt (n+1)) f:=by
      intro T
      induction T.acc with
      |intro T _ ihT=>
        intro f hf
        induction ULt.acc n f with
        |intro f _ ihf=>
          refine ⟨_,fun g hg=>?_⟩
          obtain ⟨i,hi,hlt,he⟩:=hg
          by_cases e:i=n
          · subst e
            exact ihT (g i) (by rw [←hf];exact hlt) g rfl
          · exact ihf g ⟨i,by omega,hlt,he⟩ (by rw [he n (fun x=>e x.symm)];exact hf)
    exact key (f n) f rfl
def updU (f:Nat→TrU) (i:Nat) (t:TrU):Nat→TrU:=fun j=>if j=i then t else f j
@[simp] theorem updU_same (f:Nat→TrU) (i:Nat) (t:TrU):updU f i t i=t:=by simp [updU]
theorem jed (f:Nat→TrU) {i j:Nat} (t:TrU) (e:j≠i):updU f i t j=f j:=by simp [updU,e]
theorem jdr {n:Nat} {f:Nat→TrU} {i:Nat} {t:TrU} (hi:i<n) (h:TrU.Lt t (f i)):ULt n (updU f i t) f:=⟨i,hi,by rw [updU_same];exact h,fun j hj=>jed _ _ hj⟩
def updN (f:Nat→Nat) (i d:Nat):Nat→Nat:=fun j=>if j=i then d else f j
@[simp] theorem updN_same (f:Nat→Nat) (i d:Nat):updN f i d i=d:=by simp [updN]
theorem jb4 (f:Nat→Nat) {i j:Nat} (d:Nat) (e:j≠i):updN f i d j=f j:=by simp [updN,e]
inductive CRunS (P:Program) (B:Array Obj) (Q:ProS) (i:Nat):Nat→Q.S→Goroutine→Hp→Prop
  |step {d:Nat} {s:Q.S} {g:Goroutine} {h:Hp} (K':Goroutine→Hp→Prop) (hg: ¬Q.gone s) (st:LStep P B false g h K') (n: ∀g' h',K' g' h'→CRunS P B Q i d s g' h'):CRunS P B Q i d s g h
  |idle {d:Nat} {s:Q.S} {g g':Goroutine} {h:Hp} (hs:g.status= .running) (e: ∀w,stepG P false g w= .go g' w #[]) (n:CRunS P B Q i d s g' h):CRunS P B Q i d s g h
  |weak {d:Nat} {s:Q.S} {g:Goroutine} {h h':Hp} (k:Weak B h h') (n:CRunS P B Q i d s g h'):CRunS P B Q i d s g h
  |sync {d:Nat} {s:Q.S} {g:Goroutine} {h:Hp} (K':Nat→Option Q.S→Goroutine→Hp→Prop) (hs:g.status= .running) (ho:g.offers=none)
      (st: ∀Shp Pool F w,Q.Inv Shp Pool F→F i=some s→Sat B (h++Pool++Shp) w→SOut P B Q i d s h Shp Pool F g w K' (stepG P false g w))
      (n: ∀d' s' g' h',K' d' (some s') g' h'→CRunS P B Q i d' s' g' h') (q: ∀d' g' h',K' d' none g' h'→ ∃k,QuitsD P k d' g'):CRunS P B Q i d s g h
inductive CRunST (P:Program) (B:Array Obj) (Q:ProS) (i:Nat):TrU→Nat→Q.S→Goroutine→Hp→Prop
  |step {f:Goroutine×Hp→TrU} {d:Nat} {s:Q.S} {g:Goroutine} {h:Hp} (K':Goroutine→Hp→Prop) (hg: ¬Q.gone s) (st:LStep P B false g h K') (n: ∀g' h',K' g' h'→CRunST P B Q i (f (g',h')) d s g' h'):CRunST P B Q i (.node _ f) d s g h
  |idle {T:TrU} {d:Nat} {s:Q.S} {g g':Goroutine} {h:Hp} (hs:g.status= .running) (e: ∀w,stepG P false g w= .go g' w #[]) (n:CRunST P B Q i T d s g' h):CRunST P B Q i (.node Unit fun _=>T) d s g h
  |weak {T:TrU} {d:Nat} {s:Q.S} {g:Goroutine} {h h':Hp} (k:Weak B h h') (n:CRunST P B Q i T d s g h'):CRunST P B Q i T d s g h
  |sync {f:Nat×Option Q.S×Goroutine×Hp→TrU} {d:Nat} {s:Q.S} {g:Goroutine} {h:Hp} (K':Nat→Option Q.S→Goroutine→Hp→Prop) (hs:g.status= .running) (ho:g.offers=none)
      (st: ∀Shp Pool F w,Q.Inv Shp Pool F→F i=some s→Sat B (h++Pool++Shp) w→SOut P B Q i d s h Shp Pool F g w K' (stepG P false g w))
      (n: ∀d' s' g' h',K' d' (some s') g' h'→CRunST P B Q i (f (d',some s',g',h')) d' s' g' h') (q: ∀d' g' h',K' d' none g' h'→ ∃k,QuitsD P k d' g'∧f (d',none,g',h')= .ofNat k):CRunST P B Q i (.node _ f) d s g h
theorem CRunST.running {P:Program} {B:Array Obj} {Q:ProS} {i:Nat} {T:TrU} {d:Nat} {s:Q.S} {g:Goroutine} {h:Hp} (c:CRunST P B Q i T d s g h):g.status= .running:=by
  induction c with
  |step K' hg s _ _=>exact s.1
  |idle hs=>exact hs
  |weak k _ ih=>exact ih
  |sync K' hs=>exact hs
theorem CRunS.tree {P:Program} {B:Array Obj} {Q:ProS} {i:Nat} {d:Nat} {s:Q.S} {g:Goroutine} {h:Hp} (r:CRunS P B Q i d s g h): ∃T,CRunST P B Q i T d s g h:=by
  classical
  induction r with
  | @step d s g h K' hg st _ ih=>
    have: ∃f:Goroutine×Hp→TrU,∀g' h',K' g' h'→CRunST P B Q i (f (g',h')) d s g' h':=by
      refine ⟨fun x=>if y:K' x.1 x.2 then Classical.choose (ih x.1 x.2 y) else .leaf,fun g' h' y=>?_⟩
      simp only [y,dif_pos]
      exact Classical.choose_spec (ih g' h' y)
    obtain ⟨f,hf⟩:=this
    exact ⟨.node _ f,.step K' hg st hf⟩
  |idle hs e _ ih=>obtain ⟨T,hT⟩:=ih;exact ⟨_,.idle hs e hT⟩
  |weak k _ ih=>obtain ⟨T,hT⟩:=ih;exact ⟨T,.weak k hT⟩
  | @sync d s g h K' hs ho st n q ih=>
    have: ∃f:Nat×Option Q.S×Goroutine×Hp→TrU,(∀d' s' g' h',K' d' (some s') g' h'→CRunST P B Q i (f (d',some s',g',h')) d' s' g' h')∧ ∀d' g' h',K' d' none g' h'→ ∃k,QuitsD P k d' g'∧f (d',none,g',h')= .ofNat k:=by
      refine ⟨fun x=>match x with
        |(d',some s',g',h')=>if y:K' d' (some s') g' h' then Classical.choose (ih d' s' g' h' y) else .leaf
        |(d',none,g',h')=>if y:K' d' none g' h' then .ofNat (Classical.choose (q d' g' h' y)) else .leaf,fun d' s' g' h' y=>?_,fun d' g' h' y=>?_⟩
      · simp only [y,dif_pos]
        exact Classical.choose_spec (ih d' s' g' h' y)
      · refine ⟨Classical.choose (q d' g' h' y),Classical.choose_spec (q d' g' h' y),?_⟩
        simp only [y,dif_pos]
    obtain ⟨f,h1,h2⟩:=this
    exact ⟨.node _ f,.sync K' hs ho st h1 h2⟩
inductive KidS (P:Program) (B:Array Obj) (Q:ProS) (i:Nat) (Shp:Hp):TrU→Nat→Option Q.S→Goroutine→Hp→Prop
  |run {T:TrU} {d:Nat} {s:Q.S} {g:Goroutine} {h:Hp} (c:CRunST P B Q i T d s g h):KidS P B Q i Shp T d (some s) g h
  |wait {T:TrU} {d:Nat} {s:Q.S} {g:Goroutine} {h:Hp} (c:CRunST P B Q i T d s {g with status:= .running} h) (hb:g.status= .blocked) (ho:g.offers=none) (b:Q.Blk s Shp):KidS P B Q i Shp T d (some s) g h
  |left {k d:Nat} {g:Goroutine} (q:QuitsD P k d g):KidS P B Q i Shp (.ofNat k) d none g []
theorem KidS.wake {P:Program} {B:Array Obj} {Q:ProS} {i:Nat} {Shp Shp':Hp} {T:TrU} {d:Nat} {o:Option Q.S} {g:Goroutine} {h:Hp} (k:KidS P B Q i Shp T d o g h):KidS P B Q i Shp' T d o (awoken g) h:=by
  cases k with
  |run c=>unfold awoken;rw [if_neg (by rw [c.running];decide)];exact .run c
  |wait c hb ho b=>unfold awoken;rw [if_pos hb];exact .run c
  |left q=>unfold awoken;rw [if_neg (by rcases q.status with h|h<;>rw [h]<;>decide)];exact .left q
structure CfS (P:Program) (B:Array Obj) (W:World) (Q:ProS) (old:Nat→Prop) (F:Nat→Option Q.S) (Shp Pool:Hp) (gs:Array Goroutine) (w:World) (t:Trace) (Hl:Nat→Hp) (Tf:Nat→TrU) (Dl:Nat→Nat):Prop where
  core:CoreS B W old Shp Pool Q.la Q.wa (fun i=>i≠0∧ ∀s,F i=some s→Q.gone s) (fun i=>i=0∨F i≠none) gs w t Hl
  inv:Q.Inv Shp Pool F
  deaf: ∀i,Deaf t i=Dl i
  kids: ∀(i:Nat) g,i≠0→gs[i]?=some g→KidS P B Q i Shp (Tf i) (Dl i) (F i) g (Hl i)
  dom: ∀i,gs.size≤i→F i=none
section
variable {P:Program} {B:Array Obj} {W:World} {old:Nat→Prop} {Shp Shp' Pool Pool':Hp} {la wa:Addr} {Gone Gone' Live Live':Nat→Prop} {gs:Array Goroutine} {w w':World} {t:Trace} {Hl Hl':Nat→Hp} {sl:Option (Nat×Nat)}
theorem CoreS.weak (c:CoreS B W old Shp Pool la wa Gone Live gs w t Hl) {i:Nat} {h':Hp} (k:Weak B (Hl i) h'):CoreS B W old Shp Pool la wa Gone Live gs w t (updH Hl i h'):=by
  have key: ∀j,∀d∈updH Hl i h' j,∃x∈Hl j,x.b=d.b∧(d.rw=true→x.rw=true):=fun j d hd=>by
    by_cases e:j=i
    · subst e;rw [updH_same] at hd;exact k.key d hd
    · rw [jar _ _ e] at hd;exact ⟨d,hd,rfl,id⟩
  refine ⟨fun j=>?_,c.satS,fun j l hjl d hd x hx hor=>?_,fun j x hx d hd hor=>?_,c.shB,fun b hb=>⟨(c.oldB b hb).1,fun j d hd=>?_,(c.oldB b hb).2.2⟩,c.tj.weak (Nat.le_refl _) key,c.far,fun j hj=>?_,c.quiet⟩
  · by_cases e:j=i
    · subst e;rw [updH_same];exact k.sat _ (c.sat j)
    · rw [jar _ _ e];exact c.sat j
  · obtain ⟨d',hd',e1,r1⟩:=key j d hd
    obtain ⟨x',hx',e2,r2⟩:=key l x hx
    rw [←e1,←e2];exact c.apart j l hjl d' hd' x' hx' (hor.imp r1 r2)
  · obtain ⟨d',hd',e1,r1⟩:=key j d hd
    rw [←e1];exact c.apS j x hx d' hd' (hor.imp id r1)
  · obtain ⟨x,hx,e,_⟩:=key j d hd
    rw [←e];exact (c.oldB b hb).2.1 j x hx
  · apply List.eq_nil_iff_forall_not_mem.2
    intro d hd
    obtain ⟨x,hx,_⟩:=key j d hd
    rw [c.out j hj] at hx;simp at hx
theorem CoreS.satAll (c:CoreS B W old Shp Pool la wa Gone Live gs w t Hl) (i:Nat):Sat B (Hl i++Pool++Shp) w:=by
  have s1:=c.sat i
  have s2:=c.satS
  refine ⟨s1.base,fun d hd=>?_,?_⟩
  · rw [List.append_assoc] at hd
    rcases List.mem_append.1 hd with hd|hd
    · exact s1.mem d hd
    · exact s2.mem d hd
  · rw [List.append_assoc];exact List.pairwise_append.2 ⟨s1.apart,s2.apart,fun a ha b hb hor e=>c.apS i b hb a ha hor.symm e.symm⟩
theorem CoreS.plain (c:CoreS B W old Shp Pool la wa Gone Live gs w t Hl) {i:Nat} {g g':Goroutine} {l:List Event} (hi:gs[i]?=some g) (hst:stepG P (i==0) g w= .go g' w' l.toArray) (e:SEff B Shp Shp' w w') (q:QuietS g') (hlv:Live i) {d:Nat} (hd:Deaf t i=d)
    (f:jd0 (fun b=> ∃c∈Shp,c.b=b) i (Gone i) d l) (hL: ∀g,Live' g→Live g) (hG: ∀g,Gone' g→Gone g):
    runT P (crowd gs w sl) i=(.next (crowd (after P g g' w' gs i) w' sl),MemOp.ofEvents i g.frame.fn g.frame.place l.toArray)∧
      CoreS B W old Shp' Pool la wa Gone' Live' (after P g g' w' gs i) w' (t++MemOp.ofEvents i g.frame.fn g.frame.place l.toArray) Hl:=by
  have hlt:i<gs.size:=(Array.getElem?_eq_some_iff.1 hi).1
  obtain ⟨s1,s2,s3⟩:=c.shared
  have mono: ∀(l:List Event) (d:Nat),jd0 (fun b=> ∃c∈Shp,c.b=b) i (Gone i) d l→jd0 (fun b=>old b∨ ∃c∈Shp,c.b=b) i (Gone i) d l:=by
    intro l
    induction l with
    |nil=>exact fun _ h=>h
    |cons e l ih=>
      intro d h
      refine ⟨?_,ih _ h.2⟩
      have h1:=h.1
      obtain ⟨lc,wr,sy⟩:=e
      cases lc with
      |cell ad=>exact ⟨h1.1,.inr h1.2.1,h1.2.2⟩
      |mark m=>cases m<;>first|exact ⟨h1.1,.inr h1.2.1,h1.2.2⟩|trivial|exact h1
      |_=>exact h1
  have T:=(c.tj.evs hlt hlv s1 s2 s3 hd g.frame.fn g.frame.place l (mono l d f)).less hL hG
  have:=c.sync (P:=P) (sl:=sl) hi hst e q (hi':=Hl i) (Pool':=Pool) (Gone':=Gone') (Live':=Live') (fun x hx=>⟨x,hx,rfl,id⟩) (c.satAll i) (by
    have e1:updH Hl i (Hl i)=Hl:=by funext j;by_cases e:j=i<;>simp [updH,e]
    rw [e1];exact T)
  have e1:updH Hl i (Hl i)=Hl:=by funext j;by_cases e:j=i<;>simp [updH,e]
  rw [e1] at this
  exact this
theorem CoreS.slip (c:CoreS B W old Shp Pool la wa Gone Live gs w t Hl) {i:Nat} {g g':Goroutine} {es:Array Event} (hi:gs[i]?=some g) (hst:stepG P (i==0) g w= .go g' w es) (hm: ∀e∈es,Event.mute e=true) (q:QuietS g'):
    runT P (crowd gs w sl) i=(.next (crowd (after P g g' w gs i) w sl),MemOp.ofEvents i g.frame.fn g.frame.place es)∧
      CoreS B W old Shp Pool la wa Gone Live (after P g g' w gs i) w (t++MemOp.ofEvents i g.frame.fn g.frame.place es) Hl:=by
  have hlt:i<gs.size:=(Array.getElem?_eq_some_iff.1 hi).1
  obtain ⟨s1,s2,s3⟩:=c.shared
  have T:=c.tj.mutes hlt s1 s2 s3 g.frame.fn g.frame.place es.toList fun e he=>hm e (Array.mem_toList_iff.1 he)
  have e1:updH Hl i (Hl i)=Hl:=by funext j;by_cases e:j=i<;>simp [updH,e]
  have:=c.sync (P:=P) (sl:=sl) hi hst (SEff.refl c.shB) q (hi':=Hl i) (Pool':=Pool) (Gone':=Gone) (Live':=Live) (fun x hx=>⟨x,hx,rfl,id⟩) (c.satAll i) (by rw [e1];exact T)
  rw [e1] at this
  exact this
variable {Q:ProS} {F:Nat→Option Q.S} {Tf:Nat→TrU} {Dl:Nat→Nat}
def MovedS (P:Program) (B:Array Obj) (W:World) (Q:ProS) (old:Nat→Prop) (F:Nat→Option Q.S) (Shp:Hp) (gs:Array Goroutine) (w:World) (sl:Option (Nat×Nat)) (t:Trace) (Hl:Nat→Hp) (Tf:Nat→TrU) (Dl:Nat→Nat) (i:Nat) (g:Goroutine):Prop:=
  ∃g' w' u F' Shp' Pool' Hl' Tf' Dl',runT P (crowd gs w sl) i=(.next (crowd (after P g g' w' gs i) w' sl),u)∧CfS P B W Q old F' Shp' Pool' (after P g g' w' gs i) w' (t++u) Hl' Tf' Dl'∧Hl' 0=Hl 0∧F' 0=F 0∧Dl' 0=Dl 0∧
    ((ULt gs.size Tf' Tf∧g'.status≠ .blocked∧(Shp'=Shp∨(mayWake P g&&g'.status != .blocked&&g'.status != .waiting)=true))∨(Tf'=Tf∧g'.status= .blocked∧Shp'=Shp∧(mayWake P g&&g'.status != .blocked&&g'.status != .waiting)=false))
theorem jb3 (q: ∀(i:Nat) g,gs[i]?=some g→QuietS g) (kids: ∀(i:Nat) g,i≠0→gs[i]?=some g→KidS P B Q i Shp (Tf i) (Dl i) (F i) g (Hl i)) {g g':Goroutine} {i:Nat} (hs:Shp'=Shp∨(mayWake P g&&g'.status != .blocked&&g'.status != .waiting)=true)
    {j:Nat} {x:Goroutine} (hj0:j≠0) (hji:j≠i) (hx:(after P g g' w' gs i)[j]?=some x):KidS P B Q j Shp' (Tf j) (Dl j) (F j) x (Hl j):=by
  have hlt:j<gs.size:=by have:=(Array.getElem?_eq_some_iff.1 hx).1;rwa [jaC] at this
  have hy:gs[j]?=some gs[j]:=Array.getElem?_eq_getElem hlt
  rw [jbY q (fun e=>hji e.symm) hy] at hx
  obtain rfl:=Option.some.inj hx
  have k:=kids j _ hj0 hy
  split
  · exact k.wake
  · rename_i hw
    rcases hs with rfl|h
    · exact k
    · exact absurd h hw
end
end Go.Lo
namespace Go.Lo
open Go.Conc
section
variable {P:Program} {B:Array Obj} {W:World} {Q:ProS} {old:Nat→Prop} {F:Nat→Option Q.S} {Shp Pool:Hp} {gs:Array Goroutine} {w:World} {t:Trace} {Hl:Nat→Hp} {Tf:Nat→TrU} {Dl:Nat→Nat} {sl:Option (Nat×Nat)}
theorem updH_same' (f:Nat→Hp) (i:Nat):updH f i (f i)=f:=by funext j;by_cases e:j=i<;>simp [updH,e]
def jdc (Q:ProS) (F:Nat→Option Q.S):Nat→Prop:=fun i=>i≠0∧ ∀s,F i=some s→Q.gone s
def jeD (Q:ProS) (F:Nat→Option Q.S):Nat→Prop:=fun i=>i=0∨F i≠none
theorem jj5 {i:Nat} {s:Q.S} (hi:i≠0) (h:F i=some s):jdc Q F i↔Q.gone s:=
  ⟨fun g=>g.2 s h,fun g=>⟨hi,fun s' h'=>by rw [h] at h';obtain rfl:=Option.some.inj h';exact g⟩⟩
theorem jhv {i j:Nat} (o:Option Q.S) (e:j≠i):jdc Q (updS F i o) j↔jdc Q F j:=by unfold jdc;rw [jav _ _ e]
theorem jcH {i:Nat} {s:Q.S} {o:Option Q.S} (h:F i=some s): ∀j,jeD Q (updS F i o) j→jeD Q F j:=by
  intro j hj
  by_cases e:j=i
  · subst e;exact .inr (by rw [h];simp)
  · unfold jeD at hj⊢;rwa [jav _ _ e] at hj
theorem jf3 {i:Nat} {s:Q.S} {o:Option Q.S} (hi:i≠0) (h:F i=some s) (hg:jdc Q (updS F i o) i→Q.gone s): ∀j,jdc Q (updS F i o) j→jdc Q F j:=by
  intro j hj
  by_cases e:j=i
  · subst e;exact (jj5 hi h).2 (hg hj)
  · exact (jhv o e).1 hj
theorem jc8 (g:Nat) (fn:FuncId) (pos:String) (m:Mark):MemOp.ofEvents g fn pos #[⟨.mark m,false,true⟩]= #[{g,fn,pos,act:= .mark m}]:=by simp [ofEvents_eq,MemAct.ofEvent]
theorem kidS_run {i:Nat} {T:TrU} {d:Nat} {s:Q.S} {g:Goroutine} {h:Hp} (r:CRunST P B Q i T d s g h) (hi0:i≠0):
    ∀(Hl:Nat→Hp),gs[i]?=some g→Hl i=h→Tf i=T→Dl i=d→F i=some s→CfS P B W Q old F Shp Pool gs w t Hl Tf Dl→MovedS P B W Q old F Shp gs w sl t Hl Tf Dl i g:=by
  have hz:(i==0)=false:=by simpa using hi0
  have sz: ∀{g g':Goroutine} {w':World} {j:Nat},(after P g g' w' gs i).size≤j→gs.size≤j:=fun h=>by rwa [jaC] at h
  induction r with
  | @weak T d s g h h' k n ih=>
    intro Hl hi hh hT hD hF c
    have c':CfS P B W Q old F Shp Pool gs w t (updH Hl i h') Tf Dl:=⟨c.core.weak (by rw [hh];exact k),c.inv,c.deaf,fun j x hj hx=>by
      by_cases e:j=i
      · subst e
        rw [hi] at hx
        obtain rfl:=Option.some.inj hx
        rw [updH_same,hT,hD,hF];exact .run n
      · rw [jar _ _ e];exact c.kids j x hj hx,c.dom⟩
    obtain ⟨g',w',u,F',Shp',Pool',Hl',Tf',Dl',r1,r2,r3,r4⟩:=ih (updH Hl i h') hi (updH_same _ _ _) hT hD hF c'
    exact ⟨g',w',u,F',Shp',Pool',Hl',Tf',Dl',r1,r2,by rw [r3,jar _ _ (fun e=>hi0 e.symm)],r4⟩
  | @step f d s g h K' hg st n ih=>
    intro Hl hi hh hT hD hF c
    have hlt:i<gs.size:=(Array.getElem?_eq_some_iff.1 hi).1
    obtain ⟨g',w',es,h',hs,stp,hk⟩:=st.2 w (by rw [←hh];exact c.core.sat i)
    have hrun:=(n g' h' hk).running
    obtain ⟨r1,r2⟩:=c.core.own (P:=P) (sl:=sl) hi (by rw [hz];exact hs) (by rw [hh];exact stp) (fun x=>hg (x.2 s hF)) (.runs hrun)
    refine ⟨g',w',_,F,Shp,Pool,_,updU Tf i (f (g',h')),Dl,r1,⟨r2,c.inv,fun j=>(jhA stp t i _ _ j).trans (c.deaf j),fun j x hj hx=>?_,fun j hj=>c.dom j (sz hj)⟩,jar _ _ (fun e=>hi0 e.symm),rfl,rfl,.inl ⟨jdr hlt (by rw [hT];exact TrU.lt f (g',h')),by rw [hrun];simp,.inl rfl⟩⟩
    by_cases e:j=i
    · subst e
      rw [jaN hi] at hx
      obtain rfl:=Option.some.inj hx
      rw [updH_same,updU_same,hD,hF];exact .run (n _ _ hk)
    · rw [jar _ _ e,jed _ _ e];exact jb3 c.core.quiet c.kids (.inl rfl) hj e hx
  | @idle T d s g g' h hs e n ih=>
    intro Hl hi hh hT hD hF c
    have hlt:i<gs.size:=(Array.getElem?_eq_some_iff.1 hi).1
    have hrun:=n.running
    obtain ⟨r1,r2⟩:=c.core.plain (P:=P) (sl:=sl) (l:=[]) hi (by rw [hz];exact e w) (SEff.refl c.core.shB) (.runs hrun) (.inr (by rw [hF];simp)) rfl zq (fun _ h=>h) (fun _ h=>h)
    refine ⟨g',w,_,F,Shp,Pool,Hl,updU Tf i T,Dl,r1,⟨r2,c.inv,fun j=>by rw [show MemOp.ofEvents i g.frame.fn g.frame.place (List.toArray [])= #[] by simp [ofEvents_eq],Array.append_empty];exact c.deaf j,fun j x hj hx=>?_,fun j hj=>c.dom j (sz hj)⟩,rfl,rfl,rfl,.inl ⟨jdr hlt (by rw [hT];exact TrU.lt (fun _:Unit=>T) ()),by rw [hrun];simp,.inl rfl⟩⟩
    by_cases ej:j=i
    · subst ej
      rw [jaN hi] at hx
      obtain rfl:=Option.some.inj hx
      rw [hh,updU_same,hD,hF];exact .run n
    · rw [jed _ _ ej];exact jb3 c.core.quiet c.kids (.inl rfl) hj ej hx
  | @sync f d s g h K' hs ho st n q ih=>
    intro Hl hi hh hT hD hF c
    have hlt:i<gs.size:=(Array.getElem?_eq_some_iff.1 hi).1
    have so:=st Shp Pool F w c.inv hF (by rw [←hh];exact c.core.satAll i)
    have hGi:=jj5 (F:=F) hi0 hF
    have hlv:jeD Q F i:= .inr (by rw [hF];simp)
    have hdeaf:Deaf t i=d:=(c.deaf i).trans hD
    --the others
    have oth: ∀{g':Goroutine} {w':World} {Shp':Hp} {o:Option Q.S} {Tn:TrU} {dn:Nat} (hs:Shp'=Shp∨(mayWake P g&&g'.status != .blocked&&g'.status != .waiting)=true) (hn:Hp) {j:Nat} {x:Goroutine},j≠0→j≠i→(after P g g' w' gs i)[j]?=some x→
        KidS P B Q j Shp' (updU Tf i Tn j) (updN Dl i dn j) (updS F i o j) x (updH Hl i hn j):=fun {g' w' Shp' o Tn dn} hsw hn {j x} hj e hx=>by
      rw [jed _ _ e,jb4 _ _ e,jav _ _ e,jar _ _ e];exact jb3 c.core.quiet c.kids hsw hj e hx
    have deafs: ∀(es:Array Event) (dn:Nat),deafBehind d es=dn→ ∀j,Deaf (t++MemOp.ofEvents i g.frame.fn g.frame.place es) j=updN Dl i dn j:=fun es dn hdn j=>by
      by_cases e:j=i
      · subst e;rw [updN_same,Deaf_own,hdeaf,hdn]
      · rw [jb4 _ _ e,Deaf_other t (fun x=>e x.symm) _ fun op hop=>by obtain ⟨e',_,rfl⟩:=jcG hop;rfl];exact c.deaf j
    have doms: ∀(o:Option Q.S) (j:Nat),gs.size≤j→updS F i o j=none:=fun o j hj=>by rw [jav _ _ (by omega)];exact c.dom j hj
    generalize hst:stepG P false g w=stp at so
    cases so with
    | @act g' w' l Shp' o e wk hs' fl hgo hno inv k=>
      have hw:Shp'=Shp∨(mayWake P g&&g'.status != .blocked&&g'.status != .waiting)=true:=wk.imp id fun h=>by rw [h,hs'];rfl
      obtain ⟨r1,r2⟩:=c.core.plain (P:=P) (sl:=sl) (Gone':=jdc Q (updS F i o)) (Live':=jeD Q (updS F i o)) hi (by rw [hz];exact hst) e (.runs hs') hlv hdeaf (by
        have:jdc Q F i=Q.gone s:=propext hGi
        show jd0 _ i (jdc Q F i) d l
        rw [this];exact fl) (jcH hF) (jf3 hi0 hF fun hg=>by
          cases o with
          |none=>exact (hno rfl).1
          |some s'=>exact (hgo s' rfl).1 (hg.2 s' (updS_same _ _ _)))
      refine ⟨g',w',_,updS F i o,Shp',Pool,updH Hl i h,updU Tf i (f (l.foldl jem d,o,g',h)),updN Dl i (l.foldl jem d),r1,⟨by rw [←hh,updH_same'];exact r2,inv,deafs _ _ (jdE d l),fun j x hj hx=>?_,fun j hj=>doms o j (sz hj)⟩,jar _ _ (fun e=>hi0 e.symm),jav _ _ (fun e=>hi0 e.symm),jb4 _ _ (fun e=>hi0 e.symm),
        .inl ⟨jdr hlt (by rw [hT];exact TrU.lt f _),by rw [hs'];simp,hw⟩⟩
      by_cases ej:j=i
      · subst ej
        rw [jaN hi] at hx
        obtain rfl:=Option.some.inj hx
        rw [updH_same,updU_same,updN_same,updS_same];cases o with
        |none=>
          obtain ⟨k',hq,he⟩:=q _ _ _ k
          rw [he,(hno rfl).2];exact .left hq
        |some s'=>exact .run (n _ _ _ _ k)
      · exact oth hw h hj ej hx
    | @take g' s' hs' hd hg inv k=>
      have hy:=jc8 i g.frame.fn g.frame.place (.acquire Q.la)
      obtain ⟨s1,s2,s3⟩:=c.core.shared
      have T':=c.core.tj.one {g:=i,fn:=g.frame.fn,pos:=g.frame.place,act:= .mark (.acquire Q.la)} hlt (fun b hb=>by cases hb) s1 s2 s3 (fun b hb=>by cases hb) (fun a ha=>by cases ha) (fun _ b hb=>by cases hb)
      have T2:=c.core.tj.take (y:={g:=i,fn:=g.frame.fn,pos:=g.frame.place,act:= .mark (.acquire Q.la)}) hlv rfl (hdeaf.trans hd) T'
      have T3:=T2.less (Live':=jeD Q (updS F i (some s'))) (Gone':=jdc Q (updS F i (some s'))) (jcH hF) (jf3 hi0 hF fun x=>absurd (x.2 s' (updS_same _ _ _)) hg.2)
      obtain ⟨r1,r2⟩:=c.core.sync (P:=P) (sl:=sl) (hi':=Hl i++Pool) (Pool':=[]) hi (by rw [hz];exact hst) (SEff.refl c.core.shB) (.runs hs') (fun x hx=>⟨x,by simpa using hx,rfl,id⟩) (by simpa using c.core.satAll i) (by rw [hy];exact T3)
      refine ⟨g',w,_,updS F i (some s'),Shp,[],updH Hl i (h++Pool),updU Tf i (f (d,some s',g',h++Pool)),updN Dl i d,r1,⟨by rw [←hh];exact r2,inv,deafs _ _ rfl,fun j x hj hx=>?_,fun j hj=>doms _ j (sz hj)⟩,jar _ _ (fun e=>hi0 e.symm),jav _ _ (fun e=>hi0 e.symm),jb4 _ _ (fun e=>hi0 e.symm),
        .inl ⟨jdr hlt (by rw [hT];exact TrU.lt f _),by rw [hs'];simp,.inl rfl⟩⟩
      by_cases ej:j=i
      · subst ej
        rw [jaN hi] at hx
        obtain rfl:=Option.some.inj hx
        rw [updH_same,updU_same,updN_same,updS_same];exact .run (n _ _ _ _ k)
      · exact oth (.inl rfl) _ hj ej hx
    | @put g' s' hr hp hs' hd hg hP eh inv k=>
      subst hP
      have hy:=jc8 i g.frame.fn g.frame.place (.releaseMerge Q.la)
      obtain ⟨s1,s2,s3⟩:=c.core.shared
      have T':=c.core.tj.one {g:=i,fn:=g.frame.fn,pos:=g.frame.place,act:= .mark (.releaseMerge Q.la)} hlt (fun b hb=>by cases hb) s1 s2 s3 (fun b hb=>by cases hb) (fun a ha=>by cases ha) (fun _ b hb=>by cases hb)
      have key: ∀x∈hr++hp,∃y∈Hl i,y.b=x.b∧(x.rw=true→y.rw=true):=fun x hx=>by rw [hh];exact eh.key x hx
      have T2:=c.core.tj.put (hr:=hr) (hp:=hp) rfl (hdeaf.trans hd) T' (fun x hx=>key x (List.mem_append_left _ hx)) (fun x hx=>key x (List.mem_append_right _ hx))
      have T3:=T2.less (Live':=jeD Q (updS F i (some s'))) (Gone':=jdc Q (updS F i (some s'))) (jcH hF) (jf3 hi0 hF fun x=>absurd (x.2 s' (updS_same _ _ _)) hg.2)
      obtain ⟨r1,r2⟩:=c.core.sync (P:=P) (sl:=sl) (hi':=hr) (Pool':=hp) hi (by rw [hz];exact hst) (SEff.refl c.core.shB) (.runs hs') (fun x hx=>by obtain ⟨y,h1,h2⟩:=key x hx;exact ⟨y,List.mem_append_left _ h1,h2⟩) ((eh.apps Shp).sat w (by have:=c.core.satAll i;rw [hh] at this;simpa using this)) (by rw [hy];exact T3)
      refine ⟨g',w,_,updS F i (some s'),Shp,hp,updH Hl i hr,updU Tf i (f (d,some s',g',hr)),updN Dl i d,r1,⟨r2,inv,deafs _ _ rfl,fun j x hj hx=>?_,fun j hj=>doms _ j (sz hj)⟩,jar _ _ (fun e=>hi0 e.symm),jav _ _ (fun e=>hi0 e.symm),jb4 _ _ (fun e=>hi0 e.symm),
        .inl ⟨jdr hlt (by rw [hT];exact TrU.lt f _),by rw [hs'];simp,.inl rfl⟩⟩
      by_cases ej:j=i
      · subst ej
        rw [jaN hi] at hx
        obtain rfl:=Option.some.inj hx
        rw [updH_same,updU_same,updN_same,updS_same];exact .run (n _ _ _ _ k)
      · exact oth (.inl rfl) _ hj ej hx
    | @bye g' s' hs' hd hg hi0' inv k=>
      have hy:=jc8 i g.frame.fn g.frame.place (.releaseMerge Q.wa)
      obtain ⟨s1,s2,s3⟩:=c.core.shared
      have T':=c.core.tj.one {g:=i,fn:=g.frame.fn,pos:=g.frame.place,act:= .mark (.releaseMerge Q.wa)} hlt (fun b hb=>by cases hb) s1 s2 s3 (fun b hb=>by cases hb) (fun a ha=>by cases ha) (fun _ b hb=>by cases hb)
      have T2:=c.core.tj.bye (Gone':=jdc Q (updS F i (some s'))) rfl (hdeaf.trans hd) T' (fun j hj=>by
        by_cases e:j=i
        · exact .inr e
        · exact .inl ((jhv _ e).1 hj))
      have T3:=(T2.less (Live':=jeD Q (updS F i (some s'))) (jcH hF) (fun _ h=>h)).weak (Hl':=updH Hl i []) (Nat.le_refl _) (fun j x hx=>by
        by_cases e:j=i
        · subst e;rw [updH_same] at hx;simp at hx
        · rw [jar _ _ e] at hx;exact ⟨x,hx,rfl,id⟩)
      obtain ⟨r1,r2⟩:=c.core.sync (P:=P) (sl:=sl) (hi':=[]) (Pool':=Pool) hi (by rw [hz];exact hst) (SEff.refl c.core.shB) (.runs hs') (fun x hx=>⟨x,List.mem_append_right _ (by simpa using hx),rfl,id⟩) (by simpa using c.core.satS) (by rw [hy];exact T3)
      refine ⟨g',w,_,updS F i (some s'),Shp,Pool,updH Hl i [],updU Tf i (f (d,some s',g',[])),updN Dl i d,r1,⟨r2,inv,deafs _ _ rfl,fun j x hj hx=>?_,fun j hj=>doms _ j (sz hj)⟩,jar _ _ (fun e=>hi0 e.symm),jav _ _ (fun e=>hi0 e.symm),jb4 _ _ (fun e=>hi0 e.symm),
        .inl ⟨jdr hlt (by rw [hT];exact TrU.lt f _),by rw [hs'];simp,.inl rfl⟩⟩
      by_cases ej:j=i
      · subst ej
        rw [jaN hi] at hx
        obtain rfl:=Option.some.inj hx
        rw [updH_same,updU_same,updN_same,updS_same];exact .run (n _ _ _ _ k)
      · exact oth (.inl rfl) _ hj ej hx
    |block hb=>
      obtain ⟨r1,r2⟩:=c.core.plain (P:=P) (sl:=sl) (l:=[]) (g':={g with status:= .blocked}) hi (by rw [hz];exact hst) (SEff.refl c.core.shB) (.blocks rfl ho) hlv rfl zq (fun _ h=>h) (fun _ h=>h)
      refine ⟨_,w,_,F,Shp,Pool,Hl,Tf,Dl,r1,⟨r2,c.inv,fun j=>by rw [show MemOp.ofEvents i g.frame.fn g.frame.place (List.toArray [])= #[] by simp [ofEvents_eq],Array.append_empty];exact c.deaf j,fun j x hj hx=>?_,fun j hj=>c.dom j (sz hj)⟩,rfl,rfl,rfl,.inr ⟨rfl,rfl,rfl,by simp⟩⟩
      by_cases ej:j=i
      · subst ej
        rw [jaN hi] at hx
        obtain rfl:=Option.some.inj hx
        rw [hh,hT,hD,hF];refine .wait ?_ rfl ho hb
        have:({{g with status:= .blocked} with status:= .running}:Goroutine)=g:=by
          obtain ⟨a,b,c,d,e⟩:=g
          simp only at hs
          subst hs
          rfl
        rw [this];exact .sync K' hs ho st n q
      · exact jb3 c.core.quiet c.kids (.inl rfl) hj ej hx
end
end Go.Lo
namespace Go.Lo
open Go.Conc
section
variable {P:Program} {gs:Array Goroutine} {w:World} {sl:Option (Nat×Nat)} {i:Nat} {g g₂:Goroutine} {es:Array Event} {shape:CommShape} {blocking:Bool} {cases:Array CommCase}
end
section
variable {P:Program} {B:Array Obj} {W:World} {Q:Pro} {gs:Array Goroutine} {w:World} {t:Trace} {Hl:Nat→Hp} {Tf:Nat→Tr} {ow:Nat→Option Nat} {sl:Option (Nat×Nat)}
theorem get_set {i j:Nat} {x g:Goroutine} (h:(gs.setIfInBounds i x)[j]?=some g):(j=i∧g=x)∨(j≠i∧gs[j]?=some g):=by
  by_cases e:i=j
  · subst e
    by_cases hlt:i<gs.size
    · rw [Array.getElem?_setIfInBounds_self_of_lt hlt] at h
      exact .inl ⟨rfl,(Option.some.inj h).symm⟩
    · rw [Array.getElem?_eq_none (by simpa using hlt)] at h;cases h
  · rw [Array.getElem?_setIfInBounds_ne e] at h
    exact .inr ⟨fun x=>e x.symm,h⟩
theorem set_get {i:Nat} {x y:Goroutine} (h:gs[i]?=some y):(gs.setIfInBounds i x)[i]?=some x:=Array.getElem?_setIfInBounds_self_of_lt (Array.getElem?_eq_some_iff.1 h).1
theorem jlB {i j:Nat} {x:Goroutine} (h:j≠i):(gs.setIfInBounds i x)[j]?=gs[j]?:=Array.getElem?_setIfInBounds_ne fun e=>h e.symm
end
end Go.Lo
namespace Go.Lo
open Go.Conc
section
variable {P:Program} {B:Array Obj} {W:World}
theorem jgE {m m':Machine} {u t:Trace} {N:Nat} {R:Stepped×Trace} (h:stepT P m=(.next m',u)) (r:runNT P N m' (t++u)=R):runNT P (N+1) m t=R:=by
  rw [←r];simp only [runNT,h]
end
end Go.Lo
