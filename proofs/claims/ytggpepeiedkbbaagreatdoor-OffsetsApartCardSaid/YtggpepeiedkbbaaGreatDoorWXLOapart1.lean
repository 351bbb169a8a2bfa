/- A part of the proof of a law. Condition of each theorem: as its statement says. -/
import Derived.Test.YtggpepeiedkbbaaGreatDoorVG10
set_option linter.all false
variable {B:Array Go.Obj} {l xs gg:List Int} {h H:Go.Lo.Hp} {i s n nw cw nb cb ns ks:Nat} {d:Go.Lo.Cd} {t st:Int} {bt:Bool} {p:Go.Lo.Cd→Bool} {o:Option Int} {D:List Go.Lo.Cd} {f:Go.Lo.Bo→Int×Int} {L:List Go.Lo.Bo} {ls:List Go.Lo.Ln} {b:Go.Lo.Tb} {ps pw pb:Option Go.Addr}
set_option maxHeartbeats 4000000
set_option maxRecDepth 100000
set_option synthInstance.maxHeartbeats 1000000
set_option synthInstance.maxSize 100000
namespace Go.Proofs
open Go.Lo
open Go.Conc (G)
section
variable {P:Program} {m:Md P B} {ops:Array Oper} {l l':List Value} {S h h' H:Hp} {C:List Value→Hp→Prop} {kd:Kd} {r:List (Nat×Kd)} {d:Option Tmp} {ty:TypeId} {pos:String} {af:Array Edge} {g:Option (Nat×Bool)}
theorem k_neqBF {t u:TypeId} {x y:Operand} {a c:Bool} (ho:ops[i]?=some ⟨d,.binOp .neq t x y u,ty,pos,af,g⟩) (hw:Wt ops l g) (hb:P.underlying t=some .bool) [KHeap kd S h H] [ex:OpV l x (.bool a)] [ey:OpV l y (.bool c)] (e:a=c) [PutV l d (.bool false) l'] (q:RegK m S ops r l' h C):RegK m S ops ((i,kd)::r) l h C:=
 RegK.rd (v:= .bool false) ho hw (by
  subst e
  simp only [execOp,ex.eq,ey.eq]
  refine Reads.value (Reads.bind (a:=()) (Reads.pure _) ?_)
  show Reads P B (Op.equal t (.bool a) (.bool a)>>=fun b=>pure (Value.bool !b)) H _
  have:=jcC (P:=P) (B:=B) (H:=H) hb a a
  rw [beq_self_eq_true] at this
  exact E70) q
end
end Go.Proofs
namespace Go.Lo
theorem nones_pat {x:Bo}:(jcK x).count true=jcw x:=by
 unfold jcw jcK
 rw [List.count,List.countP_map];exact List.countP_congr fun o _=>by simp
theorem jfH {α β:Type}: ∀{p:List Bool} {l:List α} {r:List β},l.length=r.length→(jaM p l).length=(jaM p r).length
 |[],l,r,_=>by cases l<;>cases r<;>rfl
 |b::p,[],[],_=>by cases b<;>rfl
 |_::_,[],_::_,h=>by simp at h
 |_::_,_::_,[],h=>by simp at h
 |true::p,a::l,c::r,h=>by simp only [jaM,List.length_cons];rw [jfH (by simpa using h)]
 |false::p,a::l,c::r,h=>by simp only [jaM];rw [jfH (by simpa using h)]
def lowC (bt:Bool) (st p:Int) (d:Cd) (o:Option Int) (u:Int):Prop:= ∃v,o=some v∧d.st=st∧((d.butt=bt∧d.lat≤p∧u=v)∨(d.butt≠bt∧v<p∧u=d.lat))
def highC (bt:Bool) (st p:Int) (d:Cd) (o:Option Int) (u:Int):Prop:= ∃v,o=some v∧d.st=st∧((d.butt=bt∧p≤d.lat∧u=v)∨(d.butt≠bt∧p<v∧u=d.lat))
theorem bdStep_low {p:Int} {s:Int×Int}:(jbQ bt st p d o s).1≤t↔s.1≤t∧ ∀u,lowC bt st p d o u→u≤t:=by
 unfold jbQ lowC
 rcases o with _|v
 ·simp
 ·by_cases h1:d.st=st
  ·by_cases h2:d.butt=bt
   ·by_cases h3:d.lat≤p
    ·simp [h1,h2,h3]
     omega
    ·simp [h1,h2,h3]
   ·by_cases h3:v<p
    ·simp [h1,h2,h3]
     omega
    ·simp [h1,h2,h3]
  ·simp [h1]
theorem bdStep_high {p:Int} {s:Int×Int}:t≤(jbQ bt st p d o s).2↔t≤s.2∧ ∀u,highC bt st p d o u→t≤u:=by
 unfold jbQ highC
 rcases o with _|v
 ·simp
 ·by_cases h1:d.st=st
  ·by_cases h2:d.butt=bt
   ·by_cases h3:p≤d.lat
    ·simp [h1,h2,h3]
     omega
    ·simp [h1,h2,h3]
   ·by_cases h3:p<v
    ·simp [h1,h2,h3]
     omega
    ·simp [h1,h2,h3]
  ·simp [h1]
theorem bdK_low {D:List Cd} {x:Bo} {bt:Bool} {st p t:Int}: ∀{k:Nat},(bdK D x bt st p k).1≤t↔0≤t∧ ∀i,i<k→ ∀u,lowC bt st p (dA D i) (xA x i) u→u≤t
 |0=>by simp [bdK]
 |k+1=>by
  rw [jbD,bdStep_low,bdK_low];constructor
  ·rintro ⟨⟨h0,h1⟩,h2⟩;refine ⟨h0,fun i hi=>?_⟩
   rcases Nat.lt_or_ge i k with g|g
   ·exact h1 i g
   ·obtain rfl:i=k:=by omega
    exact h2
  ·rintro ⟨h0,h1⟩;exact E84
theorem bdK_high {D:List Cd} {x:Bo} {bt:Bool} {st p t:Int}: ∀{k:Nat},t≤(bdK D x bt st p k).2↔t≤959∧ ∀i,i<k→ ∀u,highC bt st p (dA D i) (xA x i) u→t≤u
 |0=>by simp [bdK]
 |k+1=>by
  rw [jbD,bdStep_high,bdK_high];constructor
  ·rintro ⟨⟨h0,h1⟩,h2⟩;refine ⟨h0,fun i hi=>?_⟩
   rcases Nat.lt_or_ge i k with g|g
   ·exact h1 i g
   ·obtain rfl:i=k:=by omega
    exact h2
  ·rintro ⟨h0,h1⟩;exact E84
theorem bdA_low {x:Bo} {p:Int}:(bdA D x bt st p).1≤t↔0≤t∧ ∀i,i<D.length→ ∀u,lowC bt st p (dA D i) (xA x i) u→u≤t:=bdK_low
theorem bdA_high {x:Bo} {p:Int}:t≤(bdA D x bt st p).2↔t≤959∧ ∀i,i<D.length→ ∀u,highC bt st p (dA D i) (xA x i) u→t≤u:=bdK_high
theorem spB_fold (f:Bo→Int×Int): ∀(L:List Bo) (s:Int×Int) (t:Int),(t≤(L.foldl (fun s x=>(min s.1 (f x).1,max s.2 (f x).2)) s).1↔t≤s.1∧ ∀x∈L,t≤(f x).1)∧((L.foldl (fun s x=>(min s.1 (f x).1,max s.2 (f x).2)) s).2≤t↔s.2≤t∧ ∀x∈L,(f x).2≤t)
 |[],s,t=>by simp
 |a::L,s,t=>by
  rw [List.foldl_cons];obtain ⟨h1,h2⟩:=spB_fold f L (min s.1 (f a).1,max s.2 (f a).2) t
  rw [h1,h2];simp only [List.forall_mem_cons]
  constructor
  ·constructor
   ·rintro ⟨a1,a2⟩;exact E87
   ·rintro ⟨a1,a2,a3⟩;exact ⟨by omega,a3⟩
  ·constructor
   ·rintro ⟨a1,a2⟩;exact E87
   ·rintro ⟨a1,a2,a3⟩;exact ⟨by omega,a3⟩
theorem spB_low:t≤(spB f L).1↔t≤959∧ ∀x∈L,t≤(f x).1:=(spB_fold f L (959,0) t).1
theorem spB_high:(spB f L).2≤t↔0≤t∧ ∀x∈L,(f x).2≤t:=(spB_fold f L (959,0) t).2
theorem spB_in {g:Bo→Int×Int} {M:List Bo} (h: ∀x∈L,∃y∈M,(g y).1≤(f x).1∧(f x).2≤(g y).2):(spB g M).1≤(spB f L).1∧(spB f L).2≤(spB g M).2:=by
 constructor
 ·refine spB_low.2 ⟨(spB_low.1 (Int.le_refl _)).1,fun x hx=>?_⟩
  obtain ⟨y,hy,h1,_⟩:=h x hx
  exact E89
 ·refine spB_high.2 ⟨(spB_high.1 (Int.le_refl _)).1,fun x hx=>?_⟩
  obtain ⟨y,hy,_,h2⟩:=h x hx
  exact E90
def shf (i j:Nat):Nat:=if j<i then j else j+1
theorem getD_erase {α:Type} (l:List α) (d:α) (i j:Nat):(l.eraseIdx i).getD j d=l.getD (shf i j) d:=by
 rw [List.getD_eq_getElem?_getD,List.getD_eq_getElem?_getD,List.getElem?_eraseIdx,shf];split<;>rfl
end Go.Lo
namespace Go.Proofs
open Go.Lo
theorem juJ (h:Asc xs) (hx: ∀x∈xs,0≤x∧x<n):xs.length≤n:=by
 have:=List.Nodup.length_le_of_subset (l₂:=jeT n) (jkj h) fun z hz=>by
  obtain ⟨h1,h2⟩:=hx z hz
  unfold jeT
  exact List.mem_map.2 ⟨z.toNat,List.mem_range.2 zO,by omega⟩
 rwa [jhl] at this
theorem count_range (p:Nat→Bool) (n:Nat):((List.range n).map p).count true=(List.range n).countP p:=by
 rw [List.count,List.countP_map];exact List.countP_congr fun a _=>by simp
theorem count_set (ha:Asc l) (hl: ∀z∈l,0≤z∧z<n):(jeq (jbS l) n).count true=l.length:=by
 unfold jeq
 rw [count_range,List.countP_eq_length_filter];have h:(((List.range n).filter fun i=>(jbS l).testBit i).map fun i:Nat=>(i:Int))=l:=by
  have a1:Asc (((List.range n).filter fun i=>(jbS l).testBit i).map fun i:Nat=>(i:Int)):=by
   unfold Asc
   rw [List.pairwise_map];exact (List.Pairwise.filter _ List.pairwise_lt_range).imp fun h=>by omega
  refine jmt a1 ha fun z=>?_
  rw [List.mem_map];constructor
  ·rintro ⟨i,hi,rfl⟩;have:=(List.mem_filter.1 hi).2
   rw [jed fun z hz=>(hl z hz).1,decide_eq_true_eq] at this
   exact this
  ·intro hz
   have:=hl z hz
   refine ⟨z.toNat,List.mem_filter.2 ⟨List.mem_range.2 zO,?_⟩,by omega⟩
   rw [jed fun z hz=>(hl z hz).1,decide_eq_true_eq,show ((z.toNat:Nat):Int)=z by omega];exact hz
 rw [←List.length_map (f:=fun i:Nat=>(i:Int)),h]
end Go.Proofs
namespace Go.Proofs
open Go.Lo
open Go.Conc (G)
section
variable [LaidO B]
section
variable {S h h' H:Hp}
end
section
theorem figs_rd {lps:List Lp} (hn:1≤n) (k:LsOk n ls) (e:lps.map (·.ln)=ls) (hf: ∀x∈lps,x.ln.figs.length≤x.c∧(0<x.ln.figs.length→RdS B h 1 (.slice x.p x.ln.figs.length x.c) x.ln.figs.length (jaC x.ln.figs))): ∀x∈lps,x.ln.figs.length≤x.c∧RdS B h 1 (.slice x.p x.ln.figs.length x.c) x.ln.figs.length (jaC x.ln.figs):=fun x hx=>by
 have hm:x.ln∈ls:=e▸List.mem_map.2 ⟨x,hx,rfl⟩
 have:=(k.ok _ hm).len
 exact E77
end
end
end Go.Proofs
namespace Go.Lo
open Go.Proofs
def gp (n b i:Nat):Str:=if b.testBit i then [63] else (jfw (jce n) 45).getD i []
theorem meaS_in {s:Str} {z:Int} (h:z∈jbl s):0≤z∧z≤959:=by
 unfold jbl at h
 split at h
 ·rw [jdJ] at h
  obtain ⟨k,hk,rfl⟩:=List.mem_map.1 h
  have:=List.mem_range.1 (List.mem_filter.1 hk).1
  omega
 ·cases h
end Go.Lo
namespace Go.Proofs
open Go.Lo
open Go.Conc (G)
section
variable [LaidO B]
theorem ownP_in {p:Int} (h:0≤st∧st<(b.sts.length:Int)) (h2:0≤p∧p≤959):jfJ b st p=0:=by
 rw [jfJ,if_neg (fun e=>e ⟨h.1,by omega⟩),if_neg (fun e=>e h2)]
theorem openP_in {p:Int} (hz:tbS b=0) (h:0≤st∧st<(b.sts.length:Int)) (h2:0≤p∧p≤959) (hne:jac b≠[]):jaJ b (jfJ b st p)=0:=jej hz (ownP_in h h2) hne
end
section
variable [LaidO B]
section
variable (ok:TbOk b) {k:Nat} (hk:k<(jaa b).length) {c:Ce} (hcx:c=(jaa b).getD k default)
include ok hk hcx
theorem drop_cells:jaa (jat b c jbG)=(jaa b).eraseIdx k:=by
 have hm:(jaa b).getD k default∈jaa b:=jah hk
 rw [hcx,jby ok (jaA hm).1,ja9 (jbu b) hk]
theorem drop_at {j:Nat} (hj:j<(jaa b).length) (hne:k≠j): ∃i,i<(jaa (jat b c jbG)).length∧shf k i=j∧(jaa (jat b c jbG)).getD i default=(jaa b).getD j default:=by
 have hi:shf k (if j<k then j else j-1)=j:=by
  by_cases h:j<k
  ·rw [if_pos h,shf,if_pos h]
  ·rw [if_neg h,shf,if_neg zO];omega
 refine ⟨if j<k then j else j-1,?_,hi,?_⟩
 ·rw [drop_cells ok hk hcx,List.length_eraseIdx,if_pos hk];split<;>omega
 ·rw [drop_cells ok hk hcx,getD_erase,hi]
end
end
section
variable [LaidO B]
theorem pat_bits {x:Bo} (h:x.length=n):jcK x=jeq (jcf x) n:=by
 apply List.ext_getElem
 ·simp [jcK,jeq,h]
 ·intro i h1 h2
  have hi:i<x.length:=by simpa [jcK] using h1
  simp only [jcK,jeq,List.getElem_map,List.getElem_range]
  rw [jdf,Bool.eq_iff_iff,Option.isNone_iff_eq_none,decide_eq_true_eq];have:xA x i=x[i]:=by rw [xA,List.getD_eq_getElem?_getD,List.getElem?_eq_getElem hi];rfl
  rw [this];exact ⟨fun e=>⟨hi,e⟩,fun e=>e.2⟩
theorem jud (ok:TbOk b) (hl:jcA (fun l=>jn3 b (jbS l)=true) (jaa b).length gg):jac b≠[]↔(gg.length:Int)≤b.wrong:=by
 obtain ⟨ha,hr,hp,hm⟩:=hl
 have hw:=ok.wrong
 constructor
 ·intro h
  obtain ⟨x,hx⟩:=List.exists_mem_of_ne_nil _ h
  obtain ⟨hok,hn⟩:=jaL.1 hx
  have hlen:=jb2 hx
  have hlt:jcf x<2^(jaa b).length:=hlen▸jhs
  have hk:=jdl (k:=(jaa b).length) hlt
  have hin:=jiP (k:=(jaa b).length) hlt
  have hpt:=pat_bits hlen
  have h1:jn3 b (jbS (jb6 (jcf x) (jaa b).length))=true:=by
   rw [hk,jdY];refine List.ne_nil_of_mem (a:=x) ((jdw (by rw [jbP,jaq])).2 ⟨hok,hpt⟩)
  have h2:=hm _ (jdC _ _) hin h1
  have h3:(jb6 (jcf x) (jaa b).length).length=jcw x:=by
   rw [←count_set (jdC _ _) hin,hk,←hpt,nones_pat]
  have h4:gg.length≤(jb6 (jcf x) (jaa b).length).length:=Nat.le_of_not_lt fun e=>h2 (.inl e)
  have h5:jcw x≤b.wrong.toNat:=hn
  omega
 ·intro h
  obtain ⟨x,hx⟩:=List.exists_mem_of_ne_nil _ (jdY.1 hp)
  obtain ⟨hok,hpt⟩:=(jdw (by rw [jbP,jaq])).1 hx
  refine List.ne_nil_of_mem (a:=x) (jaL.2 ⟨hok,?_⟩)
  rw [←nones_pat,hpt,count_set ha hr];omega
end
end Go.Proofs
namespace Go.Proofs
open Go.Lo
section
end
theorem boats_nones (hm: ∀xs,Asc xs→(∀x∈xs,0≤x∧x<((jaa b).length:Int))→jn3 b (jbS xs)=true→ ¬jff xs gg) {x:Bo} (hok:okA (cdT b) x=true):gg.length≤jcw x:=by
 have hlen:x.length=(jaa b).length:=by rw [jbj hok,jaq]
 have hlt:jcf x<2^(jaa b).length:=hlen▸jhs
 have hk:=jdl (k:=(jaa b).length) hlt
 have hin:=jiP (k:=(jaa b).length) hlt
 have hpt:=pat_bits hlen
 have h1:jn3 b (jbS (jb6 (jcf x) (jaa b).length))=true:=by
  rw [hk,jdY];exact List.ne_nil_of_mem (a:=x) ((jdw (by rw [jbP,jaq])).2 ⟨hok,hpt⟩)
 have h2:=hm _ (jdC _ _) hin h1
 have h3:(jb6 (jcf x) (jaa b).length).length=jcw x:=by
  rw [←count_set (jdC _ _) hin,hk,←hpt,nones_pat]
 rw [←h3];exact Nat.le_of_not_lt fun e=>h2 (.inl e)
theorem jei {p:Cd→Bool}: ∀D:List Cd,jaM (D.map p) D=D.filter p
 |[]=>rfl
 |d::D=>by
  cases h:p d with
  |true=>rw [List.map_cons,h,jaM,jei D,List.filter_cons_of_pos h]
  |false=>rw [List.map_cons,h,jaM,jei D,List.filter_cons_of_neg (by rw [h];decide)]
theorem jeX {p:Cd→Bool} {d:Cd} {v:Int}: ∀{D:List Cd} {x:Bo},(∀e∈D,p e=false→d.st≠e.st)→x.length=D.length→jam d v D x=jam d v (D.filter p) (jaM (D.map p) x)
 |[],[],_,_=>rfl
 |[],_::_,_,h=>by simp at h
 |_::_,[],_,h=>by simp at h
 |e::D,o::x,hs,h=>by
  have ih:=jeX (p:=p) (d:=d) (v:=v) (D:=D) (x:=x) (fun e he=>hs e (by simp [he])) (by simpa using h)
  cases hp:p e with
  |true=>
   rw [List.map_cons,hp,jaM,List.filter_cons_of_pos hp];cases o with
   |none=>exact ih
   |some u=>simp only [jam];rw [ih]
  |false=>
   rw [List.map_cons,hp,jaM,List.filter_cons_of_neg (by rw [hp];decide)];cases o with
   |none=>exact ih
   |some u=>
    simp only [jam]
    rw [riC,if_pos (hs e zS hp),Bool.true_and,ih]
theorem jpw (f:Int→Nat) (c:Nat): ∀l:List Int,(l.map fun v=>f v*c).sum=(l.map f).sum*c
 |[]=>by simp
 |a::l=>by simp only [List.map_cons,List.sum_cons,jpw f c l,Nat.add_mul]
theorem jpx (f:Int→Nat) (c:Nat): ∀l:List Int,(l.map fun v=>c*f v).sum=c*(l.map f).sum
 |[]=>by simp
 |a::l=>by simp only [List.map_cons,List.sum_cons,jpx f c l,Nat.mul_add]
theorem jiT {P:Bo→Bool}:(jak (d::D) 0).countP P=(d.can.map fun v=>(jak D 0).countP fun x=>P (some v::x)&&jam d v D x).sum:=by
 rw [jaO,show jdX D 0=[] from rfl,List.append_nil,List.countP_flatMap];congr 1
 refine List.map_congr_left fun v _=>?_
 show List.countP P (((jak D 0).filter (jam d v D)).map (some v:: ·))=_
 rw [List.countP_map,List.countP_filter];rfl
theorem jmp {p:Cd→Bool}: ∀{D:List Cd},(∀d∈D,∀e∈D,p d≠p e→d.st≠e.st)→ ∀P Q:Bo→Bool,
  (jak D 0).countP (fun x=>P (jaM (D.map p) x)&&Q (jaM (D.map fun d=>!p d) x))=(jak (D.filter p) 0).countP P*(jak (D.filter fun d=>!p d) 0).countP Q
 |[],_,P,Q=>by
  simp only [jdq,List.filter_nil,List.map_nil,jaM,List.countP_cons,List.countP_nil]
  cases P []<;>cases Q []<;>rfl
 |d::D,hs,P,Q=>by
  have hs': ∀a∈D,∀e∈D,p a≠p e→a.st≠e.st:=fun a ha e he=>hs a (by simp [ha]) e (by simp [he])
  cases hp:p d with
  |true=>
   rw [List.filter_cons_of_pos hp,List.filter_cons_of_neg (by rw [hp];decide),jiT,jiT,←jpw];congr 1
   refine List.map_congr_left fun v _=>?_
   rw [←jmp hs' (fun y=>P (some v::y)&&jam d v (D.filter p) y) Q];refine List.countP_congr fun x hx=>?_
   have ha:=jeX (p:=p) (d:=d) (v:=v) (fun e he h=>hs d zS e (by simp [he]) (by rw [hp,h];decide)) (jcd hx)
   rw [List.map_cons,List.map_cons,hp,Bool.not_true,jaM,jaM,ha];cases P (some v::jaM (List.map p D) x)<;>cases Q (jaM (D.map fun d=>!p d) x)<;>cases jam d v (D.filter p) (jaM (D.map p) x)<;>simp
  |false=>
   rw [List.filter_cons_of_neg (by rw [hp];decide),List.filter_cons_of_pos (p:=fun d=>!p d) (by rw [hp];rfl),jiT,jiT,←jpx];congr 1
   refine List.map_congr_left fun v _=>?_
   rw [←jmp hs' P (fun y=>Q (some v::y)&&jam d v (D.filter fun d=>!p d) y)];refine List.countP_congr fun x hx=>?_
   have ha:=jeX (p:=fun d=>!p d) (d:=d) (v:=v) (fun e he h=>hs d zS e (by simp [he]) (by rw [hp];cases hq:p e with|true=>decide|false=>rw [hq] at h;cases h)) (jcd hx)
   rw [List.map_cons,List.map_cons,hp,Bool.not_false,jaM,jaM,ha];cases P (jaM (List.map p D) x)<;>cases Q (some v::jaM (D.map fun d=>!p d) x)<;>cases jam d v (D.filter fun d=>!p d) (jaM (D.map fun d=>!p d) x)<;>simp
theorem len_prod (hs: ∀d∈D,∀e∈D,p d≠p e→d.st≠e.st):(jak D 0).length=(jak (D.filter p) 0).length*(jak (D.filter fun d=>!p d) 0).length:=by
 have:=jmp hs (fun _=>true) (fun _=>true)
 have e: ∀l:List Bo,l.countP (fun _=>true)=l.length:=fun l=>by rw [List.countP_eq_length];exact fun _ _=>rfl
 rw [e,e] at this
 rw [←this];exact (e _).symm
theorem jeM {p:Cd→Bool}: ∀{D:List Cd} {x:Bo},x.length=D.length→jcw x=jcw (jaM (D.map p) x)+jcw (jaM (D.map fun d=>!p d) x)
 |[],[],_=>rfl
 |[],_::_,h=>by simp at h
 |_::_,[],h=>by simp at h
 |d::D,o::x,h=>by
  have ih:=jeM (p:=p) (D:=D) (x:=x) (by simpa using h)
  cases hp:p d<;>cases o<;>simp only [List.map_cons,hp,Bool.not_true,Bool.not_false,jaM,nones_some,nones_none,ih]<;>omega
theorem jgb {p:Cd→Bool}: ∀{D:List Cd} {y z:Bo},(∀d∈D,∀e∈D,p d≠p e→d.st≠e.st)→okA (D.filter p) y=true→okA (D.filter fun d=>!p d) z=true→ ∃x,okA D x=true∧jaM (D.map p) x=y∧jaM (D.map fun d=>!p d) x=z
 |[],y,z,_,h1,h2=>by
  have e1:y=[]:=by cases y with|nil=>rfl|cons a l=>simp [okA] at h1
  have e2:z=[]:=by cases z with|nil=>rfl|cons a l=>simp [okA] at h2
  exact ⟨[],rfl,e1.symm,e2.symm⟩
 |d::D,y,z,hs,h1,h2=>by
  have hs': ∀a∈D,∀e∈D,p a≠p e→a.st≠e.st:=fun a ha e he=>hs a (by simp [ha]) e (by simp [he])
  cases hp:p d with
  |true=>
   rw [List.filter_cons_of_pos hp] at h1
   rw [List.filter_cons_of_neg (by rw [hp];decide)] at h2
   rcases y with _|⟨_|v,y⟩
   ·simp [okA] at h1
   ·obtain ⟨x,k1,k2,k3⟩:=jgb hs' (by simpa [okA] using h1) h2
    exact ⟨none::x,by simpa [okA] using k1,by rw [List.map_cons,hp,jaM,k2],by rw [List.map_cons,hp,Bool.not_true,jaM,k3]⟩
   ·simp only [okA,Bool.and_eq_true] at h1
    obtain ⟨x,k1,k2,k3⟩:=jgb hs' h1.2 h2
    have ha:=jeX (p:=p) (d:=d) (v:=v) (fun e he h=>hs d zS e (by simp [he]) (by rw [hp,h];decide)) (jbj k1)
    exact ⟨some v::x,by simp only [okA,Bool.and_eq_true];exact ⟨⟨h1.1.1,by rw [ha,k2];exact h1.1.2⟩,k1⟩,by rw [List.map_cons,hp,jaM,k2],by rw [List.map_cons,hp,Bool.not_true,jaM,k3]⟩
  |false=>
   rw [List.filter_cons_of_neg (by rw [hp];decide)] at h1
   rw [List.filter_cons_of_pos (p:=fun d=>!p d) (by rw [hp];rfl)] at h2
   rcases z with _|⟨_|v,z⟩
   ·simp [okA] at h2
   ·obtain ⟨x,k1,k2,k3⟩:=jgb hs' h1 (by simpa [okA] using h2)
    exact ⟨none::x,by simpa [okA] using k1,by rw [List.map_cons,hp,jaM,k2],by rw [List.map_cons,hp,Bool.not_false,jaM,k3]⟩
   ·simp only [okA,Bool.and_eq_true] at h2
    obtain ⟨x,k1,k2,k3⟩:=jgb hs' h1 h2.2
    have ha:=jeX (p:=fun d=>!p d) (d:=d) (v:=v) (fun e he h=>hs d zS e (by simp [he]) (by rw [hp];cases hq:p e with|true=>decide|false=>rw [hq] at h;cases h)) (jbj k1)
    exact ⟨some v::x,by simp only [okA,Bool.and_eq_true];exact ⟨⟨h2.1.1,by rw [ha,k3];exact h2.1.2⟩,k1⟩,by rw [List.map_cons,hp,jaM,k2],by rw [List.map_cons,hp,Bool.not_false,jaM,k3]⟩
def jid (D:List Cd) (n:Nat):Prop:=(∃x,okA D x=true∧jcw x=n)∧ ∀x,okA D x=true→n≤jcw x
theorem jrA {m:Nat} (h:jid D n) (k:jid D m):n=m:=by
 obtain ⟨⟨x,hx,ex⟩,h⟩:=h
 obtain ⟨⟨y,hy,ey⟩,k⟩:=k
 exact Nat.le_antisymm (ey▸h y hy) (ex▸k x hx)
theorem jtV:jid [] 0:=⟨⟨[],rfl,rfl⟩,fun _ _=>Nat.zero_le _⟩
theorem jtW (hs: ∀d∈D,∀e∈D,p d≠p e→d.st≠e.st) {m:Nat} (h:jid (D.filter p) n) (k:jid (D.filter fun d=>!p d) m):jid D (n+m):=by
 obtain ⟨⟨y,hy,ey⟩,h⟩:=h
 obtain ⟨⟨z,hz,ez⟩,k⟩:=k
 constructor
 ·obtain ⟨x,h1,h2,h3⟩:=jgb hs hy hz
  exact ⟨x,h1,by rw [jeM (jbj h1),h2,h3,ey,ez]⟩
 ·intro x hx
  rw [jeM (p:=p) (jbj hx)];have h1:=jet (p:=D.map p) zS hx
  have h2:=jet (p:=D.map fun d=>!p d) zS hx
  rw [jei] at h1 h2
  exact Nat.add_le_add (h _ h1) (k _ h2)
theorem jnM {g:List Int} (h:jcA (fun l=>jn3 b (jbS l)=true) (jaa b).length g):jid (cdT b) g.length:=by
 obtain ⟨ha,hr,hp,hm⟩:=h
 refine ⟨?_,fun x hx=>boats_nones hm hx⟩
 obtain ⟨x,hx⟩:=List.exists_mem_of_ne_nil _ (jdY.1 hp)
 obtain ⟨hok,hpt⟩:=(jdw (by rw [jbP,jaq])).1 hx
 exact ⟨x,hok,by rw [←nones_pat,hpt,count_set ha hr]⟩
def jlE (D:List Cd) (s:Int):List Cd:=D.filter fun d=>decide (d.st=s)
def jjU (D:List Cd) (s:Int):List Cd:=D.filter fun d=>decide (s≤d.st)
theorem jjd {s:Int}: ∀d∈D,∀e∈D,decide (d.st=s)≠decide (e.st=s)→d.st≠e.st:=fun d _ e _ h e2=>h (by rw [e2])
theorem jqi (D:List Cd) (s:Int):(jjU D s).filter (fun d=>decide (d.st=s))=jlE D s:=by
 unfold jjU jlE
 rw [List.filter_filter];refine List.filter_congr fun d _=>?_
 rw [Bool.eq_iff_iff];simp
 omega
theorem jnW (D:List Cd) (s:Int):(jjU D s).filter (fun d=>!decide (d.st=s))=jjU D (s+1):=by
 unfold jjU
 rw [List.filter_filter];refine List.filter_congr fun d _=>?_
 rw [Bool.eq_iff_iff];simp
 omega
theorem jnV (h: ∀d∈D,0≤d.st):jjU D 0=D:=List.filter_eq_self.2 fun d hd=>decide_eq_true (h d hd)
theorem jqj {n:Int} (h: ∀d∈D,d.st<n):jjU D n=[]:=List.filter_eq_nil_iff.2 fun d hd e=>by have:=h d hd;have:=of_decide_eq_true e;omega
def jhL (D:List Cd):Nat→Nat
 |0=>1
 |i+1=>jhL D i*(jak (jlE D i) 0).length
theorem jkX {D:List Cd} (h: ∀d∈D,0≤d.st): ∀i:Nat,jhL D i*(jak (jjU D i) 0).length=(jak D 0).length
 |0=>by rw [jhL,Nat.one_mul];exact congrArg (fun l=>(jak l 0).length) (jnV h)
 |i+1=>by
  rw [←jkX h i,len_prod (D:=jjU D i) (p:=fun d=>decide (d.st=(i:Int))) jjd,jqi,jnW,jhL,Nat.mul_assoc];rfl
theorem js1 (h: ∀d∈D,0≤d.st) (h2: ∀d∈D,d.st<n):jhL D n=(jak D 0).length:=by
 rw [←jkX h n,jqj h2,jdq];simp
def juM (D:List Cd) (i w:Nat):Prop:= ∀m,jid (jjU D i) m→jid D (w+m)
theorem jrp (h: ∀d∈D,0≤d.st):juM D 0 0:=fun m hm=>by
 rw [Nat.zero_add];rwa [show jjU D ((0:Nat):Int)=D from jnV h] at hm
theorem jrq {w g:Nat} (h:juM D i w) (hg:jid (jlE D i) g):juM D (i+1) (w+g):=fun m hm=>by
 rw [Nat.add_assoc];refine h _ (jtW (p:=fun d=>decide (d.st=(i:Int))) jjd ?_ ?_)
 ·rw [jqi];exact hg
 ·rw [jnW];exact hm
theorem jtt {w:Nat} (h2: ∀d∈D,d.st<n) (h:juM D n w):jid D w:=by
 have:=h 0 (by rw [jqj h2];exact jtV)
 exact this
def jev (d:Cd):Cd:={d with st:=0}
theorem riC_zero {a c:Cd} {m n:Int} (h:a.st=c.st):riC (jev a) (jev c) m n=riC a c m n:=by
 unfold riC jev
 simp [h]
theorem jgj {d:Cd} {v:Int}: ∀{D:List Cd} {x:Bo},(∀e∈D,d.st=e.st)→jam (jev d) v (D.map jev) x=jam d v D x
 |[],_,_=>rfl
 |_::_,[],_=>rfl
 |e::D,some u::x,h=>by simp only [List.map_cons,jam];rw [riC_zero (h e zS),jgj fun e he=>h e (by simp [he])]
 |e::D,none::x,h=>by simp only [List.map_cons,jam];rw [jgj fun e he=>h e (by simp [he])]
theorem jlW {s:Int}: ∀{D:List Cd} {x:Bo},(∀e∈D,e.st=s)→okA (D.map jev) x=okA D x
 |[],[],_=>rfl
 |[],_::_,_=>rfl
 |_::_,[],_=>rfl
 |d::D,some v::x,h=>by
  have hD: ∀e∈D,e.st=s:=fun e he=>h e (by simp [he])
  simp only [List.map_cons,okA]
  rw [jlW hD,jgj fun e he=>(h d zS).trans (hD e he).symm];rfl
 |d::D,none::x,h=>by simp only [List.map_cons,okA];rw [jlW fun e he=>h e (by simp [he])]
theorem jlj {s:Int}: ∀{D:List Cd},(∀e∈D,e.st=s)→jak (D.map jev) 0=jak D 0
 |[],_=>rfl
 |d::D,h=>by
  have hD: ∀e∈D,e.st=s:=fun e he=>h e (by simp [he])
  rw [List.map_cons,jaO,jaO,jlj hD];congr 1
  show d.can.flatMap _=_
  congr 1
  funext v
  congr 1
  exact List.filter_congr fun x _=>jgj fun e he=>(h d zS).trans (hD e he).symm
theorem jst {s:Int}: ∀e∈jlE D s,e.st=s:=fun e he=>of_decide_eq_true (List.mem_filter.1 he).2
def jcg (ls:List Ln) (s:Nat):List Ln:=ls.map fun l=>⟨l.lat,[l.figs.getD s []]⟩
def jb8 (b:Tb) (s:Nat):Tb:=⟨b.wrong,[b.sts.getD s []],jcg b.waters s,jcg b.butts s⟩
theorem jkk (b:Tb) (s:Nat) (bt:Bool):jap (jb8 b s) bt=jcg (jap b bt) s:=by cases bt<;>rfl
theorem jnm: ∀{n s:Nat},s<n→(List.range n).filter (fun j=>decide (j=s))=[s]
 |0,_,h=>by omega
 |n+1,s,h=>by
  rw [List.range_succ,List.filter_append];by_cases e:s=n
  ·subst e
   have:(List.range s).filter (fun j=>decide (j=s))=[]:=List.filter_eq_nil_iff.2 fun j hj e=>by have:=List.mem_range.1 hj;have:=of_decide_eq_true e;omega
   rw [this];simp
  ·rw [jnm zO];have:decide (n=s)=false:=decide_eq_false fun x=>e x.symm
   simp [this]
theorem jiH (h:s<n) (bt:Bool) (i:Nat):(jmz n bt i).filter (fun c=>decide (c.st=(s:Int)))=[⟨bt,i,s⟩]:=by
 unfold jmz
 rw [List.filter_map];have:(List.range n).filter ((fun c:Ce=>decide (c.st=(s:Int)))∘fun (j:Nat)=>(⟨bt,(i:Int),(j:Int)⟩:Ce))=[s]:=by
  rw [←jnm h];refine List.filter_congr fun j _=>?_
  show decide ((j:Int)=(s:Int))=_
  rw [Bool.eq_iff_iff];simp
  omega
 rw [this];rfl
def jko (c:Ce):Ce:={c with st:=0}
theorem jln {c:Ce} (h:jbO b c=true):jaT (jb8 b s) (jko c)=⟨(jaT b c).lat,[(jaT b c).figs.getD s []]⟩:=by
 have hh:=jbk.1 h
 unfold jaT
 rw [show (jko c).butt=c.butt from rfl,jkk,show (jko c).line=c.line from rfl,jcg,List.getD_eq_getElem?_getD,List.getElem?_map,List.getElem?_eq_getElem zO,List.getD_eq_getElem?_getD,List.getElem?_eq_getElem zO];rfl
theorem juL (hs:s<b.sts.length) {c:Ce} (hc:c.st=s):jbO (jb8 b s) (jko c)=jbO b c:=by
 rw [Bool.eq_iff_iff,jbk,jbk,show (jko c).butt=c.butt from rfl,jkk,jcg,List.length_map];show _∧_∧(0:Int)≤0∧(0:Int)<(([b.sts.getD s []]:List Str).length:Int)↔_
 rw [hc];simp only [List.length_cons,List.length_nil]
 show (0≤c.line∧c.line<_∧_)↔_
 omega
theorem jom {c:Ce} (h:jbO b c=true) (hc:c.st=s):jbo (jb8 b s) (jko c)=jbo b c:=by
 unfold jbo
 rw [jln h,hc,Int.toNat_natCast];rfl
theorem jrU (hs:s<b.sts.length) {c:Ce} (hc:c.st=s):keepC' (jb8 b s) (jko c)=keepC' b c:=by
 unfold keepC'
 rw [juL hs hc];cases h:jbO b c with
 |false=>rfl
 |true=>rw [jom h hc]
theorem jpg (hs:s<b.sts.length):jaa (jb8 b s)=((jaa b).filter fun c=>decide (c.st=(s:Int))).map jko:=by
 rw [jbq,jbq,List.filter_filter];have e:((jcu b.sts.length).filter fun c=>(decide (c.st=(s:Int))&&keepC' b c))=((jcu b.sts.length).filter fun c=>decide (c.st=(s:Int))).filter (keepC' b):=by
  rw [List.filter_filter];exact List.filter_congr fun c _=>Bool.and_comm ..
 rw [e];have e2:((jcu b.sts.length).filter fun c=>decide (c.st=(s:Int)))=[⟨false,(0:Nat),s⟩,⟨false,(1:Nat),s⟩,⟨true,(0:Nat),s⟩,⟨true,(1:Nat),s⟩]:=by
  unfold jcu
  rw [List.filter_append,List.filter_append,List.filter_append,jiH hs,jiH hs,jiH hs,jiH hs];rfl
 have e3:jcu (jb8 b s).sts.length=[⟨false,(0:Nat),s⟩,⟨false,(1:Nat),s⟩,⟨true,(0:Nat),s⟩,⟨true,(1:Nat),s⟩].map jko:=rfl
 rw [e2,e3,List.filter_map];congr 1
 refine List.filter_congr fun c hc=>?_;refine jrU hs ?_
 simp only [List.mem_cons,List.not_mem_nil,or_false] at hc
 rcases hc with rfl|rfl|rfl|rfl<;>rfl
theorem jmx (hs:s<b.sts.length):cdT (jb8 b s)=(jlE (cdT b) s).map jev:=by
 unfold cdT jlE
 rw [jpg hs,List.map_map,List.filter_map,List.map_map];refine List.map_congr_left fun c hc=>?_
 obtain ⟨h1,h2⟩:=List.mem_filter.1 hc
 have h3:=(jaA h1).1
 show jcI (jb8 b s) (jko c)=jev (jcI b c)
 unfold jcI jev
 rw [jln h3,jom h3 (of_decide_eq_true h2)];rfl
theorem jfl (hs:s<b.sts.length) (h0:b.wrong=0):jac (jb8 b s)=jak (jlE (cdT b) s) 0:=by
 unfold jac
 rw [jmx hs,show (jb8 b s).wrong=b.wrong from rfl,h0];exact jlj jst
theorem juK (hs:s<b.sts.length) {g:Nat} (h:jid (cdT (jb8 b s)) g):jid (jlE (cdT b) s) g:=by
 rw [jmx hs] at h
 obtain ⟨⟨x,hx,ex⟩,h⟩:=h
 rw [jlW jst] at hx
 exact ⟨⟨x,hx,ex⟩,fun y hy=>h y (by rw [jlW jst];exact hy)⟩
theorem cd_st: ∀d∈cdT b,0≤d.st∧d.st<(b.sts.length:Int):=fun d hd=>by
 obtain ⟨c,hc,rfl⟩:=List.mem_map.1 hd
 have:=jbk.1 (jaA hc).1
 exact ⟨this.2.2.1,this.2.2.2⟩
theorem jiV (D:List Cd) (x:Bo) (bt:Bool) (st p:Int) (hx:x.length=D.length): ∀t,((bdA D x bt st p).1≤t↔0≤t∧ ∀q∈D.zip x,∀u,lowC bt st p q.1 q.2 u→u≤t)∧(t≤(bdA D x bt st p).2↔t≤959∧ ∀q∈D.zip x,∀u,highC bt st p q.1 q.2 u→t≤u):=fun t=>by
 have hz: ∀(P:Cd→Option Int→Prop),(∀i,i<D.length→P (dA D i) (xA x i))↔ ∀q∈D.zip x,P q.1 q.2:=fun P=>by
  constructor
  ·rintro h ⟨d,o⟩ hq;obtain ⟨i,hi,e⟩:=List.mem_iff_getElem.1 hq
   rw [List.length_zip] at hi
   have:=h i zO
   rw [List.getElem_zip] at e
   obtain ⟨rfl,rfl⟩:=Prod.mk.inj e
   rw [dA,xA,List.getD_eq_getElem?_getD,List.getD_eq_getElem?_getD,List.getElem?_eq_getElem zO,List.getElem?_eq_getElem zO] at this
   exact this
  ·intro h i hi
   have:=h (D[i],x[i]'(by omega)) (List.mem_iff_getElem.2 ⟨i,by rw [List.length_zip];omega,by rw [List.getElem_zip]⟩)
   rw [dA,xA,List.getD_eq_getElem?_getD,List.getD_eq_getElem?_getD,List.getElem?_eq_getElem hi,List.getElem?_eq_getElem zO];exact this
 constructor
 ·rw [bdA_low,hz fun d o=> ∀u,lowC bt st p d o u→u≤t]
 ·rw [bdA_high,hz fun d o=> ∀u,highC bt st p d o u→t≤u]
theorem jlo {p:Cd→Bool}: ∀{D:List Cd} {x:Bo},x.length=D.length→ ∀q,q∈(D.filter p).zip (jaM (D.map p) x)↔q∈D.zip x∧p q.1=true
 |[],[],_,q=>by simp
 |[],_::_,h,_=>by simp at h
 |_::_,[],h,_=>by simp at h
 |d::D,o::x,h,q=>by
  have ih:=jlo (p:=p) (D:=D) (x:=x) (by simpa using h) q
  cases hp:p d with
  |true=>
   rw [List.filter_cons_of_pos hp,List.map_cons,hp,jaM,List.zip_cons_cons,List.zip_cons_cons,List.mem_cons,List.mem_cons,ih];constructor
   ·rintro (rfl|⟨h1,h2⟩)
    ·exact ⟨.inl rfl,hp⟩
    ·exact ⟨.inr h1,h2⟩
   ·rintro ⟨rfl|h1,h2⟩
    ·exact .inl rfl
    ·exact .inr ⟨h1,h2⟩
  |false=>
   rw [List.filter_cons_of_neg (by rw [hp];decide),List.map_cons,hp,jaM,List.zip_cons_cons,List.mem_cons,ih];constructor
   ·rintro ⟨h1,h2⟩;exact ⟨.inr h1,h2⟩
   ·rintro ⟨rfl|h1,h2⟩
    ·rw [hp] at h2
     cases h2
    ·exact ⟨h1,h2⟩
theorem jqt {x:Bo} (hx:x.length=D.length) (bt:Bool) (s p:Int):bdA ((jlE D s).map jev) (jaM (D.map fun d=>decide (d.st=s)) x) bt 0 p=bdA D x bt s p:=by
 have hy:(jaM (D.map fun d=>decide (d.st=s)) x).length=((jlE D s).map jev).length:=by
  rw [List.length_map,jlE,←jei];exact jfH hx
 have hq: ∀(P Q:Cd→Option Int→Prop),(∀d o,d.st=s→(P (jev d) o↔Q d o))→(∀d o,d.st≠s→Q d o)→((∀q∈((jlE D s).map jev).zip (jaM (D.map fun d=>decide (d.st=s)) x),P q.1 q.2)↔ ∀q∈D.zip x,Q q.1 q.2):=fun P Q h1 h2=>by
  rw [List.zip_map_left];constructor
  ·intro h q hq
   by_cases e:q.1.st=s
   ·refine (h1 _ _ e).1 (h (jev q.1,q.2) (List.mem_map.2 ⟨q,(jlo hx q).2 ⟨hq,decide_eq_true e⟩,rfl⟩))
   ·exact h2 _ _ e
  ·intro h q hq
   obtain ⟨r,hr,rfl⟩:=List.mem_map.1 hq
   obtain ⟨k1,k2⟩:=(jlo hx r).1 hr
   exact (h1 _ _ (of_decide_eq_true k2)).2 (h r k1)
 have g1: ∀t,(bdA ((jlE D s).map jev) (jaM (D.map fun d=>decide (d.st=s)) x) bt 0 p).1≤t↔(bdA D x bt s p).1≤t:=fun t=>by
  rw [(jiV _ _ bt 0 p hy t).1,(jiV _ _ bt s p hx t).1];refine and_congr_right fun _=>hq (fun d o=> ∀u,lowC bt 0 p d o u→u≤t) (fun d o=> ∀u,lowC bt s p d o u→u≤t) (fun d o e=>forall_congr' fun u=>?_) (fun d o e u ⟨v,_,e2,_⟩=>absurd e2 e)
  unfold lowC jev
  simp [e]
 have g2: ∀t,t≤(bdA ((jlE D s).map jev) (jaM (D.map fun d=>decide (d.st=s)) x) bt 0 p).2↔t≤(bdA D x bt s p).2:=fun t=>by
  rw [(jiV _ _ bt 0 p hy t).2,(jiV _ _ bt s p hx t).2];refine and_congr_right fun _=>hq (fun d o=> ∀u,highC bt 0 p d o u→t≤u) (fun d o=> ∀u,highC bt s p d o u→t≤u) (fun d o e=>forall_congr' fun u=>?_) (fun d o e u ⟨v,_,e2,_⟩=>absurd e2 e)
  unfold highC jev
  simp [e]
 exact Prod.ext (Int.le_antisymm ((g1 _).2 (Int.le_refl _)) ((g1 _).1 (Int.le_refl _))) (Int.le_antisymm ((g2 _).1 (Int.le_refl _)) ((g2 _).2 (Int.le_refl _)))
theorem je7 {x:Bo} (h:x∈jak D 0):jaM (D.map p) x∈jak (D.filter p) 0:=by
 obtain ⟨h1,h2⟩:=jaL.1 h
 have h3:=jeM (p:=p) (jbj h1)
 have h4:=jet (p:=D.map p) zS h1
 rw [jei] at h4
 exact jaL.2 ⟨h4,by omega⟩
theorem jqU (h0:b.wrong=0) (hs:s<b.sts.length) (hne:jac b≠[]) (bt:Bool) (p:Int):jdT (jb8 b s) bt 0 p=jdT b bt s p:=by
 have hb:jac b=jak (cdT b) 0:=by rw [jac,h0];rfl
 unfold jdT
 rw [jfl hs h0,jmx hs];rw [hb] at hne⊢
 have a1:=spB_in (f:=fun x=>bdA (cdT b) x bt s p) (g:=fun x=>bdA ((jlE (cdT b) s).map jev) x bt 0 p) (L:=jak (cdT b) 0) (M:=jak (jlE (cdT b) s) 0) fun x hx=>⟨jaM ((cdT b).map fun d=>decide (d.st=(s:Int))) x,je7 hx,by rw [jqt (jcd hx)];exact E94⟩
 have a2:=spB_in (f:=fun x=>bdA ((jlE (cdT b) s).map jev) x bt 0 p) (g:=fun x=>bdA (cdT b) x bt s p) (L:=jak (jlE (cdT b) s) 0) (M:=jak (cdT b) 0) fun y hy=>by
  obtain ⟨x0,hx0⟩:=List.exists_mem_of_ne_nil _ hne
  have hz:=je7 (p:=fun d=>!decide (d.st=(s:Int))) hx0
  obtain ⟨k1,k2⟩:=jaL.1 hy
  obtain ⟨k3,k4⟩:=jaL.1 hz
  obtain ⟨x,h1,h2,h3⟩:=jgb (p:=fun d=>decide (d.st=(s:Int))) jjd k1 k3
  have hn:=jeM (p:=fun d=>decide (d.st=(s:Int))) (jbj h1)
  rw [h2,h3] at hn
  refine ⟨x,jaL.2 ⟨h1,by omega⟩,?_⟩
  rw [←jqt (jbj h1),h2];exact E94
 exact Prod.ext (Int.le_antisymm a1.1 a2.1) (Int.le_antisymm a2.2 a1.2)
theorem jnx: ∀{l:List Str} {p:List Str},jdc p l=0→ ∀s∈l,jdc [] [s]=0
 |[],_,_,_,hs=>by cases hs
 |a::l,p,h,s,hs=>by
  rcases List.mem_cons.1 hs with rfl|hs
  ·unfold jdc at h⊢
   split at h
   ·cases h
   ·rename_i h1
    rw [if_neg h1,if_neg zS];rfl
  ·unfold jdc at h
   split at h
   ·cases h
   ·split at h
    ·cases h
    ·exact jnx h s hs
theorem jk4 {x:Nat}: ∀{l:List Nat},x∈l→x≤l.sum
 |a::l,h=>by
  rw [List.sum_cons];rcases List.mem_cons.1 h with rfl|h
  ·omega
  ·have:=jk4 h;omega
theorem jol (k:LsOk n ls) (hs:s<n):jb1 (jcg ls s)≤jb1 ls:=by
 have: ∀l:List Ln,(∀x∈l,x.figs.length=n)→jb1 (jcg l s)≤jb1 l:=by
  intro l
  induction l with
  |nil=>intro _;exact Nat.le_refl _
  |cons a l ih=>
   intro h
   have h1:=ih fun x hx=>h x (by simp [hx])
   have h2:=h a zS
   have h3:jb0 (a.figs.getD s [])≤(a.figs.map jb0).sum:=by
    have hm:a.figs.getD s []∈a.figs:=jah zO
    exact jk4 (List.mem_map.2 ⟨_,hm,rfl⟩)
   unfold jb1 jcg at*
   simp only [List.map_cons,List.sum_cons,List.map_nil,List.sum_nil,Nat.add_zero,jcQ] at*
   omega
 exact this ls fun x hx=>(k.ok x hx).len
theorem jqu (k:LsOk n ls) (hs:s<n):LsOk 1 (jcg ls s):=by
 refine ⟨by rw [jcg,List.length_map];exact k.two,fun l hl=>?_,?_⟩
 ·obtain ⟨a,ha,rfl⟩:=List.mem_map.1 hl
  have hk:=k.ok a ha
  refine ⟨hk.lat,rfl,fun f hf=>?_⟩
  obtain rfl:f=_:=by simpa using hf
  exact hk.fig _ (jah (by rw [hk.len];exact hs))
 ·rw [jcg,List.pairwise_map];exact k.up
theorem jmw (k:TbOk b) (hs:s<b.sts.length):TbOk (jb8 b s):=by
 have h1:=jol k.waters hs
 have h2:=jol k.butts hs
 have h3:=k.smu
 exact ⟨k.wrong,Nat.le_refl 1,(by show 1≤3;decide),jnx k.names _ (jah hs),jqu k.waters hs,jqu k.butts hs,by show jb1 (jcg b.waters s)+jb1 (jcg b.butts s)≤2;omega⟩
end Go.Proofs
namespace Go.Proofs
open Go.Lo
open Go.Conc (G)
section
variable [LaidO B]
theorem jpR {b:Tb} (ok:TbOk b) (h0:b.wrong=0): ∀i:Nat,i≤b.sts.length→jhL (cdT b) i≤12000^i
 |0,_=>Nat.le_refl _
 |i+1,h=>by
  have h1:=jpR ok h0 i zO
  have h2:=jbC (jmw ok (s:=i) zO)
  rw [jfl zO h0] at h2
  rw [jhL,Nat.pow_succ];exact Nat.mul_le_mul h1 h2
theorem prodK_sm (ok:TbOk b) (h0:b.wrong=0) (h:i≤b.sts.length):jhL (cdT b) i≤1728000000000:=by
 have h1:=jpR ok h0 i h
 have h2:12000^i≤12000^3:=Nat.pow_le_pow_right zA (by have:=ok.n3;omega)
 exact Nat.le_trans h1 (Nat.le_trans h2 zA)
theorem jjt (ok:TbOk b) (sm:TbSm b) (hs:s<b.sts.length) {nz:Hp} (r1:RdS B nz 1 (.slice ps 1 1) 1 (jaC [b.sts.getD s []])) (r2:RdLn B nz (.slice pw nw cw) nw (jcg b.waters s)) (r3:RdLn B nz (.slice pb nb cb) nb (jcg b.butts s)) (hnw:nw≤1000) (hnb:nb≤1000) (hh:nz.Sublist h):RawTb B h (jb8 b s) ps 1 1 pw nw cw pb nb cb:=by
 have hl: ∀ls:List Ln,(∀l∈ls,l.figs.length=b.sts.length)→(∀l∈ls,l.figs.length≤1000∧ ∀f∈l.figs,f.length≤100000)→ ∀l∈jcg ls s,l.figs.length≤1000∧ ∀f∈l.figs,f.length≤100000:=fun ls e k l hl=>by
  obtain ⟨a,ha,rfl⟩:=List.mem_map.1 hl
  refine ⟨by show 1≤1000;decide,fun f hf=>?_⟩
  obtain rfl:f=_:=by simpa using hf
  exact (k a ha).2 _ (jah (by rw [e a ha];exact hs))
 exact ⟨r1.keeps hh,Nat.le_refl _,by decide,r2.keeps hh,hnw,r3.keeps hh,hnb,⟨fun x hx=>by
  obtain rfl:x=_:=by simpa [jb8] using hx
  exact sm.sts _ (jah hs),hl _ (fun l hl=>(ok.waters.ok l hl).len) sm.wat,hl _ (fun l hl=>(ok.butts.ok l hl).len) sm.but⟩⟩
theorem jlm (hi:i<ls.length) {xw:List Lp} (e:xw.map (·.ln)=(jcg ls s).take i) {p:Option Addr} {c:Nat} {x:Ln} (hx:x=ls.getD i default):(xw++[(⟨⟨x.lat,[x.figs.getD s []]⟩,p,c⟩:Lp)]).map (·.ln)=(jcg ls s).take (i+1):=by
 have e2:(ls.map fun l=>(⟨l.lat,[l.figs.getD s []]⟩:Ln)).getD i default=⟨(ls.getD i default).lat,[(ls.getD i default).figs.getD s []]⟩:=by
  rw [List.getD_eq_getElem?_getD,List.getElem?_map,List.getElem?_eq_getElem hi,List.getD_eq_getElem?_getD (l:=ls),List.getElem?_eq_getElem hi];rfl
 rw [List.map_append,e,jcg,jcs _ i (by simpa using hi),e2,hx];rfl
theorem weak_swp (F:Hp) (a b c d:Chunk):Weak B (F++[a,b,c,d]) (F++[a,b,d,c]):=Weak.perm (List.Perm.append_left F (.cons _ (.cons _ (.swap _ _ _))))
theorem sub_mid1 (a b c d e:Hp):(b++c).Sublist (a++b++c++d++e):=by
 have:a++b++c++d++e=a++((b++c)++(d++e)):=by simp only [List.append_assoc]
 rw [this];exact (List.sublist_append_left _ _).trans (List.sublist_append_right _ _)
theorem sub_mid2 (a b c d e:Hp):(d++e).Sublist (a++b++c++d++e):=by
 rw [List.append_assoc (a++b++c)];exact List.sublist_append_right _ _
theorem sub_mid0 (a b c d e:Hp):a.Sublist (a++b++c++d++e):=by
 have:a++b++c++d++e=a++(b++c++d++e):=by simp only [List.append_assoc]
 rw [this];exact List.sublist_append_left _ _
theorem f43_c (m:Md Tryz.prog B) (h:Hp) (ra:RawTb B h b ps ns ks pw nw cw pb nb cb) (ok:TbOk b) (hs:s<b.sts.length):FnC m 43 #[tbV b ps ns ks pw nw cw pb nb cb,.int .i64 (s:Int)] h fun v h'=> ∃nz ps' pw' cw' pb' cb',h'=h++nz∧v=tbV (jb8 b s) ps' 1 1 pw' nw cw' pb' nb cb'∧RdS B nz 1 (.slice ps' 1 1) 1 (jaC [b.sts.getD s []])∧RdLn B nz (.slice pw' nw cw') nw (jcg b.waters s)∧RdLn B nz (.slice pb' nb cb') nb (jcg b.butts s):=by
 have hns:=ra.s.elen zA
 obtain ⟨lw,hlw,rlw,hfw0⟩:=ra.w
 obtain ⟨lb,hlb,rlb,hfb0⟩:=ra.u
 have hn1:=ok.n1
 have hfw:=figs_rd hn1 ok.waters hlw hfw0
 have hfb:=figs_rd hn1 ok.butts hlb hfb0
 have hwn:=ra.wn
 have hbn:=ra.un
 have hsn:=ra.sn
 have hlwl:=rlw.elen zA
 have hlbl:=rlb.elen zA
 have hsmw: ∀l∈lw.map (·.ln),l.figs.length=b.sts.length:=by rw [hlw];exact fun l hl=>(ok.waters.ok l hl).len
 have hsmb: ∀l∈lb.map (·.ln),l.figs.length=b.sts.length:=by rw [hlb];exact fun l hl=>(ok.butts.ok l hl).len
 have hlw1:=jaV ra.w
 have hlb1:=jaV ra.u
 refine jaf Tryz.func43 rfl rfl (l:=[tbV b ps ns ks pw nw cw pb nb cb,.int .i64 (s:Int),undef,undef,undef,undef,undef,undef,undef,undef,undef,undef,undef,undef,undef,undef,undef,undef,undef,undef,undef,undef,undef,undef,undef,undef,undef,undef,undef,undef,undef,undef,undef,undef,undef,undef,undef,undef,undef,undef,undef,undef,undef,undef,undef,undef,undef,undef,undef,undef,undef,undef,undef,undef,undef,undef,undef,undef,undef,undef,undef,undef,undef,undef,undef,undef,undef,undef,undef,undef,undef,undef,undef,undef,undef,undef]) rfl ?_
 intro cf cs K hK
 refine Z2 ?_
 refine jaX rfl zq (fun q2=>jau (jae ?_));refine jax rfl zq (fun q4=>jau (jae ?_));refine Z2 ?_
 obtain ⟨s_b,s_o,hsp⟩:=ra.s.ptr zO
 have rs2:=ra.s
 rw [hsp] at rs2
 refine jb3 [0,1,2,3,4,5,6,7,8,9,10] zK zK (List.Sublist.refl _) ?_;refine DrawT.split 7 9 zA ?_ ?_
 refine DrawT.leaf [Zp 0,Zp 2,Zp 4,Zr 1,Zr 3,Zp 5,Zr 6,Zk 7,Zp 8,Za 9,Zf 10] zK ?_;refine Z5 ?_;refine jcq rfl zq hsp zO zO ?_;refine jaW (v:=str (b.sts.getD s [])) rfl zq (rs2.sat s rfl zO) ?_
 refine jdk kdq rfl zq zA zA rfl (fun q7=>jau (jae ?_));refine D37 ?_
 refine jax rfl zq (fun q5=>jau (jae ?_));rotate_left
 refine DrawT.leaf [Zp 0,Zp 2,Zp 4,Zr 1,Zr 3,Zp 5,Zr 6,Za 9,Zk 7,Zp 8,Zf 10] zK ?_;refine Z5 ?_;refine jcq rfl zq hsp zO zO ?_;refine jaW (v:=str (b.sts.getD s [])) rfl zq (rs2.sat s rfl zO) ?_
 refine jax rfl zq (fun q5=>jau (jae ?_));refine jdk kdq rfl zq zA zA rfl (fun q7=>jau (jae ?_));refine D37 ?_
 all_goals
  refine D6 ?_;refine Z7 ?_
  first
   |refine m.weak (weak_swp h _ _ (⟨true,q7,.cells [str (b.sts.getD s [])].toArray 9 (0,0)⟩) (⟨true,q5,.cells [.int .i64 b.wrong,.slice (some ⟨q7,0,none⟩) 1 1,.slice none 0 0,.slice none 0 0].toArray 25 (0,0)⟩)) ?_
   |skip
  refine jai (fun nn l h'=> ∃(i:Nat) (p1:Option Addr) (c1:Nat) (xw:List Lp) (W0 FM0:Hp),nn=nw-i∧(i≤nw)∧(xw.map (·.ln)=(jcg b.waters s).take i)∧(OwnS 121 2 (.slice p1 i c1) i (jaC xw) W0)∧(OwnF xw FM0)∧(∃U:Nat→Value,l=((tbV b ps ns ks pw nw cw pb nb cb)::(.int .i64 (s:Int))::(.pointer (some ⟨q2,0,none⟩))::(U 3)::(.pointer (some ⟨q4,0,none⟩))::(.pointer (some ⟨q5,0,none⟩))::(.int .i64 (i:Int))::(U 7)::vw68 U 8 []))∧h++[⟨true,q2,.cells (tbL b ps ns ks pw nw cw pb nb cb).toArray 25 (0,0)⟩,⟨true,q4,.cells [.int .i64 0,.slice none 0 0,.slice none 0 0,.slice none 0 0].toArray 25 (0,0)⟩,⟨true,q5,.cells [.int .i64 b.wrong,.slice (some ⟨q7,0,none⟩) 1 1,.slice p1 i c1,.slice none 0 0].toArray 25 (0,0)⟩,⟨true,q7,.cells [str (b.sts.getD s [])].toArray 9 (0,0)⟩]++W0++FM0=h') _ ⟨0,none,0,[],[],[],rfl,by omega,rfl,OwnS.nil,OwnF.nil,exU rfl,zS⟩ ?_;rintro nn l h' ⟨i,p1,c1,xw,W0,FM0,rfl,hi,hmap0,how0,hof0,⟨U,rfl⟩,rfl⟩ hnext1;refine Z7 ?_
  refine jao rfl zq (fun hc=>?_) (fun hc=>?_)
  ·refine Z5 ?_
   obtain ⟨z_b,z_o,hzp⟩:=rlw.ptr zO
   have rl2:=rlw
   rw [hzp] at rl2
   obtain ⟨hxc,rdf⟩:=hfw _ (jah (l:=lw) (i:=i) zO)
   obtain ⟨x,hx⟩: ∃x,x=lw.getD i default:=⟨_,rfl⟩
   rw [←hx] at hxc rdf
   have hxm:x∈lw:=hx▸jah zO
   have hxl:x.ln.figs.length=b.sts.length:=hsmw x.ln (List.mem_map.2 ⟨x,hxm,rfl⟩)
   obtain ⟨f_b,f_o,hfp⟩:=rdf.ptr zO
   rw [hfp] at rdf
   refine jb3 (S:=h++[⟨true,q2,.cells (tbL b ps ns ks pw nw cw pb nb cb).toArray 25 (0,0)⟩,⟨true,q4,.cells [.int .i64 0,.slice none 0 0,.slice none 0 0,.slice none 0 0].toArray 25 (0,0)⟩,⟨true,q5,.cells [.int .i64 b.wrong,.slice (some ⟨q7,0,none⟩) 1 1,.slice p1 i c1,.slice none 0 0].toArray 25 (0,0)⟩,⟨true,q7,.cells [str (b.sts.getD s [])].toArray 9 (0,0)⟩]) [0,1,2,3,4,5,6,7,8,9,10,11,12,13,14,15,16,17,18,19,20,21,22] zK zK SubH.sub ?_;refine DrawT.leaf [Zp 0,Zp 2,Zp 4,Zp 8,Zp 10,Zp 14,Zr 1,Zr 3,Zp 5,Zp 6,Zr 7,Zr 9,Zp 11,Zp 12,Zr 13,Zp 15,Zr 16,Zk 17,Zp 18,Zk 19,Zk 20,Zp 21,Zf 22] zK ?_;refine Z8 ?_;refine D78 ?_;refine Zs ?_;refine jaW (v:= .int .i64 x.ln.lat) rfl zq (hx▸rl2.fat i 0 zO zO rfl) ?_;refine Zs ?_;refine D78 ?_;refine Zs ?_;refine jaW (v:= .slice x.p x.ln.figs.length x.c) rfl zq (hx▸rl2.fat i 1 zO zO rfl) ?_;refine D54 ?_;refine jaW (v:=str (x.ln.figs.getD s [])) rfl zq (rdf.sat s rfl zO) ?_;refine jdk kdq rfl zq zA zA rfl (fun q41=>jau (jae ?_));refine D37 ?_
   refine jdk kdq rfl zq zA zA rfl (fun q43=>jau (jae ?_));refine jbL rfl zq rfl how0 kdq zO zO (fun w38 n38 o38=>jae ?_);replace o38:OwnS 121 2 w38 (i+1) (jaC (xw++[⟨⟨x.ln.lat,[x.ln.figs.getD s []]⟩,some ⟨q41,0,none⟩,1⟩])) n38:=by rw [jbB];exact o38
   obtain ⟨p38,c38,rfl,_⟩:=o38.len
   have o41:OwnS 9 1 (.slice (some ⟨q41,0,none⟩) 1 1) 1 (jaC [x.ln.figs.getD s []]) [⟨true,q41,.cells [str (x.ln.figs.getD s [])].toArray 9 (0,0)⟩]:=OwnS.full rfl
   refine Zs ?_;refine D9 ?_;refine Z7 ?_;refine m.weak (h':=h++[⟨true,q2,.cells (tbL b ps ns ks pw nw cw pb nb cb).toArray 25 (0,0)⟩,⟨true,q4,.cells [.int .i64 0,.slice none 0 0,.slice none 0 0,.slice none 0 0].toArray 25 (0,0)⟩,⟨true,q5,.cells [.int .i64 b.wrong,.slice (some ⟨q7,0,none⟩) 1 1,.slice p38 (i+1) c38,.slice none 0 0].toArray 25 (0,0)⟩,⟨true,q7,.cells [str (b.sts.getD s [])].toArray 9 (0,0)⟩]++n38++(FM0++[⟨true,q41,.cells [str (x.ln.figs.getD s [])].toArray 9 (0,0)⟩])) jd7 ?_
   exact hnext1 _ _ _ zO ⟨i+1,_,_,xw++[⟨⟨x.ln.lat,[x.ln.figs.getD s []]⟩,some ⟨q41,0,none⟩,1⟩],n38,FM0++[⟨true,q41,.cells [str (x.ln.figs.getD s [])].toArray 9 (0,0)⟩],rfl,by omega,jlm (x:=x.ln) zO hmap0 (by rw [hx,←hlw,ja1 _ _ zO]),o38,.snoc hof0 o41,exU rfl,rfl⟩
  ·refine Z5 ?_
   obtain rfl:nw=i:=by omega
   refine Z4 ?_
   refine jai (fun nn l h'=> ∃(i:Nat) (p2:Option Addr) (c2:Nat) (xs:List Lp) (W FM:Hp),nn=nb-i∧(i≤nb)∧(xs.map (·.ln)=(jcg b.butts s).take i)∧(OwnS 121 2 (.slice p2 i c2) i (jaC xs) W)∧(OwnF xs FM)∧(∃U:Nat→Value,l=((tbV b ps ns ks pw nw cw pb nb cb)::(.int .i64 (s:Int))::(.pointer (some ⟨q2,0,none⟩))::(U 3)::(.pointer (some ⟨q4,0,none⟩))::(.pointer (some ⟨q5,0,none⟩))::(U 6)::(.int .i64 (i:Int))::vw68 U 8 []))∧h++[⟨true,q2,.cells (tbL b ps ns ks pw nw cw pb nb cb).toArray 25 (0,0)⟩,⟨true,q4,.cells [.int .i64 0,.slice none 0 0,.slice none 0 0,.slice none 0 0].toArray 25 (0,0)⟩,⟨true,q5,.cells [.int .i64 b.wrong,.slice (some ⟨q7,0,none⟩) 1 1,.slice p1 nw c1,.slice p2 i c2].toArray 25 (0,0)⟩,⟨true,q7,.cells [str (b.sts.getD s [])].toArray 9 (0,0)⟩]++W0++FM0++W++FM=h') _ ⟨0,none,0,[],[],[],rfl,by omega,rfl,OwnS.nil,OwnF.nil,exU rfl,zS⟩ ?_;rintro nn l h' ⟨i,p2,c2,xs,W,FM,rfl,hi2,hmap,how,hof,⟨U,rfl⟩,rfl⟩ hnext2;refine Z7 ?_
   refine jao rfl zq (fun hc=>?_) (fun hc=>?_)
   ·refine Z5 ?_
    obtain ⟨z_b,z_o,hzp⟩:=rlb.ptr zO
    have rl2:=rlb
    rw [hzp] at rl2
    obtain ⟨hxc,rdf⟩:=hfb _ (jah (l:=lb) (i:=i) zO)
    obtain ⟨x,hx⟩: ∃x,x=lb.getD i default:=⟨_,rfl⟩
    rw [←hx] at hxc rdf
    have hxm:x∈lb:=hx▸jah zO
    have hxl:x.ln.figs.length=b.sts.length:=hsmb x.ln (List.mem_map.2 ⟨x,hxm,rfl⟩)
    obtain ⟨f_b,f_o,hfp⟩:=rdf.ptr zO
    rw [hfp] at rdf
    refine jb3 (S:=h++[⟨true,q2,.cells (tbL b ps ns ks pw nw cw pb nb cb).toArray 25 (0,0)⟩,⟨true,q4,.cells [.int .i64 0,.slice none 0 0,.slice none 0 0,.slice none 0 0].toArray 25 (0,0)⟩,⟨true,q5,.cells [.int .i64 b.wrong,.slice (some ⟨q7,0,none⟩) 1 1,.slice p1 nw c1,.slice p2 i c2].toArray 25 (0,0)⟩,⟨true,q7,.cells [str (b.sts.getD s [])].toArray 9 (0,0)⟩]) [0,1,2,3,4,5,6,7,8,9,10,11,12,13,14,15,16,17,18,19,20,21,22] zK zK SubH.sub ?_;refine DrawT.leaf [Zp 0,Zp 2,Zp 4,Zp 8,Zp 10,Zp 14,Zr 1,Zr 3,Zp 5,Zp 6,Zr 7,Zr 9,Zp 11,Zp 12,Zr 13,Zp 15,Zr 16,Zk 17,Zp 18,Zk 19,Zk 20,Zp 21,Zf 22] zK ?_;refine Z8 ?_;refine D78 ?_;refine Zs ?_;refine jaW (v:= .int .i64 x.ln.lat) rfl zq (hx▸rl2.fat i 0 zO zO rfl) ?_;refine Zs ?_;refine D78 ?_;refine Zs ?_;refine jaW (v:= .slice x.p x.ln.figs.length x.c) rfl zq (hx▸rl2.fat i 1 zO zO rfl) ?_;refine D54 ?_;refine jaW (v:=str (x.ln.figs.getD s [])) rfl zq (rdf.sat s rfl zO) ?_;refine jdk kdq rfl zq zA zA rfl (fun q70=>jau (jae ?_));refine D37 ?_
    refine jdk kdq rfl zq zA zA rfl (fun q72=>jau (jae ?_));refine jbL rfl zq rfl how kdq zO zO (fun w38 n38 o38=>jae ?_);replace o38:OwnS 121 2 w38 (i+1) (jaC (xs++[⟨⟨x.ln.lat,[x.ln.figs.getD s []]⟩,some ⟨q70,0,none⟩,1⟩])) n38:=by rw [jbB];exact o38
    obtain ⟨p38,c38,rfl,_⟩:=o38.len
    have o41:OwnS 9 1 (.slice (some ⟨q70,0,none⟩) 1 1) 1 (jaC [x.ln.figs.getD s []]) [⟨true,q70,.cells [str (x.ln.figs.getD s [])].toArray 9 (0,0)⟩]:=OwnS.full rfl
    refine Zs ?_;refine D9 ?_;refine Z7 ?_;refine m.weak (h':=h++[⟨true,q2,.cells (tbL b ps ns ks pw nw cw pb nb cb).toArray 25 (0,0)⟩,⟨true,q4,.cells [.int .i64 0,.slice none 0 0,.slice none 0 0,.slice none 0 0].toArray 25 (0,0)⟩,⟨true,q5,.cells [.int .i64 b.wrong,.slice (some ⟨q7,0,none⟩) 1 1,.slice p1 nw c1,.slice p38 (i+1) c38].toArray 25 (0,0)⟩,⟨true,q7,.cells [str (b.sts.getD s [])].toArray 9 (0,0)⟩]++W0++FM0++n38++(FM++[⟨true,q70,.cells [str (x.ln.figs.getD s [])].toArray 9 (0,0)⟩])) jd7 ?_
    exact hnext2 _ _ _ zO ⟨i+1,_,_,xs++[⟨⟨x.ln.lat,[x.ln.figs.getD s []]⟩,some ⟨q70,0,none⟩,1⟩],n38,FM++[⟨true,q70,.cells [str (x.ln.figs.getD s [])].toArray 9 (0,0)⟩],rfl,by omega,jlm (x:=x.ln) zO hmap (by rw [hx,←hlb,ja1 _ _ zO]),o38,.snoc hof o41,exU rfl,rfl⟩
   ·refine Z4 ?_
    obtain rfl:nb=i:=by omega
    rw [List.take_of_length_le (by rw [jcg,List.length_map];omega)] at hmap hmap0
    have hH1:HalfO (.slice p1 nw c1) nw (jcg b.waters s) (W0++FM0):=⟨xw,_,_,_,_,rfl,hmap0,how0,hof0,rfl⟩
    have hH2:HalfO (.slice p2 nb c2) nb (jcg b.butts s) (W++FM):=⟨xs,_,_,_,_,rfl,hmap,how,hof,rfl⟩
    have r7:RdS B [⟨true,q7,.cells [str (b.sts.getD s [])].toArray 9 (0,0)⟩] 1 (.slice (some ⟨q7,0,none⟩) 1 1) 1 (jaC [b.sts.getD s []]):=(OwnS.full (t:=9) (q:=q7) (cs:=jaC [b.sts.getD s []]) rfl).rd (List.Sublist.refl _)
    refine Z2 ?_;refine D6 ?_;refine Z2 ?_;refine jad (h++[⟨true,q7,.cells [str (b.sts.getD s [])].toArray 9 (0,0)⟩]++W0++FM0++W++FM) rfl Tryz.func43 rfl jab ?_;refine Zs ?_
    exact ⟨[⟨true,q7,.cells [str (b.sts.getD s [])].toArray 9 (0,0)⟩]++W0++FM0++W++FM,_,p1,c1,p2,c2,by simp only [List.append_assoc],rfl,r7.keeps (sub_mid0 ..),hhrd hH1 (sub_mid1 ..),hhrd hH2 (sub_mid2 ..)⟩
theorem f7_t (h:Hp) {a:Tb} (rds:RdS B h 1 (.slice ps ns ks) ns (jaC a.sts)) (hcs:ns≤ks) (rdw:RdLn B h (.slice pw nw cw) nw a.waters) (rdb:RdLn B h (.slice pb nb cb) nb a.butts) (y x1:Nat) (hy:y≤255) (hx1:x1≤65535):(Md.starC Tryz.prog B).R (jie Tryz.prog B fun v _=>v= .bool true) (G (Frame.enter Tryz.prog 7 #[tbV a ps ns ks pw nw cw pb nb cb,.int .u8 (y:Int),.int .u16 (x1:Int)] .normal) []) h:=by
 refine jeb Tryz.func7 rfl rfl (l:=[tbV a ps ns ks pw nw cw pb nb cb,.int .u8 (y:Int),.int .u16 (x1:Int),undef,undef,undef,undef,undef,undef,undef,undef,undef,undef,undef,undef,undef,undef,undef,undef,undef,undef,undef,undef,undef,undef,undef,undef,undef,undef,undef,undef,undef,undef,undef,undef,undef,undef,undef,undef,undef,undef,undef,undef,undef,undef,undef,undef,undef,undef,undef,undef,undef,undef,undef,undef,undef,undef,undef,undef,undef,undef,undef,undef,undef,undef,undef,undef,undef,undef,undef,undef,undef,undef,undef,undef,undef,undef,undef,undef,undef,undef,undef,undef,undef,undef,undef,undef,undef,undef,undef,undef,undef,undef,undef,undef,undef,undef,undef,undef,undef,undef,undef,undef,undef,undef,undef,undef,undef,undef,undef,undef,undef,undef,undef,undef,undef,undef,undef,undef,undef,undef,undef,undef,undef,undef,undef,undef,undef,undef,undef,undef,undef,undef,undef,undef,undef,undef,undef,undef,undef,undef,undef]) rfl ?_;refine Z2 ?_
 refine jaX rfl zq (fun q1=>jau (jae ?_));refine Z5 ?_;refine D9 ?_;refine Z3 ?_
 obtain ⟨b,hbx⟩: ∃b:Tb,b={a with wrong:=0}:=⟨_,rfl⟩
 have h0:b.wrong=0:=by rw [hbx]
 replace rds:RdS B h 1 (.slice ps ns ks) ns (jaC b.sts):=by rw [hbx];exact rds
 replace rdw:RdLn B h (.slice pw nw cw) nw b.waters:=by rw [hbx];exact rdw
 replace rdb:RdLn B h (.slice pb nb cb) nb b.butts:=by rw [hbx];exact rdb
 rw [show ([Value.int .i64 0,.slice ps ns ks,.slice pw nw cw,.slice pb nb cb]:List Value)=tbL b ps ns ks pw nw cw pb nb cb by rw [hbx]];clear hbx
 refine Z2 ?_;refine jag (Post:=fun v=>IsB _ v) rfl zq zK (fun H' hH=>f25_c _ H' (rds.keeps (sq hH)) hcs (rdw.keeps (sq hH)) (rdb.keeps (sq hH))) ?_
 rintro v (⟨hc,rfl⟩|⟨hc,rfl⟩)
 ·refine Zs ?_
  have hfit:=hc
  have ra:=jjs rds hcs rdw rdb hfit.1
  have hz:=hfit.2
  have ok:=jaN.1 hz
  have rd:=ra.rd ok
  have h12:=jbH ok
  have hbl:=jbC ok
  refine Z7 ?_;refine jag (Post:=fun v=>v= .tuple [.int .i64 ((jac b).length:Int),.int .i64 0].toArray) rfl zq zK (fun H' hH=>by have:=f28_c (Md.starC Tryz.prog B) H' (b:=b) (ra.keeps (sq hH));rw [if_pos hz,hz] at this;exact this) ?_
  rintro v rfl;refine Z10 ?_;refine ja7 rfl zq zK (f40_c _ (ra.keeps SubH.sub)) ?_
  rintro v h' ⟨nA,wA,gA,rfl,rfl,rgA,_,hlA⟩;refine Zs ?_
  rw [hz];obtain ⟨pA,cA,rfl,_⟩:=rgA
  simp only [jfp,jkr,jez,jgq]
  have raR:=ra.ro
  have hmA:=jnM (hlA hz)
  have hne0:=jud ok (hlA hz)
  rw [h0] at hne0
  obtain ⟨hgaA,hgrA,_,_⟩:=hlA hz
  have hglA:=juJ hgaA hgrA
  have hsl:=rd.sl
  have hn1:=rd.n1
  have hn3:=ok.n3
  refine Z10 ?_;refine ja5 rfl zq rfl ?_;refine Z2 ?_;refine ja5 rfl rfl rfl ?_;refine Z15 ?_;refine (Md.starC Tryz.prog B).weak (h':=ro h++[⟨false,q1,.cells (tbL b ps ns ks pw nw cw pb nb cb).toArray 25 (0,0)⟩]) jab ?_
  refine jai (fun nn l h'=> ∃(i:Nat) (w:Nat),nn=ns-i∧(i≤ns)∧(juM (cdT b) i w)∧(w≤12*i)∧(∃U:Nat→Value,l=((tbV a ps ns ks pw nw cw pb nb cb)::(.int .u8 (y:Int))::(.int .u16 (x1:Int))::(.pointer (some ⟨q1,0,none⟩))::(U 4)::(U 5)::(U 6)::(.int .i64 ((jac b).length:Int))::(U 8)::(.slice pA gA.length cA)::(U 10)::(.int .i64 (jhL (cdT b) i:Int))::(.int .i64 (w:Int))::(.int .i64 (i:Int))::(U 14)::(U 15)::(U 16)::(U 17)::jmF U 18 []))∧ro h++[⟨false,q1,.cells (tbL b ps ns ks pw nw cw pb nb cb).toArray 25 (0,0)⟩]=h') _ ⟨0,0,rfl,by omega,jrp fun d hd=>(cd_st d hd).1,by omega,exU rfl,rfl⟩ ?_;rintro nn l h' ⟨i,w,rfl,hi,hmt,hw12,⟨U,rfl⟩,rfl⟩ hnext;refine Z7 ?_
  refine jao rfl zq (fun hc=>?_) (fun hc=>?_)
  ·refine Z6 ?_
   have hin:i<b.sts.length:=by omega
   have okB:=jmw ok hin
   have hzB:=jaN.2 okB
   have hbl2:=jbC okB
   have hpk:(jhL (cdT b) i:Int)*((jac (jb8 b i)).length:Int)=(jhL (cdT b) (i+1):Int):=by rw [jfl hin h0,jhL];exact (Int.natCast_mul _ _).symm
   have hpl:=prodK_sm ok h0 (i:=i+1) zO
   refine Z3 ?_;refine jaD rfl zq zK (Post:=fun v nz=> ∃ps' pw' cw' pb' cb',v=tbV (jb8 b i) ps' 1 1 pw' nw cw' pb' nb cb'∧ ∀H2,nz.Sublist H2→RawTb B H2 (jb8 b i) ps' 1 1 pw' nw cw' pb' nb cb') (fun H' hH=>(f43_c _ H' (raR.keeps (sq hH)) ok (s:=i) zO).mono fun v h' ⟨nz,a1,a2,a3,a4,a5,e1,e2,e3,e4,e5⟩=>⟨nz,e1,a1,a2,a3,a4,a5,e2,fun H2 hs=>jjt ok ra.sm zO e3 e4 e5 ra.wn ra.un hs⟩) ?_
   rintro v nC ⟨psC,pwC,cwC,pbC,cbC,rfl,raC⟩;refine jaH (jae ?_);refine jag (Post:=fun v=>v= .tuple [.int .i64 ((jac (jb8 b i)).length:Int),.int .i64 0].toArray) rfl zq zK (fun H' hH=>by have:=f28_c (Md.starC Tryz.prog B) H' (b:=jb8 b i) (raC H' (sq hH));rw [if_pos hzB,hzB] at this;exact this) ?_;rintro v rfl;refine Z11 ?_;refine jaD rfl zq zK (Post:=fun v nz=> ∃ps' pw' cw' pb' cb',v=tbV (jb8 b i) ps' 1 1 pw' nw cw' pb' nb cb'∧ ∀H2,nz.Sublist H2→RawTb B H2 (jb8 b i) ps' 1 1 pw' nw cw' pb' nb cb') (fun H' hH=>(f43_c _ H' (raR.keeps (sq hH)) ok (s:=i) zO).mono fun v h' ⟨nz,a1,a2,a3,a4,a5,e1,e2,e3,e4,e5⟩=>⟨nz,e1,a1,a2,a3,a4,a5,e2,fun H2 hs=>jjt ok ra.sm zO e3 e4 e5 ra.wn ra.un hs⟩) ?_
   rintro v nD ⟨psD,pwD,cwD,pbD,cbD,rfl,raD⟩;refine jaH (jae ?_);refine ja7 rfl zq zK (f40_c _ (raD _ SubH.sub)) ?_;rintro v h' ⟨nB,wB,gB,rfl,rfl,rgB,_,hlB⟩;refine Zs ?_
   rw [hzB];obtain ⟨pB,cB,rfl,_⟩:=rgB
   simp only [jfp,jkr,jez,jgq]
   have hglB:=juJ (hlB hzB).1 (hlB hzB).2.1
   have h12B:=jbH okB
   refine Z8 ?_;refine jsR ?_;refine Zs ?_;refine ja5 rfl zq rfl ?_;refine Z2 ?_;refine ja5 rfl rfl rfl ?_;refine Z3 ?_;refine jnF rfl rfl zO ?_;refine Z3 ?_;refine jfR rfl rfl zO ?_;refine Z7 ?_;refine k_mul rfl zq (by rw [hpk];unfold jfx;omega) ?_
   rw [hpk];refine Z13 ?_
   have hgB2:=(hlB hzB)
   have hmB:=juK zO (jnM hgB2)
   refine (Md.starC Tryz.prog B).weak (h':=ro h++[⟨false,q1,.cells (tbL b ps ns ks pw nw cw pb nb cb).toArray 25 (0,0)⟩]) jab ?_
   exact hnext _ _ _ zO ⟨i+1,w+gB.length,rfl,by omega,jrq hmt hmB,by omega,exU rfl,rfl⟩
  ·refine Z5 ?_
   by_cases hne:jac b=[]
   have hn0:(jac b).length=0:=by rw [hne];rfl
   have hga: ¬(gA.length:Int)≤0:=fun e=>hne0.2 e hne
   rotate_left
   have hn0:=List.length_pos_iff.2 hne
   have hga:=hne0.1 hne
   all_goals
    obtain rfl:i=ns:=by omega
    have hpa:jhL (cdT b) i=(jac b).length:=by
     rw [js1 (fun d hd=>(cd_st d hd).1) (fun d hd=>by have:=(cd_st d hd).2;omega),jac,h0];rfl
    have hwa:w=gA.length:=jrA (jtt (fun d hd=>by have:=(cd_st d hd).2;omega) hmt) hmA
    refine D41 ?_;refine Z2 ?_;refine ja5 rfl zq (by rw [hpa]) ?_;refine Z4 ?_;refine ja5 rfl rfl (by rw [hwa]) ?_;refine Z3 ?_
   ·refine jjJ rfl rfl zO ?_;refine Zs ?_;refine jbn rfl rfl zO ?_;refine k_neqBF rfl rfl zK rfl ?_;refine Z8 ?_;refine jfr rfl zq zO ?_;refine Z6 ?_;refine jbg rfl zq zK (n':=(y:Int)) zL ?_;refine Z3 ?_;refine jcp rfl zq zO ?_;obtain ⟨st,hstx⟩: ∃st,st=y%i:=⟨_,rfl⟩
    rw [←hstx];have hst:st<i:=hstx▸Nat.mod_lt _ zO
    refine Zs ?_;refine jbg rfl zq zK (n':=(x1:Int)) zL ?_;refine jcp (a:=x1) (b:=960) rfl zq zO ?_
    obtain ⟨x,hxx⟩: ∃x,x=x1%960:=⟨_,rfl⟩
    rw [←hxx];have hx:x<960:=hxx▸Nat.mod_lt _ zO
    refine Z4 ?_
    have hsr:(0:Int)≤(st:Int)∧(st:Int)<(b.sts.length:Int):=by omega
    have hxr:(0:Int)≤(x:Int)∧(x:Int)≤959:=by omega
    have hoS:=openP_in hz hsr hxr hne
    have hst2:st<b.sts.length:=by omega
    have okE:=jmw ok hst2
    have hzE:=jaN.2 okE
    have hneE:jac (jb8 b st)≠[]:=by
     rw [jfl hst2 h0];obtain ⟨z,hzz⟩:=List.exists_mem_of_ne_nil _ hne
     rw [jac,h0] at hzz
     exact List.ne_nil_of_mem (je7 hzz)
    have hoE:=openP_in hzE (st:=0) (p:=(x:Int)) ⟨by decide,by show (0:Int)<((1:Nat):Int);decide⟩ hxr hneE
    have hsE:jaE (jb8 b st) false 0 (x:Int)=jaE b false (st:Int) (x:Int):=by rw [jaE,if_pos hoE,jaE,if_pos hoS,jqU h0 hst2 hne]
    refine Z4 ?_;refine jag (Post:=fun v=>v= .tuple [.agg [.int .i64 (jaE b false (st:Int) (x:Int)).1,.int .i64 (jaE b false (st:Int) (x:Int)).2].toArray,.int .i64 0].toArray) rfl zq zK (fun H' hH=>by have:=f21_c (Md.starC Tryz.prog B) H' (raR.keeps (sq hH)) (st:Int) (x:Int);rw [hoS] at this;exact this) ?_
    rintro v rfl;refine Z4 ?_
    refine jax rfl zq (fun qx=>jau (jae ?_));refine D6 ?_;refine Z6 ?_;refine jaD rfl zq zK (Post:=fun v nz=> ∃ps' pw' cw' pb' cb',v=tbV (jb8 b st) ps' 1 1 pw' nw cw' pb' nb cb'∧ ∀H2,nz.Sublist H2→RawTb B H2 (jb8 b st) ps' 1 1 pw' nw cw' pb' nb cb') (fun H' hH=>(f43_c _ H' (raR.keeps (sq hH)) ok (s:=st) zO).mono fun v h' ⟨nz,a1,a2,a3,a4,a5,e1,e2,e3,e4,e5⟩=>⟨nz,e1,a1,a2,a3,a4,a5,e2,fun H2 hs=>jjt ok ra.sm zO e3 e4 e5 ra.wn ra.un hs⟩) ?_
    rintro v nE ⟨psE,pwE,cwE,pbE,cbE,rfl,raE⟩;refine jaH (jae ?_);refine Zs ?_;refine jag (Post:=fun v=>v= .tuple [.agg [.int .i64 (jaE b false (st:Int) (x:Int)).1,.int .i64 (jaE b false (st:Int) (x:Int)).2].toArray,.int .i64 0].toArray) rfl zq zK (fun H' hH=>by have:=f21_c (Md.starC Tryz.prog B) H' (raE H' (sq hH)) 0 (x:Int);rw [hoE,hsE] at this;exact this) ?_
    rintro v rfl;refine Z4 ?_
    refine jax rfl zq (fun qy=>jau (jae ?_));refine jhx ?_;refine jaK [Zf 0,Zf 1,Zf 2,Zf 3,Zf 4,Zf 5,Zf 6,Zf 7,Zf 8,Zf 9,Zf 10,Zf 11,Zf 12,Zf 13,Zf 14] zK zK ?_;refine Zs ?_;refine jbn rfl zq rfl ?_;refine Z2 ?_;refine jbn rfl rfl rfl ?_;refine Z4 ?_;refine jjK rfl rfl zK ⟨rfl,rfl⟩ ?_;refine Z2 ?_;refine ja7 rfl rfl zK (f20_c _) ?_
    rintro v h' ⟨nF,rfl,rfl⟩;refine Z5 ?_;refine jbw rfl Tryz.func7 zK rfl ?_
    rfl
   ·refine jfR rfl rfl zO ?_;refine Zs ?_;refine jfr rfl rfl zO ?_;refine k_neqBF rfl rfl zK rfl ?_;refine Z8 ?_;refine jbn rfl zq zO ?_;refine Z4 ?_;refine ja7 rfl zq zK (f20_c _) ?_;rintro v h' ⟨nF,rfl,rfl⟩;refine Z4 ?_;refine jbw rfl Tryz.func7 zK rfl ?_
    rfl
 ·refine Z6 ?_;refine ja7 rfl zq zK (f20_c _) ?_
  rintro v h' ⟨nF,rfl,rfl⟩;refine Z4 ?_;refine jbw rfl Tryz.func7 zK rfl ?_
  rfl
end
end Go.Proofs
