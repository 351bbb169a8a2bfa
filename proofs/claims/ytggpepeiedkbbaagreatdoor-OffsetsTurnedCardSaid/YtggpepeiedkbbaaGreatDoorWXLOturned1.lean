/- A part of the proof of a law. Condition of each theorem: as its statement says. -/
import Derived.Test.YtggpepeiedkbbaaGreatDoorVG10
set_option linter.all false
variable {B:Array Go.Obj} {l g gg g2:List Int} {C D:List Go.Lo.Cd} {d:Go.Lo.Cd} {t st p:Int} {y z:Go.Lo.Bo} {b:Go.Lo.Tb} {n k ns ks nw cw nb cb:Nat} {bt:Bool} {o:Option Int} {s:Int×Int} {f:Go.Lo.Bo→Int×Int} {L:List Go.Lo.Bo} {ps pw pb:Option Go.Addr}
set_option maxHeartbeats 4000000
set_option maxRecDepth 100000
set_option synthInstance.maxHeartbeats 1000000
set_option synthInstance.maxSize 100000
namespace Go.Proofs
open Go.Lo
open Go.Conc (G)
section
variable {P:Program} {m:Md P B} {ops:Array Oper} {l l':List Value} {S h h' H:Hp} {C:List Value→Hp→Prop} {i:Nat} {kd:Kd} {r:List (Nat×Kd)} {d:Option Tmp} {ty:TypeId} {pos:String} {af:Array Edge} {g:Option (Nat×Bool)}
theorem k_neq2F {t u:TypeId} {x y:Operand} {a b a' b':Int} (ho:ops[i]?=some ⟨d,.binOp .neq t x y u,ty,pos,af,g⟩) (hw:Wt ops l g) [kh:KHeap kd S h H] [ex:OpV l x (.agg [.int .i64 a,.int .i64 b].toArray)] [ey:OpV l y (.agg [.int .i64 a',.int .i64 b'].toArray)] [KeyT P t]
  (hg:P.eqGuardType P.depth t=false) (e:a=a'∧b=b') [pf:PutV l d (.bool false) l'] (q:RegK m S ops r l' h C):RegK m S ops ((i,kd)::r) l h C:=by
 have he:=jnh (P:=P) (B:=B) (h:=H) 9998 (t:=t) a b a' b'
 have e2:(a==a'&&b==b')=true:=by simp [e]
 rw [e2] at he
 haveI:PutV l d (.bool !true) l':=pf
 exact jtK ho hw hg he q
end
end Go.Proofs
namespace Go.Lo
theorem riX_turn {la lc ma mc:Int}:riX la lc ma mc=riX lc la mc ma:=by
 rw [Bool.eq_iff_iff,jee,jee];omega
def jfu (d:Cd):Cd:={d with butt:=!d.butt}
theorem riC_flip {a c:Cd} {m n:Int}:riC (jfu a) (jfu c) m n=riC a c m n:=by
 unfold riC jfu
 dsimp only
 by_cases h1:a.st=c.st
 ·rw [if_neg (show¬(a.st≠c.st) from fun h=>h h1),if_neg (show¬(a.st≠c.st) from fun h=>h h1)];cases ha:a.butt<;>cases hc:c.butt<;>simp [riX_turn]
 ·rw [if_pos h1,if_pos h1]
theorem nodup_cons {α:Type} {a:α} {l:List (List α)} (h:l.Nodup):(l.map (a:: ·)).Nodup:=by
 unfold List.Nodup at h⊢
 rw [List.pairwise_map];exact h.imp fun h e=>h (List.cons.inj e).2
def canNd (D:List Cd):Prop:= ∀d∈D,d.can.Nodup
theorem jfN: ∀{D:List Cd} {w:Nat},canNd D→(jak D w).Nodup
 |[],w,_=>by simp [jdq]
 |d::D,w,h=>by
  have hD: ∀w,(jak D w).Nodup:=fun w=>jfN fun e he=>h e (by simp [he])
  rw [jaO];unfold List.Nodup
  rw [List.pairwise_append];refine ⟨?_,?_,?_⟩
  ·rw [List.pairwise_flatMap];refine ⟨fun v _=>nodup_cons ((hD w).filter _),?_⟩
   refine List.Pairwise.imp (R:=(· ≠ ·)) ?_ (h d zS)
   intro a b hab x hx y hy e
   simp only [List.mem_map] at hx hy
   obtain ⟨x',_,rfl⟩:=hx
   obtain ⟨y',_,rfl⟩:=hy
   injection e with e1 e2
   injection e1 with e1
   exact hab e1
  ·cases w with
   |zero=>exact List.Pairwise.nil
   |succ w=>exact nodup_cons (hD w)
  ·intro x hx y hy e
   simp only [List.mem_flatMap,List.mem_map] at hx
   obtain ⟨v,_,x',_,rfl⟩:=hx
   cases w with
   |zero=>cases hy
   |succ w=>
    simp only [jdX,List.mem_map] at hy
    obtain ⟨y',_,rfl⟩:=hy
    cases e
theorem nones_pat {x:Bo}:(jcK x).count true=jcw x:=by
 unfold jcw jcK
 rw [List.count,List.countP_map];exact List.countP_congr fun o _=>by simp
theorem jfn {d:Cd} {v:Int} {C:List Cd} {y:Bo}: ∀{D:List Cd} {x:Bo},x.length=D.length→jam d v (D++C) (x++y)=(jam d v D x&&jam d v C y)
 |[],[],_=>by simp [jam]
 |[],_::_,h=>by simp at h
 |_::_,[],h=>by simp at h
 |e::D,some u::x,h=>by
  simp only [List.cons_append,jam]
  rw [jfn (by simpa using h),Bool.and_assoc]
 |e::D,none::x,h=>by
  simp only [List.cons_append,jam]
  rw [jfn (by simpa using h)]
theorem jgd {C:List Cd} {y:Bo}: ∀{D:List Cd} {x:Bo},x.length=D.length→okA (D++C) (x++y)=(okA D x&&okA C y&&jbh D x C y)
 |[],[],_=>by simp [okA,jbh]
 |[],_::_,h=>by simp at h
 |_::_,[],h=>by simp at h
 |e::D,some u::x,h=>by
  have hl:x.length=D.length:=by simpa using h
  simp only [List.cons_append,okA,jbh]
  rw [jgd hl,jfn hl];cases decide (u∈e.can)<;>cases jam e u D x<;>cases okA D x<;>cases okA C y<;>cases jam e u C y<;>simp
 |e::D,none::x,h=>by
  simp only [List.cons_append,okA,jbh]
  rw [jgd (by simpa using h)]
theorem jpb {x:Bo} (hx:x.length=D.length) (hy:y.length=C.length):jbh D x C y=jbh C y D x:=by
 rw [Bool.eq_iff_iff,jd5 hy hx,jd5 hx hy];constructor
 ·intro h i j v u hi hj
  rw [jes];exact h j i u v hj hi
 ·intro h i j v u hi hj
  rw [jes];exact h j i u v hj hi
theorem jil {x:Bo}:jcw (x++y)=jcw x+jcw y:=by simp [jcw]
def jdS (n:Nat) (z:Bo):Bo:=z.drop n++z.take n
theorem jlX (hz:z.length=D.length+C.length):okA (C++D) (jdS D.length z)=okA (D++C) z:=by
 have h1:(z.take D.length).length=D.length:=by rw [List.length_take];omega
 have h2:(z.drop D.length).length=C.length:=by rw [List.length_drop];omega
 unfold jdS
 rw [jgd h2];conv=>rhs;rw [←List.take_append_drop D.length z,jgd h1]
 rw [jpb h2 h1];cases okA C (z.drop D.length)<;>cases okA D (z.take D.length)<;>rfl
theorem jmT:(jdS n z).length=z.length:=by simp [jdS];omega
theorem jhG (hz:z.length=n+k):jdS k (jdS n z)=z:=by
 unfold jdS
 have:(z.drop n).length=k:=by rw [List.length_drop];omega
 rw [List.drop_left' this,List.take_left' this,List.take_append_drop]
theorem jhP:jcw (jdS n z)=jcw z:=by
 unfold jdS
 rw [jil];conv=>rhs;rw [←List.take_append_drop n z,jil]
 omega
theorem jfX:canNd (D++C)↔canNd D∧canNd C:=by
 unfold canNd
 constructor
 ·exact fun h=>⟨fun d hd=>h d (by simp [hd]),fun d hd=>h d (by simp [hd])⟩
 ·rintro ⟨h1,h2⟩ d hd;rcases List.mem_append.1 hd with hd|hd
  ·exact h1 d hd
  ·exact h2 d hd
theorem jjy {α β:Type} [DecidableEq β] {f:α→β} {l:List α} {r:List β} (hl:l.Nodup) (hr:r.Nodup) (hi: ∀x∈l,∀y∈l,f x=f y→x=y) (hm: ∀y,y∈r↔ ∃x∈l,f x=y):r.Perm (l.map f):=by
 rw [List.perm_ext_iff_of_nodup hr]
 ·intro y
  rw [hm,List.mem_map]
 ·unfold List.Nodup at*
  rw [List.pairwise_map];exact (List.Pairwise.and_mem.1 hl).imp fun ⟨hx,hy,h⟩ e=>h (hi _ hx _ hy e)
theorem jpf {w:Nat} (h:canNd (D++C)):(jak (C++D) w).Perm ((jak (D++C) w).map (jdS D.length)):=by
 rw [jfX] at h
 refine jjy (jfN (jfX.2 h)) (jfN (jfX.2 h.symm)) ?_ ?_
 ·intro x hx y hy e
  have lx:=jcd hx
  have ly:=jcd hy
  rw [List.length_append] at lx ly
  rw [←jhG lx,e,jhG ly]
 ·intro y
  constructor
  ·intro hy
   have ly:=jcd hy
   rw [List.length_append] at ly
   refine ⟨jdS C.length y,?_,jhG ly⟩
   rw [jaL] at hy⊢
   rw [jlX ly,jhP];exact hy
  ·rintro ⟨x,hx,rfl⟩;have lx:=jcd hx
   rw [List.length_append] at lx
   rw [jaL] at hx⊢
   rw [jlX lx,jhP];exact hx
theorem jfm {d:Cd} {v:Int}: ∀{D:List Cd} {x:Bo},jam (jfu d) v (D.map jfu) x=jam d v D x
 |[],_=>rfl
 |_::_,[]=>rfl
 |e::D,some u::x=>by simp only [List.map_cons,jam];rw [jfm,riC_flip]
 |e::D,none::x=>by simp only [List.map_cons,jam];rw [jfm]
theorem jgQ: ∀{D:List Cd} {w:Nat},jak (D.map jfu) w=jak D w
 |[],w=>rfl
 |d::D,w=>by
  rw [List.map_cons,jaO,jaO,jgQ];congr 1
  ·show d.can.flatMap _=_
   congr 1
   funext v
   congr 1
   exact List.filter_congr fun x _=>jfm
  ·cases w with
   |zero=>rfl
   |succ w=>show List.map _ (jak _ w)=List.map _ (jak D w);rw [jgQ]
def lowC (bt:Bool) (st p:Int) (d:Cd) (o:Option Int) (u:Int):Prop:= ∃v,o=some v∧d.st=st∧((d.butt=bt∧d.lat≤p∧u=v)∨(d.butt≠bt∧v<p∧u=d.lat))
def highC (bt:Bool) (st p:Int) (d:Cd) (o:Option Int) (u:Int):Prop:= ∃v,o=some v∧d.st=st∧((d.butt=bt∧p≤d.lat∧u=v)∨(d.butt≠bt∧p<v∧u=d.lat))
theorem bdStep_low:(jbQ bt st p d o s).1≤t↔s.1≤t∧ ∀u,lowC bt st p d o u→u≤t:=by
 unfold jbQ lowC
 rcases o with _|v
 ·simp
 ·by_cases h1:d.st=st
  ·by_cases h2:d.butt=bt
   ·by_cases h3:d.lat≤p
    ·simp [h1,h2,h3]
     omega
    ·simp [h1,h2,h3]
   ·by_cases h3:v<p
    ·simp [h1,h2,h3]
     omega
    ·simp [h1,h2,h3]
  ·simp [h1]
theorem bdStep_high:t≤(jbQ bt st p d o s).2↔t≤s.2∧ ∀u,highC bt st p d o u→t≤u:=by
 unfold jbQ highC
 rcases o with _|v
 ·simp
 ·by_cases h1:d.st=st
  ·by_cases h2:d.butt=bt
   ·by_cases h3:p≤d.lat
    ·simp [h1,h2,h3]
     omega
    ·simp [h1,h2,h3]
   ·by_cases h3:p<v
    ·simp [h1,h2,h3]
     omega
    ·simp [h1,h2,h3]
  ·simp [h1]
theorem bdK_low {D:List Cd} {x:Bo} {bt:Bool} {st p t:Int}: ∀{k:Nat},(bdK D x bt st p k).1≤t↔0≤t∧ ∀i,i<k→ ∀u,lowC bt st p (dA D i) (xA x i) u→u≤t
 |0=>by simp [bdK]
 |k+1=>by
  rw [jbD,bdStep_low,bdK_low];constructor
  ·rintro ⟨⟨h0,h1⟩,h2⟩;refine ⟨h0,fun i hi=>?_⟩
   rcases Nat.lt_or_ge i k with g|g
   ·exact h1 i g
   ·obtain rfl:i=k:=by omega
    exact h2
  ·rintro ⟨h0,h1⟩;exact E84
theorem bdK_high {D:List Cd} {x:Bo} {bt:Bool} {st p t:Int}: ∀{k:Nat},t≤(bdK D x bt st p k).2↔t≤959∧ ∀i,i<k→ ∀u,highC bt st p (dA D i) (xA x i) u→t≤u
 |0=>by simp [bdK]
 |k+1=>by
  rw [jbD,bdStep_high,bdK_high];constructor
  ·rintro ⟨⟨h0,h1⟩,h2⟩;refine ⟨h0,fun i hi=>?_⟩
   rcases Nat.lt_or_ge i k with g|g
   ·exact h1 i g
   ·obtain rfl:i=k:=by omega
    exact h2
  ·rintro ⟨h0,h1⟩;exact E84
theorem bdA_low {x:Bo}:(bdA D x bt st p).1≤t↔0≤t∧ ∀i,i<D.length→ ∀u,lowC bt st p (dA D i) (xA x i) u→u≤t:=bdK_low
theorem bdA_high {x:Bo}:t≤(bdA D x bt st p).2↔t≤959∧ ∀i,i<D.length→ ∀u,highC bt st p (dA D i) (xA x i) u→t≤u:=bdK_high
theorem spB_fold (f:Bo→Int×Int): ∀(L:List Bo) (s:Int×Int) (t:Int),(t≤(L.foldl (fun s x=>(min s.1 (f x).1,max s.2 (f x).2)) s).1↔t≤s.1∧ ∀x∈L,t≤(f x).1)∧((L.foldl (fun s x=>(min s.1 (f x).1,max s.2 (f x).2)) s).2≤t↔s.2≤t∧ ∀x∈L,(f x).2≤t)
 |[],s,t=>by simp
 |a::L,s,t=>by
  rw [List.foldl_cons];obtain ⟨h1,h2⟩:=spB_fold f L (min s.1 (f a).1,max s.2 (f a).2) t
  rw [h1,h2];simp only [List.forall_mem_cons]
  constructor
  ·constructor
   ·rintro ⟨a1,a2⟩;exact E87
   ·rintro ⟨a1,a2,a3⟩;exact ⟨by omega,a3⟩
  ·constructor
   ·rintro ⟨a1,a2⟩;exact E87
   ·rintro ⟨a1,a2,a3⟩;exact ⟨by omega,a3⟩
theorem spB_low:t≤(spB f L).1↔t≤959∧ ∀x∈L,t≤(f x).1:=(spB_fold f L (959,0) t).1
theorem spB_high:(spB f L).2≤t↔0≤t∧ ∀x∈L,(f x).2≤t:=(spB_fold f L (959,0) t).2
theorem spB_in {g:Bo→Int×Int} {M:List Bo} (h: ∀x∈L,∃y∈M,(g y).1≤(f x).1∧(f x).2≤(g y).2):(spB g M).1≤(spB f L).1∧(spB f L).2≤(spB g M).2:=by
 constructor
 ·refine spB_low.2 ⟨(spB_low.1 (Int.le_refl _)).1,fun x hx=>?_⟩
  obtain ⟨y,hy,h1,_⟩:=h x hx
  exact E89
 ·refine spB_high.2 ⟨(spB_high.1 (Int.le_refl _)).1,fun x hx=>?_⟩
  obtain ⟨y,hy,_,h2⟩:=h x hx
  exact E90
def shf (i j:Nat):Nat:=if j<i then j else j+1
theorem getD_erase {α:Type} (l:List α) (d:α) (i j:Nat):(l.eraseIdx i).getD j d=l.getD (shf i j) d:=by
 rw [List.getD_eq_getElem?_getD,List.getD_eq_getElem?_getD,List.getElem?_eraseIdx,shf];split<;>rfl
end Go.Lo
namespace Go.Proofs
open Go.Lo
theorem meaP_asc (p:List Int):Asc (jdJ p):=by
 unfold Asc jdJ
 rw [List.pairwise_map];exact (List.Pairwise.filter _ List.pairwise_lt_range).imp fun h=>by omega
theorem meaS_up (s:Str):Asc (jbl s):=by
 unfold jbl
 split
 ·exact meaP_asc _
 ·exact List.Pairwise.nil
theorem asc_nd (h:Asc l):l.Nodup:=List.Pairwise.imp (fun h=>by omega) h
section
theorem canNd_cdT (b:Tb):canNd (cdT b):=fun d hd=>by
 obtain ⟨c,_,rfl⟩:=List.mem_map.1 hd
 exact asc_nd (meaS_up _)
end
theorem count_range (p:Nat→Bool) (n:Nat):((List.range n).map p).count true=(List.range n).countP p:=by
 rw [List.count,List.countP_map];exact List.countP_congr fun a _=>by simp
theorem count_set (ha:Asc l) (hl: ∀z∈l,0≤z∧z<n):(jeq (jbS l) n).count true=l.length:=by
 unfold jeq
 rw [count_range,List.countP_eq_length_filter];have h:(((List.range n).filter fun i=>(jbS l).testBit i).map fun i:Nat=>(i:Int))=l:=by
  have a1:Asc (((List.range n).filter fun i=>(jbS l).testBit i).map fun i:Nat=>(i:Int)):=by
   unfold Asc
   rw [List.pairwise_map];exact (List.Pairwise.filter _ List.pairwise_lt_range).imp fun h=>by omega
  refine jmt a1 ha fun z=>?_
  rw [List.mem_map];constructor
  ·rintro ⟨i,hi,rfl⟩;have:=(List.mem_filter.1 hi).2
   rw [jed fun z hz=>(hl z hz).1,decide_eq_true_eq] at this
   exact this
  ·intro hz
   have:=hl z hz
   refine ⟨z.toNat,List.mem_filter.2 ⟨List.mem_range.2 zO,?_⟩,by omega⟩
   rw [jed fun z hz=>(hl z hz).1,decide_eq_true_eq,show ((z.toNat:Nat):Int)=z by omega];exact hz
 rw [←List.length_map (f:=fun i:Nat=>(i:Int)),h]
end Go.Proofs
namespace Go.Lo
open Go.Proofs
def gp (n b i:Nat):Str:=if b.testBit i then [63] else (jfw (jce n) 45).getD i []
theorem meaS_in {s:Str} {z:Int} (h:z∈jbl s):0≤z∧z≤959:=by
 unfold jbl at h
 split at h
 ·rw [jdJ] at h
  obtain ⟨k,hk,rfl⟩:=List.mem_map.1 h
  have:=List.mem_range.1 (List.mem_filter.1 hk).1
  omega
 ·cases h
end Go.Lo
namespace Go.Proofs
open Go.Lo
open Go.Conc (G)
section
variable [LaidO B]
section
variable (ok:TbOk b) (hk:k<(jaa b).length) {c:Ce} (hcx:c=(jaa b).getD k default)
include ok hk hcx
theorem drop_cells:jaa (jat b c jbG)=(jaa b).eraseIdx k:=by
 have hm:(jaa b).getD k default∈jaa b:=jah hk
 rw [hcx,jby ok (jaA hm).1,ja9 (jbu b) hk]
theorem drop_at {j:Nat} (hj:j<(jaa b).length) (hne:k≠j): ∃i,i<(jaa (jat b c jbG)).length∧shf k i=j∧(jaa (jat b c jbG)).getD i default=(jaa b).getD j default:=by
 have hi:shf k (if j<k then j else j-1)=j:=by
  by_cases h:j<k
  ·rw [if_pos h,shf,if_pos h]
  ·rw [if_neg h,shf,if_neg zO];omega
 refine ⟨if j<k then j else j-1,?_,hi,?_⟩
 ·rw [drop_cells ok hk hcx,List.length_eraseIdx,if_pos hk];split<;>omega
 ·rw [drop_cells ok hk hcx,getD_erase,hi]
end
end
section
variable [LaidO B]
theorem pat_bits {x:Bo} (h:x.length=n):jcK x=jeq (jcf x) n:=by
 apply List.ext_getElem
 ·simp [jcK,jeq,h]
 ·intro i h1 h2
  have hi:i<x.length:=by simpa [jcK] using h1
  simp only [jcK,jeq,List.getElem_map,List.getElem_range]
  rw [jdf,Bool.eq_iff_iff,Option.isNone_iff_eq_none,decide_eq_true_eq];have:xA x i=x[i]:=by rw [xA,List.getD_eq_getElem?_getD,List.getElem?_eq_getElem hi];rfl
  rw [this];exact ⟨fun e=>⟨hi,e⟩,fun e=>e.2⟩
end
end Go.Proofs
namespace Go.Proofs
open Go.Lo
theorem jqs (hl: ∀z∈l,0≤z):jc4 b (jbS l)=false↔ ∃x,okA (cdT b) x=true∧x.length=(jaa b).length∧ ∀i,i<(jaa b).length→(xA x i≠none↔(i:Int)∈l):=by
 have hp:(jeq (jbS l) (jaa b).length).length=(cdT b).length:=by rw [jbP,jaq]
 have hp2:((jeq (jbS l) (jaa b).length).map (!·)).length=(cdT b).length:=by rw [List.length_map];exact hp
 have e:jc4 b (jbS l)=false↔jbJ (jaM (jeq (jbS l) (jaa b).length) (cdT b))=true:=by
  rw [jc4];cases jbJ (jaM (jeq (jbS l) (jaa b).length) (cdT b))<;>simp
 rw [e,←jga hp];constructor
 ·intro h
  obtain ⟨x,hx⟩:=List.exists_mem_of_ne_nil _ h
  obtain ⟨h1,h2⟩:=(jdw hp2).1 hx
  have hlen:x.length=(jaa b).length:=by rw [jbj h1,jaq]
  refine ⟨x,h1,hlen,fun i hi=>?_⟩
  have h3:(jcK x)[i]?=((jeq (jbS l) (jaa b).length).map (!·))[i]?:=by rw [h2]
  rw [jcK,List.getElem?_map,List.getElem?_map,jeq,List.getElem?_map,List.getElem?_eq_getElem zO,List.getElem?_range hi] at h3
  simp only [Option.map_some,Option.some.injEq,jed hl] at h3
  rw [xA,List.getD_eq_getElem?_getD,List.getElem?_eq_getElem zO,Option.getD_some];cases hv:x[i] with
  |none=>rw [hv] at h3;simpa using h3
  |some v=>rw [hv] at h3;simpa using h3
 ·rintro ⟨x,h1,hlen,h2⟩;refine List.ne_nil_of_mem (a:=x) ((jdw hp2).2 ⟨h1,?_⟩)
  refine List.ext_getElem (by simp [jcK,jeq,hlen]) fun i h3 h4=>?_
  have hi:i<(jaa b).length:=by simpa [jcK,hlen] using h3
  have h5:=h2 i hi
  rw [xA,List.getD_eq_getElem?_getD,List.getElem?_eq_getElem zO,Option.getD_some] at h5
  simp only [jcK,jeq,List.getElem_map,List.getElem_range,jed hl]
  by_cases hm:(i:Int)∈l
  ·have:=h5.2 hm
   rw [decide_eq_true hm];cases hv:x[i] with
   |none=>exact absurd hv this
   |some v=>rfl
  ·rw [decide_eq_false hm];cases hv:x[i] with
   |none=>rfl
   |some v=>exact absurd (h5.1 (by rw [hv];simp)) hm
section
variable (hl:jcA (fun l=>jc4 b (jbS l)=true) (jaa b).length g)
include hl
end
def jaP (b:Tb):Tb:={b with waters:=b.butts,butts:=b.waters}
def jfe (c:Ce):Ce:={c with butt:=!c.butt}
theorem jea (b:Tb):jaP (jaP b)=b:=rfl
theorem jsf (k:TbOk b):TbOk (jaP b):=⟨k.wrong,k.n1,k.n3,k.names,k.butts,k.waters,by have:=k.smu;show jb1 b.butts+jb1 b.waters≤2;omega⟩
theorem jkI (b:Tb) (bt:Bool):jap (jaP b) (!bt)=jap b bt:=by cases bt<;>rfl
theorem jmJ (b:Tb) (c:Ce):jaT (jaP b) (jfe c)=jaT b c:=by
 unfold jaT
 rw [show (jfe c).butt=!c.butt from rfl,jkI];rfl
theorem turn_has (b:Tb) (c:Ce):jbO (jaP b) (jfe c)=jbO b c:=by
 unfold jbO
 rw [show (jfe c).butt=!c.butt from rfl,jkI];rfl
theorem jpq (b:Tb) (c:Ce):jbo (jaP b) (jfe c)=jbo b c:=by
 unfold jbo
 rw [jmJ];rfl
theorem jsg (b:Tb) (c:Ce):keepC' (jaP b) (jfe c)=keepC' b c:=by
 unfold keepC'
 rw [turn_has,jpq]
theorem turn_cd (b:Tb) (c:Ce):jcI (jaP b) (jfe c)=jfu (jcI b c):=by
 unfold jcI jfu
 rw [jmJ,jpq];rfl
def jmc (b:Tb) (bt:Bool):List Ce:=(jmz b.sts.length bt 0++jmz b.sts.length bt 1).filter (keepC' b)
theorem jh3 (b:Tb):jaa b=jmc b false++jmc b true:=by
 rw [jbq,jcu,List.filter_append];rfl
theorem jnd (n:Nat) (bt:Bool) (i:Nat):jmz n (!bt) i=(jmz n bt i).map jfe:=by
 unfold jmz
 rw [List.map_map];rfl
theorem jjO (b:Tb) (bt:Bool):jmc (jaP b) (!bt)=(jmc b bt).map jfe:=by
 unfold jmc
 rw [jnd,jnd,←List.map_append,List.filter_map];congr 1
 exact List.filter_congr fun c _=>jsg b c
def jhh (b:Tb) (bt:Bool):List Cd:=(jmc b bt).map (jcI b)
theorem jkd (b:Tb):cdT b=jhh b false++jhh b true:=by
 rw [cdT,jh3,List.map_append];rfl
theorem jgf (b:Tb) (bt:Bool):jhh (jaP b) (!bt)=(jhh b bt).map jfu:=by
 unfold jhh
 rw [jjO,List.map_map,List.map_map];exact List.map_congr_left fun c _=>turn_cd b c
theorem jkc (b:Tb):cdT (jaP b)=(jhh b true++jhh b false).map jfu:=by
 rw [jkd,List.map_append,←jgf,←jgf];rfl
theorem jh5 (b:Tb):(jac (jaP b)).Perm ((jac b).map (jdS (jhh b false).length)):=by
 unfold jac
 rw [jkc,jgQ];have h:=canNd_cdT b
 rw [jkd] at h⊢
 exact jpf h
theorem jl5 (b:Tb):(jac (jaP b)).length=(jac b).length:=by rw [(jh5 b).length_eq,List.length_map]
theorem jiI:y∈jac (jaP b)↔ ∃x∈jac b,jdS (jhh b false).length x=y:=by
 rw [(jh5 b).mem_iff,List.mem_map]
def jmK (n m k:Nat):Nat:=if k<n then m+k else k-n
theorem turnI_lt {m:Nat} (h:k<n+m):jmK n m k<m+n:=by unfold jmK;split<;>omega
theorem jqK {m:Nat} (h:k<n+m):jmK m n (jmK n m k)=k:=by unfold jmK;split<;>split<;>omega
theorem jlv {α:Type} {l:List α} {d:α} {m:Nat} (hl:l.length=n+m) (hk:k<n+m):(l.drop n++l.take n).getD (jmK n m k) d=l.getD k d:=by
 have h1:(l.drop n).length=m:=by rw [List.length_drop];omega
 simp only [List.getD_eq_getElem?_getD,List.getElem?_append,h1,jmK]
 by_cases h:k<n
 ·rw [if_pos h,if_neg zO,List.getElem?_take,if_pos zO,show m+k-m=k by omega]
 ·rw [if_neg h,if_pos zO,List.getElem?_drop,show n+(k-n)=k by omega]
section
abbrev nWa (b:Tb):Nat:=(jhh b false).length
abbrev nBu (b:Tb):Nat:=(jhh b true).length
theorem jdd (b:Tb):nWa b+nBu b=(jaa b).length:=by rw [←jaq,jkd,List.length_append]
theorem jiG (b:Tb):(jaa (jaP b)).length=(jaa b).length:=by rw [←jdd b,←jaq,jkc,List.length_map,List.length_append,Nat.add_comm]
theorem turn_nW (b:Tb):nWa (jaP b)=nBu b:=by
 rw [nWa,show false=!true from rfl,jgf,List.length_map]
theorem turn_nB (b:Tb):nBu (jaP b)=nWa b:=by
 rw [nBu,show true=!false from rfl,jgf,List.length_map]
abbrev tI (b:Tb) (k:Nat):Nat:=jmK (nWa b) (nBu b) k
theorem jmQ (h:k<(jaa b).length):tI b k<(jaa (jaP b)).length:=by
 rw [jiG,←jdd,Nat.add_comm];exact turnI_lt (by rw [jdd];exact h)
theorem ji7 (h:k<(jaa b).length):tI (jaP b) (tI b k)=k:=by
 rw [tI,turn_nW,turn_nB];exact jqK (by rw [jdd];exact h)
theorem jhB {x:Bo} (hx:x.length=(jaa b).length) (h:k<(jaa b).length):xA (jdS (nWa b) x) (tI b k)=xA x k:=jlv (by rw [hx,jdd]) (by rw [jdd];exact h)
theorem jog (b:Tb):jhh b true++jhh b false=(cdT b).drop (nWa b)++(cdT b).take (nWa b):=by rw [jkd,List.drop_left' rfl,List.take_left' rfl]
theorem jo9 (h:k<(jaa b).length):dA (cdT (jaP b)) (tI b k)=jfu (dA (cdT b) k):=by
 have hl:tI b k<((cdT b).drop (nWa b)++(cdT b).take (nWa b)).length:=by
  rw [←jog,←List.length_map (f:=jfu),←jkc,jaq];exact jmQ h
 have:=jlv (l:=cdT b) (d:=default) (n:=nWa b) (m:=nBu b) (k:=k) (by rw [jaq,jdd]) (by rw [jdd];exact h)
 rw [List.getD_eq_getElem?_getD,List.getElem?_eq_getElem hl,Option.getD_some] at this
 unfold dA
 rw [jkc,jog,List.getD_eq_getElem?_getD,List.getElem?_map,List.getElem?_eq_getElem hl,Option.map_some,Option.getD_some,this]
theorem juA (h:k<(jaa b).length):(jaa (jaP b)).getD (tI b k) default=jfe ((jaa b).getD k default):=by
 have e:jaa (jaP b)=((jaa b).drop (nWa b)++(jaa b).take (nWa b)).map jfe:=by
  rw [jh3 (jaP b),show jmc (jaP b) false=_ from jjO b true,show jmc (jaP b) true=_ from jjO b false,←List.map_append,jh3 b];have:nWa b=(jmc b false).length:=by rw [nWa,jhh,List.length_map]
  rw [this,List.drop_left' rfl,List.take_left' rfl]
 have hl:tI b k<((jaa b).drop (nWa b)++(jaa b).take (nWa b)).length:=by
  have:=jmQ h
  rw [e,List.length_map] at this
  exact this
 have:=jlv (l:=jaa b) (d:=default) (n:=nWa b) (m:=nBu b) (k:=k) (by rw [jdd]) (by rw [jdd];exact h)
 rw [List.getD_eq_getElem?_getD,List.getElem?_eq_getElem hl,Option.getD_some] at this
 rw [e,List.getD_eq_getElem?_getD,List.getElem?_map,List.getElem?_eq_getElem hl,Option.map_some,Option.getD_some,this]
theorem jqG (h:k<(jaa b).length):jaU (jac (jaP b)) (tI b k)=jaU (jac b) k:=by
 unfold jaU
 rw [(jh5 b).countP_eq,List.countP_map];refine List.countP_congr fun x hx=>?_
 show (xA (jdS (nWa b) x) (tI b k)).isNone=true↔_
 rw [jhB (jb2 hx) h]
theorem can_turn (h:k<(jaa b).length):jck (cdT (jaP b)) (jac (jaP b)) (tI b k)=jck (cdT b) (jac b) k:=by
 unfold jck
 rw [jo9 h];refine List.filter_congr fun v _=>?_
 rw [Bool.eq_iff_iff,List.any_eq_true,List.any_eq_true];constructor
 ·rintro ⟨y,hy,e⟩;obtain ⟨x,hx,rfl⟩:=jiI.1 hy
  exact ⟨x,hx,by rw [jhB (jb2 hx) h] at e;exact e⟩
 ·rintro ⟨x,hx,e⟩;exact ⟨_,jiI.2 ⟨x,hx,rfl⟩,by rw [jhB (jb2 hx) h];exact e⟩
theorem jtA {u:Int}:lowC (!bt) st p (jfu d) o u↔lowC bt st p d o u:=by
 unfold lowC jfu
 cases bt<;>cases d.butt<;>simp
theorem jrD {u:Int}:highC (!bt) st p (jfu d) o u↔highC bt st p d o u:=by
 unfold highC jfu
 cases bt<;>cases d.butt<;>simp
theorem jqv {x:Bo} (hx:x.length=(jaa b).length) {P:Cd→Option Int→Prop}:(∀i,i<(cdT (jaP b)).length→P (dA (cdT (jaP b)) i) (xA (jdS (nWa b) x) i))↔ ∀k,k<(cdT b).length→P (jfu (dA (cdT b) k)) (xA x k):=by
 simp only [jaq]
 constructor
 ·intro h k hk
  have:=h _ (jmQ hk)
  rw [jo9 hk,jhB hx hk] at this
  exact this
 ·intro h i hi
  have hk:=jmQ (b:=jaP b) hi
  rw [jea] at hk
  have e:=ji7 (b:=jaP b) hi
  rw [jea] at e
  have:=h _ hk
  rw [←jo9 hk,←jhB hx hk,e] at this
  exact this
theorem juH {x:Bo} (hx:x.length=(jaa b).length) (bt:Bool) (st p:Int):bdA (cdT (jaP b)) (jdS (nWa b) x) (!bt) st p=bdA (cdT b) x bt st p:=by
 have h1: ∀t,(bdA (cdT (jaP b)) (jdS (nWa b) x) (!bt) st p).1≤t↔(bdA (cdT b) x bt st p).1≤t:=fun t=>by
  rw [bdA_low,bdA_low,jqv hx (P:=fun d o=> ∀u,lowC (!bt) st p d o u→u≤t)];simp only [jtA]
 have h2: ∀t,t≤(bdA (cdT (jaP b)) (jdS (nWa b) x) (!bt) st p).2↔t≤(bdA (cdT b) x bt st p).2:=fun t=>by
  rw [bdA_high,bdA_high,jqv hx (P:=fun d o=> ∀u,highC (!bt) st p d o u→t≤u)];simp only [jrD]
 exact E93
theorem jsv (b:Tb) (bt:Bool) (st p:Int):jdT (jaP b) (!bt) st p=jdT b bt st p:=by
 have h1:=spB_in (f:=fun x=>bdA (cdT b) x bt st p) (g:=fun x=>bdA (cdT (jaP b)) x (!bt) st p) (L:=jac b) (M:=jac (jaP b)) fun x hx=>⟨_,jiI.2 ⟨x,hx,rfl⟩,by rw [juH (jb2 hx)];exact E94⟩
 have h2:=spB_in (f:=fun x=>bdA (cdT (jaP b)) x (!bt) st p) (g:=fun x=>bdA (cdT b) x bt st p) (L:=jac (jaP b)) (M:=jac b) fun y hy=>by
  obtain ⟨x,hx,rfl⟩:=jiI.1 hy
  exact ⟨x,hx,by rw [juH (jb2 hx)];exact E94⟩
 exact Prod.ext (Int.le_antisymm h1.1 h2.1) (Int.le_antisymm h2.2 h1.2)
theorem jlY: ∀{D:List Cd} {x:Bo},okA (D.map jfu) x=okA D x
 |[],[]=>rfl
 |[],_::_=>rfl
 |_::_,[]=>rfl
 |d::D,some v::x=>by simp only [List.map_cons,okA];rw [jlY,jfm];rfl
 |d::D,none::x=>by simp only [List.map_cons,okA];rw [jlY]
theorem joO {x:Bo} (hx:x.length=(jaa b).length):okA (cdT (jaP b)) (jdS (nWa b) x)=okA (cdT b) x:=by
 rw [jkc,jlY,jkd];exact jlX (by rw [hx,←jdd])
end
theorem boats_nones (hm: ∀xs,Asc xs→(∀x∈xs,0≤x∧x<((jaa b).length:Int))→jn3 b (jbS xs)=true→ ¬jff xs gg) {x:Bo} (hok:okA (cdT b) x=true):gg.length≤jcw x:=by
 have hlen:x.length=(jaa b).length:=by rw [jbj hok,jaq]
 have hlt:jcf x<2^(jaa b).length:=hlen▸jhs
 have hk:=jdl (k:=(jaa b).length) hlt
 have hin:=jiP (k:=(jaa b).length) hlt
 have hpt:=pat_bits hlen
 have h1:jn3 b (jbS (jb6 (jcf x) (jaa b).length))=true:=by
  rw [hk,jdY];exact List.ne_nil_of_mem (a:=x) ((jdw (by rw [jbP,jaq])).2 ⟨hok,hpt⟩)
 have h2:=hm _ (jdC _ _) hin h1
 have h3:(jb6 (jcf x) (jaa b).length).length=jcw x:=by
  rw [←count_set (jdC _ _) hin,hk,←hpt,nones_pat]
 rw [←h3];exact Nat.le_of_not_lt fun e=>h2 (.inl e)
theorem few_le (h:jcA (fun l=>jn3 b (jbS l)=true) (jaa b).length g) (h2:jcA (fun l=>jn3 (jaP b) (jbS l)=true) (jaa (jaP b)).length g2):g.length≤g2.length:=by
 obtain ⟨ha,hr,hp,hm⟩:=h
 obtain ⟨ha2,hr2,hp2,_⟩:=h2
 obtain ⟨y,hy⟩:=List.exists_mem_of_ne_nil _ (jdY.1 hp2)
 obtain ⟨hok,hpt⟩:=(jdw (by rw [jbP,jaq])).1 hy
 have hly:=jbj hok
 rw [jaq,jiG] at hly
 have hn:jcw y=g2.length:=by rw [←nones_pat,hpt,count_set ha2 hr2]
 have hb:=boats_nones (b:=b) hm (x:=jdS (nWa (jaP b)) y) (by have:=joO (b:=jaP b) (x:=y) (by rw [hly,jiG]);rw [jea] at this;rw [this];exact hok)
 rw [jhP,hn] at hb
 exact hb
theorem few_turn (h:jcA (fun l=>jn3 b (jbS l)=true) (jaa b).length g) (h2:jcA (fun l=>jn3 (jaP b) (jbS l)=true) (jaa (jaP b)).length g2):g.length=g2.length:=
 Nat.le_antisymm (few_le h h2) (few_le (b:=jaP b) h2 h)
def jlw (b:Tb) (g:List Int):List Int:=((List.range (jaa b).length).filter fun (k:Nat)=>decide ((tI b k:Int)∈g)).map fun (k:Nat)=>(k:Int)
theorem jeN {z:Int}:z∈jlw b g↔ ∃k:Nat,z=(k:Int)∧k<(jaa b).length∧(tI b k:Int)∈g:=by
 unfold jlw
 rw [List.mem_map];constructor
 ·rintro ⟨k,hk,rfl⟩;rw [List.mem_filter,List.mem_range,decide_eq_true_eq] at hk
  exact ⟨k,rfl,hk⟩
 ·rintro ⟨k,rfl,hk⟩;exact ⟨k,by rw [List.mem_filter,List.mem_range,decide_eq_true_eq];exact hk,rfl⟩
theorem jok (b:Tb) (g:List Int):Asc (jlw b g):=by
 unfold Asc jlw
 rw [List.pairwise_map];exact (List.Pairwise.filter _ List.pairwise_lt_range).imp fun h=>by omega
theorem jtC (hg:Asc g) (hr: ∀x∈g,0≤x∧x<((jaa (jaP b)).length:Int)):(jlw b g).length=g.length:=by
 have:=jjy (f:=fun z:Int=>(tI b z.toNat:Int)) (l:=jlw b g) (r:=g) (asc_nd (jok b g)) (asc_nd hg) (fun x hx y hy e=>by
  obtain ⟨i,rfl,hi,_⟩:=jeN.1 hx
  obtain ⟨j,rfl,hj,_⟩:=jeN.1 hy
  replace e:((tI b i:Nat):Int)=(tI b j:Nat):=e
  have e2:tI b i=tI b j:=by omega
  rw [←ji7 hi,←ji7 hj,e2]) (fun y=>by
  constructor
  ·intro hy
   have h1:=hr y hy
   obtain ⟨n,rfl⟩:=Int.eq_ofNat_of_zero_le h1.1
   have hk:=jmQ (b:=jaP b) (k:=n) zO
   rw [jea] at hk
   have e:=ji7 (b:=jaP b) (k:=n) zO
   rw [jea] at e
   refine ⟨(tI (jaP b) n:Int),jeN.2 ⟨_,rfl,hk,by rw [e];exact hy⟩,?_⟩
   show ((tI b (tI (jaP b) n):Nat):Int)=_
   rw [e]
  ·rintro ⟨x,hx,rfl⟩;obtain ⟨k,rfl,hk,hm⟩:=jeN.1 hx
   exact hm)
 rw [this.length_eq,List.length_map]
theorem jqr (h:jcA (fun l=>jc4 b (jbS l)=true) (jaa b).length g) (h2:jcA (fun l=>jc4 (jaP b) (jbS l)=true) (jaa (jaP b)).length g2):g.length≤g2.length:=by
 obtain ⟨ha,hr,hp,hm⟩:=h
 obtain ⟨ha2,hr2,hp2,_⟩:=h2
 have hin: ∀z∈jlw b g2,0≤z∧z<((jaa b).length:Int):=fun z hz=>by
  obtain ⟨k,rfl,hk,_⟩:=jeN.1 hz
  omega
 have hc:jc4 b (jbS (jlw b g2))=true:=by
  cases hb:jc4 b (jbS (jlw b g2)) with
  |true=>rfl
  |false=>
   obtain ⟨x,ox,lx,ex⟩:=(jqs fun z hz=>(hin z hz).1).1 hb
   have:jc4 (jaP b) (jbS g2)=false:=(jqs fun z hz=>(hr2 z hz).1).2 ⟨jdS (nWa b) x,by rw [joO lx];exact ox,by rw [jmT,lx,jiG],fun i hi=>by
    have hk:=jmQ (b:=jaP b) hi
    rw [jea] at hk
    have e:=ji7 (b:=jaP b) hi
    rw [jea] at e
    have e2:=jhB (b:=b) lx hk
    rw [e] at e2
    rw [e2,ex _ hk,jeN];constructor
    ·rintro ⟨k,e3,hk2,hm⟩;have:k=tI (jaP b) i:=by omega
     rw [this,e] at hm
     exact hm
    ·intro hm
     exact ⟨_,rfl,hk,by rw [e];exact hm⟩⟩
   rw [this] at hp2
   cases hp2
 have:=hm _ (jok b g2) hin hc
 rw [←jtC ha2 hr2];exact Nat.le_of_not_lt fun e=>this (.inl e)
theorem jrP (h:jcA (fun l=>jc4 b (jbS l)=true) (jaa b).length g) (h2:jcA (fun l=>jc4 (jaP b) (jbS l)=true) (jaa (jaP b)).length g2):g.length=g2.length:=
 Nat.le_antisymm (jqr h h2) (jqr (b:=jaP b) h2 h)
end Go.Proofs
namespace Go.Proofs
open Go.Lo
open Go.Conc (G)
section
variable [LaidO B]
theorem jpP {h:Hp} (r:RawTb B h b ps ns ks pw nw cw pb nb cb):RawTb B h (jaP b) ps ns ks pb nb cb pw nw cw:=⟨r.s,r.sc,r.sn,r.u,r.un,r.w,r.wn,⟨r.sm.sts,r.sm.but,r.sm.wat⟩⟩
theorem jkH (b:Tb):jbJ (cdT (jaP b))=true↔jbJ (cdT b)=true:=by
 have h: ∀b:Tb,jbJ (cdT b)=true→jbJ (cdT (jaP b))=true:=fun b hs=>by
  obtain ⟨x,h1,h2⟩:=jeI.1 hs
  have hl:x.length=(jaa b).length:=by rw [jbj h1,jaq]
  refine jeI.2 ⟨jdS (nWa b) x,by rw [joO hl];exact h1,fun o ho=>h2 o ?_⟩
  unfold jdS at ho
  exact (List.mem_append.1 ho).elim List.mem_of_mem_drop List.mem_of_mem_take
 exact ⟨h (jaP b),h b⟩
section
variable (ok:TbOk b)
include ok
theorem ji3 (own:Int):jaJ (jaP b) own=jaJ b own:=by
 unfold jaJ
 rw [jaN.2 (jsf ok),jaN.2 ok];have:jac (jaP b)=[]↔jac b=[]:=by
  rw [←List.length_eq_zero_iff,←List.length_eq_zero_iff,jl5]
 simp only [this]
theorem jse (bt:Bool) (st p:Int):jaE (jaP b) (!bt) st p=jaE b bt st p:=by
 unfold jaE
 rw [ji3 ok,jsv];rfl
theorem jqJ (h0:jbJ (cdT b)=true→g=[]) (h: ¬jbJ (cdT b)=true→jcA (fun l=>jc4 b (jbS l)=true) (jaa b).length g) (k0:jbJ (cdT (jaP b))=true→g2=[]) (k: ¬jbJ (cdT (jaP b))=true→jcA (fun l=>jc4 (jaP b) (jbS l)=true) (jaa (jaP b)).length g2):g.length=g2.length:=by
 by_cases hs:jbJ (cdT b)=true
 ·rw [h0 hs,k0 ((jkH b).2 hs)]
 ·exact jrP (h hs) (k fun e=>hs ((jkH b).1 e))
variable (hk:k<(jaa b).length) {c:Ce} (hcx:c=(jaa b).getD k default)
include hk hcx
theorem jsi:(jaa (jaP b)).getD (tI b k) default=jfe c:=by rw [hcx];exact juA hk
theorem jlu:plN (jaP b) (jfe c)=tI b k∧plN b c=k:=by
 constructor
 ·rw [←jsi ok hk hcx];exact jgr (jmQ hk)
 ·rw [hcx];exact jgr hk
theorem jhD:jaJ (jaP b) (jdv (jaP b) (jfe c))=jaJ b (jdv b c):=by
 rw [ji3 ok,←jsi ok hk hcx,jg6 (jmQ hk),hcx,jg6 hk]
theorem jsh:jeu (jaP b) (jfe c)=jeu b c:=by
 unfold jeu
 rw [jhD ok hk hcx,(jlu ok hk hcx).1,(jlu ok hk hcx).2,can_turn hk]
theorem turn_wr:(if jaJ (jaP b) (jdv (jaP b) (jfe c))=0 then jeH (jaU (jac (jaP b)) (plN (jaP b) (jfe c))) (jac (jaP b)).length else 0)=if jaJ b (jdv b c)=0 then jeH (jaU (jac b) (plN b c)) (jac b).length else 0:=by
 rw [jhD ok hk hcx,(jlu ok hk hcx).1,(jlu ok hk hcx).2,jqG hk,jl5]
end
theorem canL_sm (hk:k<(jaa b).length) {c:Ce} (hcx:c=(jaa b).getD k default):(jeu b c).length≤960:=by
 unfold jeu
 split
 ·rw [hcx,jgr hk];have h1:=jde (D:=cdT b) (L:=jac b) (k:=k)
  have h2:=jh4 b hk
  omega
 ·exact Nat.zero_le _
theorem f39_c (m:Md Tryz.prog B) (h:Hp):FnC m 39 #[tbV b ps ns ks pw nw cw pb nb cb] h fun v h'=>h'=h∧v=tbV (jaP b) ps ns ks pb nb cb pw nw cw:=by
 refine jaf Tryz.func39 rfl rfl (l:=(tbV b ps ns ks pw nw cw pb nb cb)::uu9) rfl ?_
 intro cf cs K hK
 refine Z2 ?_
 refine jaX rfl zq (fun q1=>jau (jae ?_));refine jax rfl zq (fun q2=>jau (jae ?_));refine Z8 ?_;refine D9 ?_;refine Zs ?_;refine D9 ?_;refine Z4 ?_;refine D6 ?_;refine Z2 ?_;refine jad (h) rfl Tryz.func39 rfl jab ?_;refine Zs ?_
 exact ⟨rfl,rfl⟩
theorem f6_t (h:Hp) (rds:RdS B h 1 (.slice ps ns ks) ns (jaC b.sts)) (hcs:ns≤ks) (rdw:RdLn B h (.slice pw nw cw) nw b.waters) (rdb:RdLn B h (.slice pb nb cb) nb b.butts) (y y2 x1:Nat) (hy:y≤255) (hy2:y2≤255) (hx1:x1≤65535):(Md.starC Tryz.prog B).R (jie Tryz.prog B fun v _=>v= .bool true) (G (Frame.enter Tryz.prog 6 #[tbV b ps ns ks pw nw cw pb nb cb,.int .u8 (y:Int),.int .u8 (y2:Int),.int .u16 (x1:Int)] .normal) []) h:=by
 refine jeb Tryz.func6 rfl rfl (l:=[tbV b ps ns ks pw nw cw pb nb cb,.int .u8 (y:Int),.int .u8 (y2:Int),.int .u16 (x1:Int),undef,undef,undef,undef,undef,undef,undef,undef,undef,undef,undef,undef,undef,undef,undef,undef,undef,undef,undef,undef,undef,undef,undef,undef,undef,undef,undef,undef,undef,undef,undef,undef,undef,undef,undef,undef,undef,undef,undef,undef,undef,undef,undef,undef,undef,undef,undef,undef,undef,undef,undef,undef,undef,undef,undef,undef,undef,undef,undef,undef,undef,undef,undef,undef,undef,undef,undef,undef,undef,undef,undef,undef,undef,undef,undef,undef,undef,undef,undef,undef,undef,undef,undef,undef,undef,undef,undef,undef,undef,undef,undef,undef,undef,undef,undef,undef,undef,undef,undef,undef,undef,undef,undef,undef,undef,undef,undef,undef,undef,undef,undef,undef,undef,undef,undef,undef,undef,undef,undef,undef,undef,undef,undef,undef,undef,undef,undef,undef,undef,undef,undef,undef,undef,undef,undef,undef,undef,undef,undef,undef,undef,undef,undef,undef,undef,undef,undef,undef,undef,undef,undef,undef,undef,undef,undef,undef,undef,undef,undef,undef,undef,undef,undef,undef,undef,undef,undef,undef,undef,undef,undef,undef,undef,undef,undef,undef,undef,undef,undef,undef,undef,undef,undef,undef,undef,undef,undef,undef,undef,undef,undef,undef,undef,undef,undef,undef]) rfl ?_;refine Z2 ?_
 refine jaX rfl zq (fun q1=>jau (jae ?_));refine Z6 ?_;refine jag (Post:=fun v=>IsB _ v) rfl zq zK (fun H' hH=>f25_c _ H' (rds.keeps (sq hH)) hcs (rdw.keeps (sq hH)) (rdb.keeps (sq hH))) ?_
 rintro v (⟨hc,rfl⟩|⟨hc,rfl⟩)
 ·refine Zs ?_
  have hfit:=hc
  have ra:=jjs rds hcs rdw rdb hfit.1
  have hz:=hfit.2
  have ok:=jaN.1 hz
  have rd:=ra.rd ok
  have h12:=jbH ok
  have hbl:=jbC ok
  refine Z7 ?_;refine jag (Post:=fun v=>v=tbV (jaP b) ps ns ks pb nb cb pw nw cw) rfl zq zK (fun H' hH=>f39_c _ H') ?_
  rintro v rfl;refine Zs ?_
  have okO:=jsf ok
  have hzO:=jaN.2 okO
  have raO:=jpP ra
  refine jax rfl zq (fun qo=>jau (jae ?_));refine D6 ?_;refine Z4 ?_;refine jbg rfl zq zK (n':=(y2:Int)) zL ?_;refine Z3 ?_
  have hsl:=rd.sl
  have hn1:=rd.n1
  refine jcp rfl zq zO ?_;obtain ⟨st,hstx⟩: ∃st,st=y2%ns:=⟨_,rfl⟩
  rw [←hstx];have hst:st<ns:=hstx▸Nat.mod_lt _ zO
  refine Zs ?_;refine jbg rfl zq zK (n':=(x1:Int)) zL ?_;refine jcp (a:=x1) (b:=960) rfl zq zO ?_
  obtain ⟨x,hxx⟩: ∃x,x=x1%960:=⟨_,rfl⟩
  rw [←hxx];have hx:x<960:=hxx▸Nat.mod_lt _ zO
  refine Z6 ?_;refine jag (Post:=fun v=>v= .tuple [.int .i64 ((jac b).length:Int),.int .i64 0].toArray) rfl zq zK (fun H' hH=>by have:=f28_c (Md.starC Tryz.prog B) H' (b:=b) (ra.keeps (sq hH));rw [if_pos hz,hz] at this;exact this) ?_
  rintro v rfl;refine Z10 ?_;refine jag (Post:=fun v=>v= .tuple [.int .i64 ((jac b).length:Int),.int .i64 0].toArray) rfl zq zK (fun H' hH=>by have:=f28_c (Md.starC Tryz.prog B) H' (b:=jaP b) (raO.keeps (sq hH));rw [if_pos hzO,hzO,jl5] at this;exact this) ?_
  rintro v rfl;refine Z8 ?_
  obtain ⟨sB,hsB⟩: ∃s,s=jaJ b (jfJ b (st:Int) (x:Int)):=⟨_,rfl⟩
  have hsO:jaJ (jaP b) (jfJ (jaP b) (st:Int) (x:Int))=sB:=by rw [ji3 ok,hsB];rfl
  have hpO:jaE (jaP b) true (st:Int) (x:Int)=jaE b false (st:Int) (x:Int):=jse ok false _ _
  refine Z4 ?_;refine jag (Post:=fun v=>v= .tuple [.agg [.int .i64 (jaE b false (st:Int) (x:Int)).1,.int .i64 (jaE b false (st:Int) (x:Int)).2].toArray,.int .i64 sB].toArray) rfl zq zK (fun H' hH=>by have:=f21_c (Md.starC Tryz.prog B) H' (ra.keeps (sq hH)) (st:Int) (x:Int);rw [←hsB] at this;exact this) ?_
  rintro v rfl;refine Z4 ?_
  refine jax rfl zq (fun qx=>jau (jae ?_));refine D6 ?_;refine Z7 ?_;refine jag (Post:=fun v=>v= .tuple [.agg [.int .i64 (jaE b false (st:Int) (x:Int)).1,.int .i64 (jaE b false (st:Int) (x:Int)).2].toArray,.int .i64 sB].toArray) rfl zq zK (fun H' hH=>by have:=f23_c (Md.starC Tryz.prog B) H' (raO.keeps (sq hH)) (st:Int) (x:Int);rw [hsO,hpO] at this;exact this) ?_
  rintro v rfl;refine Z4 ?_
  refine jax rfl zq (fun qy=>jau (jae ?_));refine D6 ?_;refine Z5 ?_;refine ja7 rfl zq zK (f40_c _ (ra.keeps SubH.sub)) ?_
  rintro v h' ⟨nA,wA,gA,rfl,rfl,rgA,_,hlA⟩;refine Zs ?_
  rw [hz];obtain ⟨pA,cA,rfl,_⟩:=rgA
  simp only [jfp,jkr,jez,jgq]
  have raR:=ra.ro
  have raOR:=jpP raR
  refine Z9 ?_;refine ja7 rfl zq zK (f40_c _ (raOR.keeps SubH.sub)) ?_
  rintro v h' ⟨nB,wB,gB,rfl,rfl,rgB,_,hlB⟩;refine Zs ?_
  rw [hzO];obtain ⟨pB,cB,rfl,_⟩:=rgB
  simp only [jfp,jkr,jez,jgq]
  have hfl:(gA.length:Int)=(gB.length:Int):=by rw [few_turn (hlA hz) (hlB hzO)]
  refine Z9 ?_;refine ja7 rfl zq zK (f41_c _ (raR.keeps SubH.sub)) ?_
  rintro v h' ⟨nC,wC,gC,rfl,rfl,rgC,_,h0C,hlC⟩;refine Zs ?_
  rw [hz];obtain ⟨pC,cC,rfl,_⟩:=rgC
  simp only [jfp,jkr,jez,jgq]
  refine Z9 ?_;refine ja7 rfl zq zK (f41_c _ (raOR.keeps SubH.sub)) ?_
  rintro v h' ⟨nD,wD,gD,rfl,rfl,rgD,_,h0D,hlD⟩;refine Zs ?_
  rw [hzO];obtain ⟨pD,cD,rfl,_⟩:=rgD
  simp only [jfp,jkr,jez,jgq]
  have hcl:(gC.length:Int)=(gD.length:Int):=by rw [jqJ ok (h0C hz) (hlC hz) (h0D hzO) (hlD hzO)]
  refine Z8 ?_;refine jaK [Zf 0,Zf 1,Zf 2,Zf 3,Zf 4,Zf 5,Zf 6,Zf 7,Zf 8,Zf 9,Zf 10,Zf 11,Zf 12,Zf 13,Zf 14,Zf 15,Zf 16,Zf 17,Zf 18,Zf 19,Zf 20,Zf 21,Zf 22,Zf 23,Zf 24,Zf 25,Zf 26,Zf 27,Zf 28,Zf 29,Zf 30,Zf 31,Zf 32,Zf 33,Zf 34,Zf 35,Zf 36,Zf 37,Zf 38,Zf 39,Zf 40,Zf 41] zK zK ?_;refine Z2 ?_;refine ja5 rfl zq rfl ?_;refine Z3 ?_;refine ja5 rfl rfl rfl ?_;refine Z4 ?_;refine ja5 rfl rfl rfl ?_;refine Z4 ?_;refine ja5 rfl rfl rfl ?_;refine Z4 ?_;refine ja5 rfl rfl rfl ?_;refine Z4 ?_;refine k_neq2F rfl rfl zK ⟨rfl,rfl⟩ ?_;refine Z6 ?_;refine ja5 rfl rfl hfl ?_;refine Z6 ?_;refine ja5 rfl rfl hcl ?_;refine Z5 ?_
  have rdR:=raR.rd ok
  refine Z2 ?_;refine jaD rfl zq zK (Post:=fun w new=>OwnS 37 3 w (jaa b).length (jaC (jaa b)) new) (fun H' hH=>f26_c _ H' (rdR.keeps (sq hH))) ?_
  rintro w n33 o33;refine jaH (jae ?_);obtain ⟨p33,c33,rfl,hc33,r33⟩:=jav (B:=B) o33
  refine Z7 ?_
  refine jaS rfl zq (fun hc=>?_) (fun hc=>?_)
  ·refine Z4 ?_;refine ja7 rfl zq zK (f20_c _) ?_
   rintro v h' ⟨nF,rfl,rfl⟩;refine Z4 ?_;refine jbw rfl Tryz.func6 zK rfl ?_
   rfl
  ·refine Z7 ?_;refine jbg rfl zq zK (n':=(y:Int)) zL ?_;refine Z2 ?_;refine jcp rfl zq zO ?_
   obtain ⟨k,hkx⟩: ∃k,k=y%(jaa b).length:=⟨_,rfl⟩
   rw [←hkx];have hk:k<(jaa b).length:=hkx▸Nat.mod_lt _ zO
   obtain ⟨b33,o33_,rfl⟩:=r33.ptr zO
   refine D12 ?_;refine jc5 (vs:=[.bool ((jaa b).getD k default).butt,.int .i64 ((jaa b).getD k default).line,.int .i64 ((jaa b).getD k default).st]) rfl zq rfl (r33.eat k zO zO) ?_
   obtain ⟨c,hcx⟩: ∃c,c=(jaa b).getD k default:=⟨_,rfl⟩
   rw [←hcx];refine jax rfl zq (fun qc=>jau (jae ?_));refine D6 ?_;refine Z4 ?_
   refine jax rfl zq (fun qd=>jau (jae ?_));refine D6 ?_;refine Z5 ?_;refine k_not rfl zq ?_;refine Zs ?_;refine D9 ?_;refine Z2 ?_
   obtain ⟨sC,hsC⟩: ∃s,s=jaJ b (jdv b c):=⟨_,rfl⟩
   have hsCO:=jhD ok hk hcx
   rw [←hsC] at hsCO
   obtain ⟨wC,hwC⟩: ∃w,w=if jaJ b (jdv b c)=0 then jeH (jaU (jac b) (plN b c)) (jac b).length else 0:=⟨_,rfl⟩
   have hwCO:=turn_wr ok hk hcx
   rw [←hwC] at hwCO
   have hcCO:=jsh ok hk hcx
   have hcsm:=canL_sm hk hcx
   refine Z3 ?_;refine jaD rfl zq zK (Post:=fun v nw=> ∃w,v= .tuple [w,.int .i64 sC].toArray∧RdI B nw w (jeu b c)) (fun H' hH=>by have:=f29_c (Md.starC Tryz.prog B) H' (raR.keeps (sq hH)) c;rw [←hsC] at this;exact this) ?_
   rintro v nP ⟨wP,rfl,pP,cP,rfl,rP⟩;refine jaH (jae ?_);refine Z10 ?_;refine jaD rfl zq zK (Post:=fun v nw=> ∃w,v= .tuple [w,.int .i64 sC].toArray∧RdI B nw w (jeu b c)) (fun H' hH=>by have:=f29_c (Md.starC Tryz.prog B) H' (raOR.keeps (sq hH)) (jfe c);rw [hsCO,hcCO] at this;exact this) ?_
   rintro v nQ ⟨wQ,rfl,pQ,cQ,rfl,rQ⟩;refine jaH (jae ?_);refine Z10 ?_;refine jag (Post:=fun v=>v= .tuple [.int .i64 wC,.int .i64 sC].toArray) rfl zq zK (fun H' hH=>by have:=f30_c (Md.starC Tryz.prog B) H' (raR.keeps (sq hH)) c;rw [←hwC,←hsC] at this;exact this) ?_
   rintro v rfl;refine Z11 ?_;refine jag (Post:=fun v=>v= .tuple [.int .i64 wC,.int .i64 sC].toArray) rfl zq zK (fun H' hH=>by have:=f30_c (Md.starC Tryz.prog B) H' (raOR.keeps (sq hH)) (jfe c);rw [hwCO,hsCO] at this;exact this) ?_
   rintro v rfl;refine Z8 ?_;refine jaK [Zf 0,Zf 1,Zf 2,Zf 3,Zf 4,Zf 5,Zf 6,Zf 7,Zf 8,Zf 9,Zf 10,Zf 11,Zf 12,Zf 13,Zf 14,Zf 15,Zf 16,Zf 17,Zf 18,Zf 19,Zf 20,Zf 21] zK zK ?_;refine Z2 ?_;refine jbn rfl zq rfl ?_;refine Z3 ?_;refine jbn rfl rfl rfl ?_;refine Z4 ?_;refine jag (Post:=fun v=>IsB _ v) rfl rfl zK (fun H' hH=>f42_c _ H' (rP.keeps (sq hH)) zO (rQ.keeps (sq hH))) ?_
   rintro v (⟨hc,rfl⟩|⟨hc,rfl⟩)
   ·refine Z5 ?_;refine jbn rfl rfl rfl ?_;refine Z2 ?_;refine ja7 rfl rfl zK (f20_c _) ?_
    rintro v h' ⟨nF,rfl,rfl⟩;refine Z5 ?_;refine jbw rfl Tryz.func6 zK rfl ?_
    rfl
   ·refine Zs ?_
    exact absurd rfl hc
 ·refine Z6 ?_;refine ja7 rfl zq zK (f20_c _) ?_
  rintro v h' ⟨nF,rfl,rfl⟩;refine Z4 ?_;refine jbw rfl Tryz.func6 zK rfl ?_
  rfl
end
end Go.Proofs
