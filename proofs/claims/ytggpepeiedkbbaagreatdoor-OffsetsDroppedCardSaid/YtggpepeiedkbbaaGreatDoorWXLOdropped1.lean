/- A part of the proof of a law. Condition of each theorem: as its statement says. -/
import Derived.Test.YtggpepeiedkbbaaGreatDoorVG10
set_option linter.all false
variable {S h h' H:Go.Lo.Hp} {p t st:Int} {P:Go.Program} {B:Array Go.Obj} {l l' l'':List Go.Value} {i k n j ns ks nw cw nb cb:Nat} {b:Go.Lo.Tb} {f:Go.Lo.Str} {ls:List Go.Lo.Ln} {bt:Bool} {o:Option Int} {s:Int×Int} {D:List Go.Lo.Cd} {L:List Go.Lo.Bo} {xs:List Int} {ps pw pb pw' pb' p1 p2 ps2 pw2 pb2:Option Go.Addr}
set_option maxHeartbeats 4000000
set_option maxRecDepth 100000
set_option synthInstance.maxHeartbeats 1000000
set_option synthInstance.maxSize 100000
namespace Go.Proofs
open Go.Lo
open Go.Conc (G)
section
end
theorem jnN {p:Prop} {v:Value} (h:IsB p v) (k: ¬p):v= .bool false:=h.elim (fun x=>absurd x.1 k) fun x=>x.2
end Go.Proofs
namespace Go.Lo
open Go.Conc (G)
section
end
section
variable {m:Md P B} {ops:Array Oper} {C:List Value→Hp→Prop} {kd:Kd} {r:List (Nat×Kd)} {d:Option Tmp} {ty:TypeId} {pos:String} {af:Array Edge} {g:Option (Nat×Bool)}
theorem k_eqlC {t u:TypeId} {x y:Operand} {a b a' b':Int} {c c':Bool} (ho:ops[i]?=some ⟨d,.binOp .eql t x y u,ty,pos,af,g⟩) (hw:Wt ops l g) [kh:KHeap kd S h H] [ex:OpV l x (.agg [.bool c,.int .i64 a,.int .i64 b].toArray)] [ey:OpV l y (.agg [.bool c',.int .i64 a',.int .i64 b'].toArray)] [KeyCT P t]
  (hg:P.eqGuardType P.depth t=false) [pt:PutV l d (.bool true) l'] [pf:PutV l d (.bool false) l''] (yes:c=c'∧a=a'∧b=b'→RegK m S ops r l' h C) (no: ¬(c=c'∧a=a'∧b=b')→RegK m S ops r l'' h C):RegK m S ops ((i,kd)::r) l h C:=by
 have he:=jjr (P:=P) (B:=B) (h:=H) 9997 (t:=t) c c' a b a' b'
 by_cases hx:c=c'∧a=a'∧b=b'
 ·have e2:(c==c'&&(a==a'&&b==b'))=true:=by simp [hx]
  rw [e2] at he
  exact jk7 ho hw hg he (yes hx)
 ·have e2:(c==c'&&(a==a'&&b==b'))=false:=by simpa using hx
  rw [e2] at he
  exact jk7 ho hw hg he (no hx)
end
end Go.Lo
namespace Go.Lo
section
end
theorem setF_lat {c:Ce} (hc:jbO b c=true) {d:Ce} (hd:jbO b d=true):(jaT (jat b c f) d).lat=(jaT b d).lat:=by
 rw [jfD hc d hd];split
 ·rename_i h
  simp only [jaT,h.1,h.2]
 ·rfl
theorem setF_cdOf (k:TbOk b) {c:Ce} (hc:jbO b c=true) {d:Ce} (hd:jbO b d=true) (hne:d≠c):jcI (jat b c f) d=jcI b d:=by
 simp only [jcI,setF_lat hc hd,jdU k hc hd,if_neg hne]
theorem map_eraseIdx' {α β:Type} (f:α→β): ∀(l:List α) (i:Nat),(l.eraseIdx i).map f=(l.map f).eraseIdx i
 |[],_=>rfl
 |a::l,0=>rfl
 |a::l,i+1=>by simp [map_eraseIdx' f l i]
theorem cdT_drop (k:TbOk b) (hi:i<(jaa b).length):cdT (jat b ((jaa b).getD i default) jbG)=(cdT b).eraseIdx i:=by
 have hm:(jaa b).getD i default∈jaa b:=by rw [List.getD_eq_getElem?_getD,List.getElem?_eq_getElem hi];exact E52
 have hc:=(jaA hm).1
 rw [cdT,jby k hc,cdT,←map_eraseIdx',←ja9 (jbu b) hi];refine List.map_congr_left fun d hd=>?_
 rw [List.mem_filter,decide_eq_true_eq] at hd
 exact setF_cdOf k hc (jaA hd.1).1 hd.2
theorem sum_set (l:List Nat) (i:Nat) (x:Nat) (hi:i<l.length):(l.set i x).sum+l.getD i 0=l.sum+x:=by
 induction l generalizing i with
 |nil=>simp at hi
 |cons a l ih=>
  cases i with
  |zero=>simp;omega
  |succ i=>
   have:=ih i (by simpa using hi)
   simp only [List.set_cons_succ,List.sum_cons,List.getD_cons_succ]
   omega
theorem updL_smu (hi:i<ls.length) (hk:k<(ls.getD i default).figs.length):jb1 (jex ls i k f)+jb0 ((ls.getD i default).figs.getD k [])=jb1 ls+jb0 f:=by
 have e1:jb1 (jex ls i k f)=((ls.map jcQ).set i (jcQ {ls.getD i default with figs:=(ls.getD i default).figs.set k f})).sum:=by
  rw [jb1,jex,List.map_set]
 have e2:=sum_set (ls.map jcQ) i (jcQ {ls.getD i default with figs:=(ls.getD i default).figs.set k f}) (by simpa using hi)
 have e3:(ls.map jcQ).getD i 0=jcQ (ls.getD i default):=by
  rw [List.getD_eq_getElem?_getD,List.getElem?_map,List.getElem?_eq_getElem hi,List.getD_eq_getElem?_getD,List.getElem?_eq_getElem hi];rfl
 have e4:jcQ {ls.getD i default with figs:=(ls.getD i default).figs.set k f}=(((ls.getD i default).figs.map jb0).set k (jb0 f)).sum:=by
  rw [jcQ,List.map_set]
 have e5:=sum_set ((ls.getD i default).figs.map jb0) k (jb0 f) (by simpa using hk)
 have e6:((ls.getD i default).figs.map jb0).getD k 0=jb0 ((ls.getD i default).figs.getD k []):=by
  generalize (ls.getD i default).figs=gg at hk⊢
  rw [List.getD_eq_getElem?_getD,List.getElem?_map,List.getElem?_eq_getElem hk,List.getD_eq_getElem?_getD,List.getElem?_eq_getElem hk];rfl
 have e7:jcQ (ls.getD i default)=((ls.getD i default).figs.map jb0).sum:=rfl
 have e8:jb1 ls=(ls.map jcQ).sum:=rfl
 omega
theorem updL_ok (k:LsOk n ls) (hi:i<ls.length) (hf:jbx f=true):LsOk n (jex ls i j f):=by
 have hmem:ls.getD i default∈ls:=jah hi
 have ho:=k.ok _ hmem
 refine ⟨by rw [jd8];exact k.two,fun l hl=>?_,?_⟩
 ·rcases List.mem_or_eq_of_mem_set hl with hl|rfl
  ·exact k.ok l hl
  ·refine ⟨ho.lat,by simpa using ho.len,fun g hg=>?_⟩
   rcases List.mem_or_eq_of_mem_set hg with hg|rfl
   ·exact ho.fig g hg
   ·exact hf
 ·have:(jex ls i j f).map (·.lat)=ls.map (·.lat):=by
   rw [jex,List.map_set];refine List.ext_getElem zS fun a h1 h2=>?_
   rw [List.getElem_set];split
   ·rename_i e
    subst e
    rw [List.getElem_map,List.getD_eq_getElem?_getD,List.getElem?_eq_getElem hi];rfl
   ·rfl
  have h1:((jex ls i j f).map (·.lat)).Pairwise (· < ·):=by rw [this,List.pairwise_map];exact k.up
  rwa [List.pairwise_map] at h1
theorem setF_ok (k:TbOk b) {c:Ce} (hc:jbO b c=true) (hf:jbx f=true) (hs:jb1 b.waters+jb1 b.butts+jb0 f≤2+jb0 (jbo b c)):TbOk (jat b c f):=by
 have h1:=jbk.1 hc
 have hlen:=((k.lines c.butt).ok _ (jbz hc)).len
 have hsm:=updL_smu (ls:=jap b c.butt) (i:=c.line.toNat) (k:=c.st.toNat) (f:=f) zO (by rw [jaT] at hlen;omega)
 have hfe:jb0 (((jap b c.butt).getD c.line.toNat default).figs.getD c.st.toNat [])=jb0 (jbo b c):=rfl
 refine ⟨by simpa using k.wrong,by simpa using k.n1,by simpa using k.n3,by simpa using k.names,?_,?_,?_⟩
 ·have:(jat b c f).waters=jap (jat b c f) false:=rfl
  rw [this,jbb,jbF];split
  ·rename_i e
   exact updL_ok k.waters (by
   have h3:c.line<((jap b false).length:Int):=by rw [e];exact h1.2.1
   have h4:(jap b false).length=b.waters.length:=rfl
   show c.line.toNat<b.waters.length
   omega) hf
  ·exact k.waters
 ·have:(jat b c f).butts=jap (jat b c f) true:=rfl
  rw [this,jbb,jbF];split
  ·rename_i e
   exact updL_ok k.butts (by
   have h3:c.line<((jap b true).length:Int):=by rw [e];exact h1.2.1
   have h4:(jap b true).length=b.butts.length:=rfl
   show c.line.toNat<b.butts.length
   omega) hf
  ·exact k.butts
 ·have e1:(jat b c f).waters=jap (jat b c f) false:=rfl
  have e2:(jat b c f).butts=jap (jat b c f) true:=rfl
  rw [e1,e2,jbb,jbb];cases hb:c.butt with
  |false=>
   rw [hb] at hsm hfe
   rw [if_pos rfl,if_neg zS];have:jb1 (jap b false)=jb1 b.waters:=rfl
   have:jb1 (jap b true)=jb1 b.butts:=rfl
   omega
  |true=>
   rw [hb] at hsm hfe
   rw [if_neg zS,if_pos rfl];have:jb1 (jap b false)=jb1 b.waters:=rfl
   have:jb1 (jap b true)=jb1 b.butts:=rfl
   omega
theorem smuF_dash:jb0 jbG=0:=by decide
theorem isFig_dash:jbx jbG=true:=by decide
theorem setF_ok_drop (k:TbOk b) {c:Ce} (hc:jbO b c=true):TbOk (jat b c jbG):=setF_ok k hc isFig_dash (by rw [smuF_dash];have:=k.smu;omega)
def lowC (bt:Bool) (st p:Int) (d:Cd) (o:Option Int) (u:Int):Prop:= ∃v,o=some v∧d.st=st∧((d.butt=bt∧d.lat≤p∧u=v)∨(d.butt≠bt∧v<p∧u=d.lat))
def highC (bt:Bool) (st p:Int) (d:Cd) (o:Option Int) (u:Int):Prop:= ∃v,o=some v∧d.st=st∧((d.butt=bt∧p≤d.lat∧u=v)∨(d.butt≠bt∧p<v∧u=d.lat))
theorem bdStep_low {d:Cd}:(jbQ bt st p d o s).1≤t↔s.1≤t∧ ∀u,lowC bt st p d o u→u≤t:=by
 unfold jbQ lowC
 rcases o with _|v
 ·simp
 ·by_cases h1:d.st=st
  ·by_cases h2:d.butt=bt
   ·by_cases h3:d.lat≤p
    ·simp [h1,h2,h3]
     omega
    ·simp [h1,h2,h3]
   ·by_cases h3:v<p
    ·simp [h1,h2,h3]
     omega
    ·simp [h1,h2,h3]
  ·simp [h1]
theorem bdStep_high {d:Cd}:t≤(jbQ bt st p d o s).2↔t≤s.2∧ ∀u,highC bt st p d o u→t≤u:=by
 unfold jbQ highC
 rcases o with _|v
 ·simp
 ·by_cases h1:d.st=st
  ·by_cases h2:d.butt=bt
   ·by_cases h3:p≤d.lat
    ·simp [h1,h2,h3]
     omega
    ·simp [h1,h2,h3]
   ·by_cases h3:p<v
    ·simp [h1,h2,h3]
     omega
    ·simp [h1,h2,h3]
  ·simp [h1]
theorem bdK_low {D:List Cd} {x:Bo} {bt:Bool} {st p t:Int}: ∀{k:Nat},(bdK D x bt st p k).1≤t↔0≤t∧ ∀i,i<k→ ∀u,lowC bt st p (dA D i) (xA x i) u→u≤t
 |0=>by simp [bdK]
 |k+1=>by
  rw [jbD,bdStep_low,bdK_low];constructor
  ·rintro ⟨⟨h0,h1⟩,h2⟩;refine ⟨h0,fun i hi=>?_⟩
   rcases Nat.lt_or_ge i k with g|g
   ·exact h1 i g
   ·obtain rfl:i=k:=by omega
    exact h2
  ·rintro ⟨h0,h1⟩;exact E84
theorem bdK_high {D:List Cd} {x:Bo} {bt:Bool} {st p t:Int}: ∀{k:Nat},t≤(bdK D x bt st p k).2↔t≤959∧ ∀i,i<k→ ∀u,highC bt st p (dA D i) (xA x i) u→t≤u
 |0=>by simp [bdK]
 |k+1=>by
  rw [jbD,bdStep_high,bdK_high];constructor
  ·rintro ⟨⟨h0,h1⟩,h2⟩;refine ⟨h0,fun i hi=>?_⟩
   rcases Nat.lt_or_ge i k with g|g
   ·exact h1 i g
   ·obtain rfl:i=k:=by omega
    exact h2
  ·rintro ⟨h0,h1⟩;exact E84
theorem bdA_low {x:Bo}:(bdA D x bt st p).1≤t↔0≤t∧ ∀i,i<D.length→ ∀u,lowC bt st p (dA D i) (xA x i) u→u≤t:=bdK_low
theorem bdA_high {x:Bo}:t≤(bdA D x bt st p).2↔t≤959∧ ∀i,i<D.length→ ∀u,highC bt st p (dA D i) (xA x i) u→t≤u:=bdK_high
theorem spB_fold (f:Bo→Int×Int): ∀(L:List Bo) (s:Int×Int) (t:Int),(t≤(L.foldl (fun s x=>(min s.1 (f x).1,max s.2 (f x).2)) s).1↔t≤s.1∧ ∀x∈L,t≤(f x).1)∧((L.foldl (fun s x=>(min s.1 (f x).1,max s.2 (f x).2)) s).2≤t↔s.2≤t∧ ∀x∈L,(f x).2≤t)
 |[],s,t=>by simp
 |a::L,s,t=>by
  rw [List.foldl_cons];obtain ⟨h1,h2⟩:=spB_fold f L (min s.1 (f a).1,max s.2 (f a).2) t
  rw [h1,h2];simp only [List.forall_mem_cons]
  constructor
  ·constructor
   ·rintro ⟨a1,a2⟩;exact E87
   ·rintro ⟨a1,a2,a3⟩;exact ⟨by omega,a3⟩
  ·constructor
   ·rintro ⟨a1,a2⟩;exact E87
   ·rintro ⟨a1,a2,a3⟩;exact ⟨by omega,a3⟩
theorem spB_low {f:Bo→Int×Int}:t≤(spB f L).1↔t≤959∧ ∀x∈L,t≤(f x).1:=(spB_fold f L (959,0) t).1
theorem spB_high {f:Bo→Int×Int}:(spB f L).2≤t↔0≤t∧ ∀x∈L,(f x).2≤t:=(spB_fold f L (959,0) t).2
theorem spB_in {f g:Bo→Int×Int} {M:List Bo} (h: ∀x∈L,∃y∈M,(g y).1≤(f x).1∧(f x).2≤(g y).2):(spB g M).1≤(spB f L).1∧(spB f L).2≤(spB g M).2:=by
 constructor
 ·refine spB_low.2 ⟨(spB_low.1 (Int.le_refl _)).1,fun x hx=>?_⟩
  obtain ⟨y,hy,h1,_⟩:=h x hx
  exact E89
 ·refine spB_high.2 ⟨(spB_high.1 (Int.le_refl _)).1,fun x hx=>?_⟩
  obtain ⟨y,hy,_,h2⟩:=h x hx
  exact E90
def shf (i j:Nat):Nat:=if j<i then j else j+1
theorem getD_erase {α:Type} (l:List α) (d:α) (i j:Nat):(l.eraseIdx i).getD j d=l.getD (shf i j) d:=by
 rw [List.getD_eq_getElem?_getD,List.getD_eq_getElem?_getD,List.getElem?_eraseIdx,shf];split<;>rfl
theorem jgU (x:Bo) (i j:Nat):xA (x.eraseIdx i) j=xA x (shf i j):=getD_erase x none i j
theorem jgi (D:List Cd) (i j:Nat):dA (D.eraseIdx i) j=dA D (shf i j):=getD_erase D default i j
theorem shf_lt (h:j<k):shf i j<shf i k:=by unfold shf;split<;>split<;>omega
theorem jnu {x:Bo} (h:okA D x=true) (i:Nat):okA (D.eraseIdx i) (x.eraseIdx i)=true:=by
 obtain ⟨h1,h2,h3⟩:=jcv.1 h
 refine jcv.2 ⟨by rw [List.length_eraseIdx,List.length_eraseIdx,h1],fun j v e=>?_,fun j k v u hjk ej ek=>?_⟩
 ·rw [jgU] at e
  rw [jgi];exact h2 _ v e
 ·rw [jgU] at ej ek
  rw [jgi,jgi];exact h3 _ _ v u (shf_lt hjk) ej ek
theorem joX (x:Bo) (i:Nat):jcw (x.eraseIdx i)≤jcw x:=by
 unfold jcw
 exact (List.eraseIdx_sublist x i).countP_le
theorem jgO {w:Nat} {x:Bo} (h:x∈jak D w) (i:Nat):x.eraseIdx i∈jak (D.eraseIdx i) w:=by
 obtain ⟨h1,h2⟩:=jaL.1 h
 exact jaL.2 ⟨jnu h1 i,Nat.le_trans (joX x i) h2⟩
theorem bd_erase {x:Bo} (i:Nat):(bdA (D.eraseIdx i) (x.eraseIdx i) bt st p).1≤(bdA D x bt st p).1∧(bdA D x bt st p).2≤(bdA (D.eraseIdx i) (x.eraseIdx i) bt st p).2:=by
 have hlen: ∀j,j<(D.eraseIdx i).length→shf i j<D.length:=fun j hj=>by
  rw [List.length_eraseIdx] at hj
  unfold shf
  split at hj<;>split<;>omega
 constructor
 ·refine bdA_low.2 ⟨(bdA_low.1 (Int.le_refl _)).1,fun j hj u hu=>?_⟩
  rw [jgi,jgU] at hu
  exact (bdA_low.1 (Int.le_refl _)).2 _ (hlen j hj) u hu
 ·refine bdA_high.2 ⟨(bdA_high.1 (Int.le_refl _)).1,fun j hj u hu=>?_⟩
  rw [jgi,jgU] at hu
  exact (bdA_high.1 (Int.le_refl _)).2 _ (hlen j hj) u hu
theorem jqT {w:Nat} (i:Nat):(spB (fun x=>bdA (D.eraseIdx i) x bt st p) (jak (D.eraseIdx i) w)).1≤(spB (fun x=>bdA D x bt st p) (jak D w)).1∧(spB (fun x=>bdA D x bt st p) (jak D w)).2≤(spB (fun x=>bdA (D.eraseIdx i) x bt st p) (jak (D.eraseIdx i) w)).2:=
 spB_in fun x hx=>⟨x.eraseIdx i,jgO hx i,bd_erase i⟩
theorem juC {w:Nat} {v:Int} (h:v∈jck D (jak D w) (shf i j)):v∈jck (D.eraseIdx i) (jak (D.eraseIdx i) w) j:=by
 obtain ⟨h1,h2⟩:=List.mem_filter.1 h
 obtain ⟨x,hx,e⟩:=List.any_eq_true.1 h2
 exact List.mem_filter.2 ⟨by rw [jgi];exact h1,List.any_eq_true.2 ⟨_,jgO hx i,by rw [jgU];exact e⟩⟩
theorem joB (i:Nat) (h:jbJ D=true):jbJ (D.eraseIdx i)=true:=by
 obtain ⟨x,h1,h2⟩:=jeI.1 h
 exact jeI.2 ⟨x.eraseIdx i,jnu h1 i,fun o ho=>h2 o ((List.eraseIdx_sublist x i).subset ho)⟩
end Go.Lo
namespace Go.Proofs
open Go.Lo
open Go.Conc (G)
section
theorem f35_c (m:Md Tryz.prog B) (h:Hp) {p:Option Addr} {c:Nat} (x:Int) (rd:RdS B h 1 (.slice p n c) n (jaI xs)) (hn:n≤1000000):FnC m 35 #[.slice p n c,.int .i64 x] h fun v h'=>h'=h∧IsB (x∈xs) v:=by
 have hl:=rd.ilen
 refine jaf Tryz.func35 rfl rfl (l:=(.slice p n c)::(.int .i64 x)::uu16) rfl ?_
 intro cf cs K hK
 refine Z10 ?_
 refine jai (fun nn l h'=> ∃(k:Nat),nn=n-k∧(k≤n)∧(∀i,i<k→xs.getD i 0≠x)∧(∃U:Nat→Value,l=((.slice p n c)::(.int .i64 x)::(U 2)::(U 3)::(U 4)::(.int .i64 (k:Int))::vw12 U 6 []))∧h=h') _ ⟨0,rfl,by omega,by omega,exU rfl,rfl⟩ ?_;rintro nn l h' ⟨k,rfl,hk,he,⟨U,rfl⟩,rfl⟩ hnext;refine Z6 ?_
 refine jao rfl zq (fun hc=>?_) (fun hc=>?_)
 ·refine Z9 ?_
  obtain ⟨rd_b,rd_o,rfl⟩:=rd.ptr zO
  refine D0 ?_;refine jaW rfl zq (rd.iat k zO zO) ?_;refine Zs ?_
  refine jaS rfl zq (fun hc=>?_) (fun hc=>?_)
  ·refine Z7 ?_;refine jad (h) rfl Tryz.func35 rfl jab ?_;refine Zs ?_
   exact E73
  ·refine Z9 ?_
   exact m.weak jab (hnext _ _ _ zO ⟨k+1,rfl,by omega,fun i hi=>by
    rcases Nat.lt_or_ge i k with h1|h1
    ·exact he i h1
    ·obtain rfl:i=k:=by omega
     assumption,exU rfl,rfl⟩)
 ·refine Z8 ?_;refine jad (h) rfl Tryz.func35 rfl jab ?_;refine Zs ?_
  exact ⟨rfl,IsB.no fun e=>by
   obtain ⟨i,h1,h2⟩:=jcU.1 e
   exact he i zO h2⟩
end
section
variable [LaidO B]
def jml (b:Tb) (c:Ce):Int:=if tbS b≠0 then tbS b else if c∉jaa b then 6 else 0
end
section
variable [LaidO B]
theorem f75_c (m:Md Tryz.prog B) (h:Hp) (ra:RawTb B h b ps ns ks pw nw cw pb nb cb) (c:Ce):FnC m 75 #[tbV b ps ns ks pw nw cw pb nb cb,cV c.butt c.line c.st] h fun v h'=> ∃new,h'=h++new∧jrX B (jml b c) (jat b c jbG) new v:=by
 refine jaf Tryz.func75 rfl rfl (l:=(tbV b ps ns ks pw nw cw pb nb cb)::(cV c.butt c.line c.st)::jpn) rfl ?_
 intro cf cs K hK
 refine Z2 ?_
 refine jaX rfl zq (fun q2=>jau (jae ?_));refine jaX rfl zq (fun q3=>jau (jae ?_));refine jax rfl zq (fun q4=>jau (jae ?_));refine Z6 ?_;refine D53 ?_
 rintro v rfl;refine Z6 ?_
 refine jbK rfl zq (fun hc=>?_) (fun hc=>?_)
 ·refine Z4 ?_;refine D37 ?_;refine Zs ?_;refine jhx ?_;refine jad (h) rfl Tryz.func75 rfl jab ?_;refine Zs ?_
  have e1:jml b c=tbS b:=by rw [jml,if_pos hc]
  exact ⟨[],by simp,by rw [e1];exact ji6 hc⟩
 ·refine Z5 ?_
  have hz0:tbS b=0:=by omega
  have hk:=jaN.1 hz0
  refine jb3 [0,1,2,3,4,5] zK zK (List.Sublist.refl _) ?_;refine DrawT.leaf [Zr 0,Zr 2,Zk 1,Zk 3,Zk 4,Zp 5] zK ?_;refine Z2 ?_;refine D7 ?_;rintro v nz ⟨qs,rfl,rfl⟩;refine jaH (jae ?_);refine D18 ?_
  rintro v n9 ⟨q9,rfl,sh⟩;refine jaH (jae ?_);refine jgt (Post:=fun v=>v= .int .i64 (jdv b c)) rfl zq jmr (fun H' hH=>by
   have hs9:n9.Sublist H':=List.Sublist.trans zW hH
   simpa [jdv] using f149_c m H' (sh.keeps hs9) (c:=c) (RdN.keepsN (jlM (q:=qs)) hH)) ?_
  rintro v rfl;refine Z6 ?_
  refine jbK rfl zq (fun hc=>?_) (fun hc=>?_)
  ·refine Z4 ?_;refine D37 ?_;refine Zs ?_;refine jhx ?_;refine jad (h) rfl Tryz.func75 rfl jab ?_;refine Zs ?_
   have hno:c∉jaa b:=fun e=>by
    have hcc:=hc
    rw [jdv,if_pos e] at hcc
    exact hcc rfl
   have e1:jml b c=6:=by rw [jml,if_neg (fun e=>e hz0),if_pos hno]
   exact ⟨[],by simp,by rw [e1,jdv,if_neg hno];exact ji6 zA⟩
  ·refine Z4 ?_
   have hin:c∈jaa b:=Classical.byContradiction fun e=>by
    have hcc:=hc
    rw [jdv,if_neg e] at hcc
    omega
   have hht:=(jaA hin).1
   have rd:=ra.rd hk
   have e0:jml b c=0:=by rw [jml,if_neg (fun e=>e hz0),if_neg (fun e=>e hin)]
   refine Z3 ?_;refine jaD rfl zq zK (Post:=fun v nz=> ∃ps' ks' pw' cw' pb' cb',v=tbV (jat b c jbG) ps' ns ks' pw' nw cw' pb' nb cb'∧RawTb B nz (jat b c jbG) ps' ns ks' pw' nw cw' pb' nb cb') (fun H' hH=>CallF.mono (f112_c m H' (rd.keeps (sq hH)) hht jbG zA) fun v h' ⟨nz,p1,k1,p2,k2,p3,k3,e1,e2,e3⟩=>⟨nz,e1,p1,k1,p2,k2,p3,k3,e2,e3⟩) ?_
   rintro v n37 ⟨p1,k1,p2,k2,p3,k3,rfl,ra2⟩;refine jaH (jae ?_);refine jhx ?_;refine jad (h++n37) rfl Tryz.func75 rfl jab ?_;refine Zs ?_
   exact ⟨n37,rfl,_,_,_,_,_,_,_,_,_,_,by rw [e0],fun e=>absurd e0 e,fun _=>⟨_,_,_,_,_,_,_,_,_,rfl,ra2⟩⟩
end
end Go.Proofs
namespace Go.Proofs
open Go.Lo
section
theorem cell_at (hi:i<(jaa b).length):jbO b ((jaa b).getD i default)=true∧jbo b ((jaa b).getD i default)≠jbG:=jaA (jah hi)
end
end Go.Proofs
namespace Go.Proofs
open Go.Lo
open Go.Conc (G)
section
variable [LaidO B]
section
variable {m:Md P B}
end
section
theorem figs_rd {lps:List Lp} (hn:1≤n) (k:LsOk n ls) (e:lps.map (·.ln)=ls) (hf: ∀x∈lps,x.ln.figs.length≤x.c∧(0<x.ln.figs.length→RdS B h 1 (.slice x.p x.ln.figs.length x.c) x.ln.figs.length (jaC x.ln.figs))): ∀x∈lps,x.ln.figs.length≤x.c∧RdS B h 1 (.slice x.p x.ln.figs.length x.c) x.ln.figs.length (jaC x.ln.figs):=fun x hx=>by
 have hm:x.ln∈ls:=e▸List.mem_map.2 ⟨x,hx,rfl⟩
 have:=(k.ok _ hm).len
 exact E77
theorem f33_r (m:Md Tryz.prog B) (h:Hp) (ra:RawTb B h b ps ns ks pw nw cw pb nb cb) (k:TbOk b) {c:Ce} (hc:jbO b c=true) (f:Str) (hf:f.length≤100000):FnC m 33 #[tbV b ps ns ks pw nw cw pb nb cb,cV c.butt c.line c.st,str f] h fun v h'=> ∃nz,h'=h++nz∧ ∃pw' cw' pb' cb',v=tbV (jat b c f) ps ns ks pw' nw cw' pb' nb cb'∧RdLn B nz (.slice pw' nw cw') nw (jat b c f).waters∧RdLn B nz (.slice pb' nb cb') nb (jat b c f).butts:=by
 obtain ⟨lw,hlw,rlw,hfw⟩:=ra.w
 obtain ⟨lb,hlb,rlb,hfb⟩:=ra.u
 have hn1:=k.n1
 have hsl:=ra.s.elen zA
 have hfw':=figs_rd hn1 k.waters hlw hfw
 have hfb':=figs_rd hn1 k.butts hlb hfb
 have hh:=jbk.1 hc
 have hll:jap b c.butt=(if c.butt then lb else lw).map (·.ln):=by unfold jap;split;exact hlb.symm;exact hlw.symm
 have hlen:((if c.butt then lb else lw).length:Int)=((jap b c.butt).length:Int):=by rw [hll,List.length_map]
 have hfl:((if c.butt then lb else lw).getD c.line.toNat default).ln.figs.length=b.sts.length:=by
  have e1:(jaT b c)=((if c.butt then lb else lw).getD c.line.toNat default).ln:=by
   rw [jaT,hll,ja1 _ _ zO]
  rw [←e1];exact E78
 refine CallF.mono (f33_c m h (b:=b) rlw rlb ra.wn ra.un hfw' hfb' (by rw [hlw];exact fun l hl=>(ra.sm.wat l hl).1) (by rw [hlb];exact fun l hl=>(ra.sm.but l hl).1) c.butt c.line c.st f hh.1 (by rw [hlen];exact hh.2.1) hh.2.2.1 (by rw [hfl];exact hh.2.2.2)) ?_
 rintro v h' ⟨nz,pw',cw',pb',cb',e1,e2,e3,e4⟩;refine ⟨nz,e1,pw',cw',pb',cb',by rw [e2,tbV,tbV,tbL,tbL,setF_wrong],?_,?_⟩
 ·rw [hlw] at e3
  unfold jat
  cases hb:c.butt
  ·rw [hb] at e3
   exact e3
  ·rw [hb] at e3
   exact e3
 ·rw [hlb] at e4
  unfold jat
  cases hb:c.butt
  ·rw [hb] at e4
   exact e4
  ·rw [hb] at e4
   exact e4
theorem raw_set {nz:Hp} {cw':Nat} {cb':Nat} (ra:RawTb B h b ps ns ks pw nw cw pb nb cb) (sm:TbSm b) {c:Ce} (hf:f.length≤100000) (e1:RdLn B nz (.slice pw' nw cw') nw (jat b c f).waters) (e2:RdLn B nz (.slice pb' nb cb') nb (jat b c f).butts) (s1:h.Sublist H) (s2:nz.Sublist H):RawTb B H (jat b c f) ps ns ks pw' nw cw' pb' nb cb':=
 ⟨by rw [(jbF b c f).1];exact ra.s.keeps s1,ra.sc,ra.sn,e1.keeps s2,ra.wn,e2.keeps s2,ra.un,jjk sm hf⟩
end
end
end Go.Proofs
namespace Go.Lo
open Go.Proofs
def gp (n b i:Nat):Str:=if b.testBit i then [63] else (jfw (jce n) 45).getD i []
theorem meaS_in {s:Str} {z:Int} (h:z∈jbl s):0≤z∧z≤959:=by
 unfold jbl at h
 split at h
 ·rw [jdJ] at h
  obtain ⟨k,hk,rfl⟩:=List.mem_map.1 h
  have:=List.mem_range.1 (List.mem_filter.1 hk).1
  omega
 ·cases h
end Go.Lo
namespace Go.Proofs
open Go.Lo
open Go.Conc (G)
section
variable [LaidO B]
theorem open_at (hz:tbS b=0) (hk:k<(jaa b).length) (hne:jac b≠[]):jaJ b (jdv b ((jaa b).getD k default))=0:=jej hz (jg6 hk) hne
theorem canL_at (hz:tbS b=0) (hk:k<(jaa b).length) (hne:jac b≠[]):jeu b ((jaa b).getD k default)=jck (cdT b) (jac b) k:=by rw [jeu,if_pos (open_at hz hk hne),jgr hk]
theorem ownP_in (h:0≤st∧st<(b.sts.length:Int)) (h2:0≤p∧p≤959):jfJ b st p=0:=by
 rw [jfJ,if_neg (fun e=>e ⟨h.1,by omega⟩),if_neg (fun e=>e h2)]
theorem openP_in (hz:tbS b=0) (h:0≤st∧st<(b.sts.length:Int)) (h2:0≤p∧p≤959) (hne:jac b≠[]):jaJ b (jfJ b st p)=0:=jej hz (ownP_in h h2) hne
end
section
variable [LaidO B]
theorem f114_t (m:Md Tryz.prog B) (h:Hp) {c1 c2:Nat} {xs:List Str} (r1:0<n→RdS B h 1 (.slice p1 n c1) n (jaC xs)) (r2:0<n→RdS B h 1 (.slice p2 n c2) n (jaC xs)) (hn:n≤1000):FnC m 114 #[.slice p1 n c1,.slice p2 n c2] h fun v h'=>h'=h∧v= .bool true:=by
 refine jaf Tryz.func114 rfl rfl (l:=(.slice p1 n c1)::(.slice p2 n c2)::jpn) rfl ?_
 intro cf cs K hK
 refine Z11 ?_;refine ja5 rfl zq rfl ?_;refine Z9 ?_
 refine jai (fun nn l h'=> ∃(k:Nat),nn=n-k∧(k≤n)∧(∃U:Nat→Value,l=((.slice p1 n c1)::(.slice p2 n c2)::(U 2)::(U 3)::(U 4)::(.int .i64 (k:Int))::jr6 U 6 []))∧h=h') _ ⟨0,rfl,by omega,exU rfl,rfl⟩ ?_;rintro nn l h' ⟨k,rfl,hk,⟨U,rfl⟩,rfl⟩ hnext;refine Z6 ?_
 refine jao rfl zq (fun hc=>?_) (fun hc=>?_)
 ·refine Z6 ?_
  have q1:=r1 zO
  have q2:=r2 zO
  have hl:=q1.elen zA
  obtain ⟨b1,o1,rfl⟩:=q1.ptr zO
  obtain ⟨b2,o2,rfl⟩:=q2.ptr zO
  refine jar [Zp 0,Zp 1,Zp 2,Zp 4,Zp 5,Zp 6,Zr 3,Zr 7,Zp 8] zK zK (List.Sublist.refl _) ?_;refine Z2 ?_;refine D12 ?_;refine Z2 ?_;refine D12 ?_;refine jaW rfl zq (q1.sat k zO zO) ?_;refine jaW rfl zq (q2.sat k zO zO) ?_;refine jdL rfl zq rfl ?_;refine Z9 ?_;exact E18
 ·refine Z8 ?_;refine jad (h) rfl Tryz.func114 rfl jab ?_;refine Zs ?_
  exact ⟨rfl,rfl⟩
theorem f115_t (m:Md Tryz.prog B) (h:Hp) {c1 c2:Nat} (r1:RdLn B h (.slice p1 n c1) n ls) (r2:RdLn B h (.slice p2 n c2) n ls) (hn:n≤1000) (hf: ∀l∈ls,l.figs.length≤1000):FnC m 115 #[.slice p1 n c1,.slice p2 n c2] h fun v h'=>h'=h∧v= .bool true:=by
 have hls:=jaV r1
 obtain ⟨l1,he1,rl1,hr1⟩:=r1
 obtain ⟨l2,he2,rl2,hr2⟩:=r2
 have hl1:l1.length=n:=by rw [←hls,←he1,List.length_map]
 have hl2:l2.length=n:=by rw [←hls,←he2,List.length_map]
 refine jaf Tryz.func115 rfl rfl (l:=(.slice p1 n c1)::(.slice p2 n c2)::uu40) rfl ?_
 intro cf cs K hK
 refine Z11 ?_;refine ja5 rfl zq rfl ?_;refine Z9 ?_
 refine jai (fun nn l h'=> ∃(k:Nat),nn=n-k∧(k≤n)∧(∃U:Nat→Value,l=((.slice p1 n c1)::(.slice p2 n c2)::(U 2)::(U 3)::(U 4)::(.int .i64 (k:Int))::vw36 U 6 []))∧h=h') _ ⟨0,rfl,by omega,exU rfl,rfl⟩ ?_;rintro nn l h' ⟨k,rfl,hk,⟨U,rfl⟩,rfl⟩ hnext;refine Z6 ?_
 refine jao rfl zq (fun hc=>?_) (fun hc=>?_)
 ·refine Z6 ?_
  have hkn:k<n:=by omega
  obtain ⟨b1,o1,rfl⟩:=rl1.ptr zO
  obtain ⟨b2,o2,rfl⟩:=rl2.ptr zO
  have e1:(l1.getD k default).ln=ls.getD k default:=by rw [←he1,ja1 l1 _ zO]
  have e2:(l2.getD k default).ln=ls.getD k default:=by rw [←he2,ja1 l2 _ zO]
  obtain ⟨_,g1⟩:=hr1 _ (jah (i:=k) zO)
  obtain ⟨_,g2⟩:=hr2 _ (jah (i:=k) zO)
  have hfk:=hf _ (jah (l:=ls) (i:=k) zO)
  rw [e1] at g1
  rw [e2] at g2
  refine jar [Zp 0,Zp 1,Zp 2,Zp 3,Zp 5,Zp 6,Zp 7,Zp 8,Zr 4,Zr 9,Zp 10,Zp 11,Zp 12,Zp 13,Zp 14,Zp 15,Zp 17,Zp 18,Zp 19,Zp 20,Zr 16,Zr 21,Zk 22,Zp 23,Zp 24] zK zK (List.Sublist.refl _) ?_;refine Z2 ?_;refine D12 ?_;refine Z3 ?_;refine D12 ?_;refine Zs ?_;refine jaW (v:= .int .i64 (ls.getD k default).lat) rfl zq (by rw [←e1];exact rl1.fat k 0 zO zO rfl) ?_;refine jaW (v:= .int .i64 (ls.getD k default).lat) rfl zq (by rw [←e2];exact rl2.fat k 0 zO zO rfl) ?_;refine ja5 rfl zq rfl ?_;refine Z3 ?_;refine jcq rfl rfl rfl zO zO ?_;refine Z3 ?_;refine jcq rfl rfl rfl zO zO ?_;refine Zs ?_;refine jaW (v:= .slice (l1.getD k default).p (ls.getD k default).figs.length (l1.getD k default).c) rfl rfl (by rw [←e1];exact rl1.fat k 1 zO zO rfl) ?_;refine jaW (v:= .slice (l2.getD k default).p (ls.getD k default).figs.length (l2.getD k default).c) rfl rfl (by rw [←e2];exact rl2.fat k 1 zO zO rfl) ?_;refine jag (Post:=fun v=>v= .bool true) rfl rfl zK (fun H' hH=>f114_t m H' (xs:=(ls.getD k default).figs) (fun hp=>(g1 hp).keeps (sq hH)) (fun hp=>(g2 hp).keeps (sq hH)) hfk) ?_;rintro v rfl;refine Z12 ?_
  exact E18
 ·refine Z8 ?_;refine jad (h) rfl Tryz.func115 rfl jab ?_;refine Zs ?_
  exact ⟨rfl,rfl⟩
theorem f54_t (m:Md Tryz.prog B) (h:Hp) (ra:RawTb B h b ps ns ks pw nw cw pb nb cb) {ks2:Nat} {cw2:Nat} {cb2:Nat} (ra2:RawTb B h b ps2 ns ks2 pw2 nw cw2 pb2 nb cb2) (hf:(∀l∈b.waters,l.figs.length≤1000)∧ ∀l∈b.butts,l.figs.length≤1000):FnC m 54 #[tbV b ps ns ks pw nw cw pb nb cb,tbV b ps2 ns ks2 pw2 nw cw2 pb2 nb cb2] h fun v h'=>h'=h∧v= .bool true:=by
 refine jaf Tryz.func54 rfl rfl (l:=(tbV b ps ns ks pw nw cw pb nb cb)::(tbV b ps2 ns ks2 pw2 nw cw2 pb2 nb cb2)::uu29) rfl ?_
 intro cf cs K hK
 refine Z2 ?_
 refine jaX rfl zq (fun q1=>jau (jae ?_));refine jaX rfl zq (fun q2=>jau (jae ?_));refine Z3 ?_;refine jaK [Zf 0,Zf 1,Zf 2,Zf 3,Zf 4,Zf 5,Zf 6,Zf 7,Zf 8,Zf 9,Zf 10,Zf 11,Zf 12,Zf 13,Zf 14,Zf 15,Zf 16,Zf 17,Zf 18,Zf 19,Zf 20,Zf 21,Zf 22,Zf 23,Zf 24,Zf 25,Zf 26] zK zK ?_;refine Z4 ?_;refine jbn rfl zq rfl ?_;refine Z5 ?_;refine jag (Post:=fun v=>v= .bool true) rfl rfl zK (fun H' hH=>f114_t m H' (fun _=>ra.s.keeps (sq hH)) (fun _=>ra2.s.keeps (sq hH)) ra.sn) ?_
 rintro v rfl;refine Z7 ?_;refine jag (Post:=fun v=>v= .bool true) rfl rfl zK (fun H' hH=>f115_t m H' (ra.w.keeps (sq hH)) (ra2.w.keeps (sq hH)) ra.wn hf.1) ?_
 rintro v rfl;refine Z7 ?_;refine jag (Post:=fun v=>v= .bool true) rfl rfl zK (fun H' hH=>f115_t m H' (ra.u.keeps (sq hH)) (ra2.u.keeps (sq hH)) ra.un hf.2) ?_
 rintro v rfl;refine Z5 ?_;refine jad (h) rfl Tryz.func54 rfl jab ?_;refine Zs ?_
 exact ⟨rfl,rfl⟩
theorem f58_t (m:Md Tryz.prog B) (h:Hp) {c1 c2:Nat} {ys:List Int} (r1:RdS B h 1 (.slice p1 xs.length c1) xs.length (jaI xs)) (r2:RdS B h 1 (.slice p2 ys.length c2) ys.length (jaI ys)) (h1:xs.length≤1000) (h2:ys.length≤1000) (hin: ∀x∈xs,x∈ys):FnC m 58 #[.slice p1 xs.length c1,.slice p2 ys.length c2] h fun v h'=>h'=h∧v= .bool true:=by
 refine jaf Tryz.func58 rfl rfl (l:=(.slice p1 xs.length c1)::(.slice p2 ys.length c2)::uu17) rfl ?_
 intro cf cs K hK
 refine Z10 ?_
 refine jai (fun nn l h'=> ∃(k:Nat),nn=xs.length-k∧(k≤xs.length)∧(∃U:Nat→Value,l=((.slice p1 xs.length c1)::(.slice p2 ys.length c2)::(U 2)::(U 3)::(U 4)::(.int .i64 (k:Int))::vw13 U 6 []))∧h=h') _ ⟨0,rfl,by omega,exU rfl,rfl⟩ ?_;rintro nn l h' ⟨k,rfl,hk,⟨U,rfl⟩,rfl⟩ hnext;refine Z6 ?_
 refine jao rfl zq (fun hc=>?_) (fun hc=>?_)
 ·refine Z6 ?_
  obtain ⟨b1,o1,rfl⟩:=r1.ptr zO
  have hkm:=hin _ (jcU.2 ⟨k,by omega,rfl⟩)
  refine Z4 ?_;refine D12 ?_;refine jaW rfl zq (r1.iat k zO zO) ?_;refine jag (Post:=fun v=>IsB _ v) rfl zq zK (fun H' hH=>f35_c m H' _ (r2.keeps (sq hH)) zO) ?_
  rintro v (⟨hc,rfl⟩|⟨hc,rfl⟩)
  ·refine Z11 ?_
   exact E18
  ·refine Zs ?_
   exact absurd hkm hc
 ·refine Z8 ?_;refine jad (h) rfl Tryz.func58 rfl jab ?_;refine Zs ?_
  exact ⟨rfl,rfl⟩
end
section
variable [LaidO B]
section
variable (ok:TbOk b) (hk:k<(jaa b).length) {c:Ce} (hcx:c=(jaa b).getD k default)
include ok hk hcx
theorem jmk:cdT (jat b c jbG)=(cdT b).eraseIdx k:=by rw [hcx];exact cdT_drop ok hk
theorem jh1:jac (jat b c jbG)=jak ((cdT b).eraseIdx k) b.wrong.toNat:=by rw [jac,jmk ok hk hcx,(jbF b c jbG).2]
theorem drop_ne (hne:jac b≠[]):jac (jat b c jbG)≠[]:=by
 obtain ⟨x,hx⟩:=List.exists_mem_of_ne_nil _ hne
 rw [jh1 ok hk hcx];exact List.ne_nil_of_mem (jgO hx k)
theorem jup (bt:Bool) (st p:Int):(jdT (jat b c jbG) bt st p).1≤(jdT b bt st p).1∧(jdT b bt st p).2≤(jdT (jat b c jbG) bt st p).2:=by
 rw [jdT,jh1 ok hk hcx,jmk ok hk hcx];exact jqT k
theorem jrM (hs:jbJ (cdT b)=true):jbJ (cdT (jat b c jbG))=true:=by rw [jmk ok hk hcx];exact joB k hs
theorem drop_cells:jaa (jat b c jbG)=(jaa b).eraseIdx k:=by
 have hm:(jaa b).getD k default∈jaa b:=jah hk
 rw [hcx,jby ok (jaA hm).1,ja9 (jbu b) hk]
theorem drop_at (hj:j<(jaa b).length) (hne:k≠j): ∃i,i<(jaa (jat b c jbG)).length∧shf k i=j∧(jaa (jat b c jbG)).getD i default=(jaa b).getD j default:=by
 have hi:shf k (if j<k then j else j-1)=j:=by
  by_cases h:j<k
  ·rw [if_pos h,shf,if_pos h]
  ·rw [if_neg h,shf,if_neg zO];omega
 refine ⟨if j<k then j else j-1,?_,hi,?_⟩
 ·rw [drop_cells ok hk hcx,List.length_eraseIdx,if_pos hk];split<;>omega
 ·rw [drop_cells ok hk hcx,getD_erase,hi]
theorem drop_can (hi:shf k i=j): ∀v∈jck (cdT b) (jac b) j,v∈jck (cdT (jat b c jbG)) (jac (jat b c jbG)) i:=fun v hv=>by
 rw [jh1 ok hk hcx,jmk ok hk hcx];rw [←hi] at hv
 exact juC hv
end
theorem f16_t (h:Hp) (rds:RdS B h 1 (.slice ps ns ks) ns (jaC b.sts)) (hcs:ns≤ks) (rdw:RdLn B h (.slice pw nw cw) nw b.waters) (rdb:RdLn B h (.slice pb nb cb) nb b.butts) (y y2 y3 x1:Nat) (hy:y≤255) (hy2:y2≤255) (hy3:y3≤255) (hx1:x1≤65535):(Md.starC Tryz.prog B).R (jie Tryz.prog B fun v _=>v= .bool true) (G (Frame.enter Tryz.prog 16 #[tbV b ps ns ks pw nw cw pb nb cb,.int .u8 (y:Int),.int .u8 (y2:Int),.int .u8 (y3:Int),.int .u16 (x1:Int)] .normal) []) h:=by
 refine jeb Tryz.func16 rfl rfl (l:=[tbV b ps ns ks pw nw cw pb nb cb,.int .u8 (y:Int),.int .u8 (y2:Int),.int .u8 (y3:Int),.int .u16 (x1:Int),undef,undef,undef,undef,undef,undef,undef,undef,undef,undef,undef,undef,undef,undef,undef,undef,undef,undef,undef,undef,undef,undef,undef,undef,undef,undef,undef,undef,undef,undef,undef,undef,undef,undef,undef,undef,undef,undef,undef,undef,undef,undef,undef,undef,undef,undef,undef,undef,undef,undef,undef,undef,undef,undef,undef,undef,undef,undef,undef,undef,undef,undef,undef,undef,undef,undef,undef,undef,undef,undef,undef,undef,undef,undef,undef,undef,undef,undef,undef,undef,undef,undef,undef,undef,undef,undef,undef,undef,undef,undef,undef,undef,undef,undef,undef,undef,undef,undef,undef,undef,undef,undef,undef,undef,undef,undef,undef,undef,undef,undef,undef,undef,undef,undef,undef,undef,undef,undef,undef,undef,undef,undef,undef,undef,undef,undef,undef,undef,undef,undef,undef,undef,undef,undef,undef,undef,undef,undef,undef,undef,undef,undef,undef,undef,undef,undef,undef,undef,undef,undef,undef,undef,undef,undef,undef,undef,undef,undef,undef,undef,undef,undef,undef,undef,undef,undef,undef,undef,undef,undef,undef,undef,undef]) rfl ?_;refine Z2 ?_
 refine jaX rfl zq (fun q1=>jau (jae ?_));refine Z6 ?_;refine jag (Post:=fun v=>IsB _ v) rfl zq zK (fun H' hH=>f25_c _ H' (rds.keeps (sq hH)) hcs (rdw.keeps (sq hH)) (rdb.keeps (sq hH))) ?_
 rintro v (⟨hc,rfl⟩|⟨hc,rfl⟩)
 ·refine Zs ?_
  have hfit:=hc
  have ra:=jjs rds hcs rdw rdb hfit.1
  have hz:=hfit.2
  have ok:=jaN.1 hz
  have rd:=ra.rd ok
  have h12:=jbH ok
  have hbl:=jbC ok
  refine Z3 ?_;refine jaD rfl rfl zK (Post:=fun w new=>OwnS 37 3 w (jaa b).length (jaC (jaa b)) new) (fun H' hH=>f26_c _ H' (rd.keeps (sq hH))) ?_
  rintro w n27 o27;refine jaH (jae ?_);obtain ⟨p27,c27,rfl,hc27,r27⟩:=jav (B:=B) o27
  refine Zs ?_
  refine jaS rfl rfl (fun hc=>?_) (fun hc=>?_)
  ·refine Z5 ?_;refine ja7 rfl zq zK (f20_c _) ?_
   rintro v h' ⟨nF,rfl,rfl⟩;refine Z4 ?_;refine jbw rfl Tryz.func16 zK rfl ?_
   rfl
  ·refine Z7 ?_;refine jaD rfl zq zK (Post:=fun w new=>OwnS 37 3 w (jaa b).length (jaC (jaa b)) new) (fun H' hH=>f26_c _ H' (rd.keeps (sq hH))) ?_
   rintro w n33 o33;refine jaH (jae ?_);obtain ⟨p33,c33,rfl,hc33,r33⟩:=jav (B:=B) o33
   refine Z3 ?_;refine jar [Zp 0,Zp 1,Zp 2,Zp 3,Zp 4,Zp 5,Zp 6,Zp 8,Zp 9,Zp 10,Zp 11,Zp 12,Zp 13,Zp 14,Zr 7,Zr 15,Za 16,Za 17,Zk 18,Zk 19] zK zK (List.Sublist.refl _) ?_;refine Z2 ?_;refine jbg rfl zq zK (n':=(y:Int)) zL ?_;refine Z2 ?_;refine jcp rfl zq zO ?_
   obtain ⟨k,hkx⟩: ∃k,k=y%(jaa b).length:=⟨_,rfl⟩
   rw [←hkx];have hk:k<(jaa b).length:=hkx▸Nat.mod_lt _ zO
   obtain ⟨b33,o33_,rfl⟩:=r33.ptr zO
   refine D12 ?_;refine Z2 ?_;refine jbg rfl zq zK (n':=(y2:Int)) zL ?_;refine Z2 ?_;refine jcp rfl zq zO ?_
   obtain ⟨j,hjx⟩: ∃j,j=y2%(jaa b).length:=⟨_,rfl⟩
   rw [←hjx];have hj:j<(jaa b).length:=hjx▸Nat.mod_lt _ zO
   refine D12 ?_;refine jc5 (vs:=[.bool ((jaa b).getD k default).butt,.int .i64 ((jaa b).getD k default).line,.int .i64 ((jaa b).getD k default).st]) rfl zq rfl (r33.eat k zO zO) ?_
   obtain ⟨c,hcx⟩: ∃c,c=(jaa b).getD k default:=⟨_,rfl⟩
   rw [←hcx];have hht:jbO b c=true:=hcx▸(cell_at hk).1
   refine jc5 (vs:=[.bool ((jaa b).getD j default).butt,.int .i64 ((jaa b).getD j default).line,.int .i64 ((jaa b).getD j default).st]) rfl zq rfl (r33.eat j zO zO) ?_;obtain ⟨d,hdx⟩: ∃d,d=(jaa b).getD j default:=⟨_,rfl⟩
   rw [←hdx];refine jax rfl zq (fun qc=>jau (jae ?_));refine jax rfl zq (fun qd=>jau (jae ?_));refine D6 ?_;refine D6 ?_;refine Z5 ?_;refine jaD rfl zq zK (Post:=fun v nw=>jrX B 0 (jat b c jbG) nw v) (fun H' hH=>by have:=f75_c (Md.starC Tryz.prog B) H' (ra.keeps (sq hH)) c;rw [show jml b c=0 by rw [jml,if_neg (by rw [hz];decide),if_neg (by rw [hcx];exact fun e=>e (jah hk))]] at this;exact this) ?_
   rintro v nO ⟨x0,y1,z1,w1,y2',z2,w2,y3',z3,w3,rfl,_,hz5⟩;refine jaH (jae ?_);obtain ⟨psO,nsO,ksO,pwO,nwO,cwO,pbO,nbO,cbO,eO,raO⟩:=hz5 rfl
   rw [eO];have hokO:=setF_ok_drop ok hht
   have hzO:=jaN.2 hokO
   obtain rfl:ns=nsO:=by have h1:=raO.s.elen zA;have h2:=ra.s.elen zA;rw [(jbF b c jbG).1] at h1;omega
   refine Z3 ?_
   refine jax rfl zq (fun qo=>jau (jae ?_));refine D6 ?_;refine Z5 ?_;refine jag (Post:=fun v=>v= .tuple [.int .i64 ((jac b).length:Int),.int .i64 0].toArray) rfl zq zK (fun H' hH=>by have:=f28_c (Md.starC Tryz.prog B) H' (b:=b) (ra.keeps (sq hH));rw [if_pos hz,hz] at this;exact this) ?_
   rintro v rfl;refine Z9 ?_;refine jar [Zp 0,Zp 1,Zp 2,Zp 3,Zp 4,Zp 5,Zp 6,Zr 7,Zr 8,Zr 9,Zk 10,Zk 11,Zp 12,Zp 13] zK zK (List.Sublist.refl _) ?_;refine Zs ?_;refine ja5 rfl zq rfl ?_;refine Z2 ?_;refine ja5 rfl rfl rfl ?_;refine Z5 ?_;refine jaD rfl rfl zK (Post:=fun v nz=> ∃pw' cw' pb' cb',v=tbV (jat b c jbG) ps ns ks pw' nw cw' pb' nb cb'∧RdLn B nz (.slice pw' nw cw') nw (jat b c jbG).waters∧RdLn B nz (.slice pb' nb cb') nb (jat b c jbG).butts) (fun H' hH=>f33_r _ H' (ra.keeps (sq hH)) ok hht jbG zA) ?_
   rintro v nzW ⟨pwW,cwW,pbW,cbW,rfl,ewW,ebW⟩;refine jaH (jae ?_);obtain rfl:nw=nwO:=by have h1:=jaV raO.w;have h2:=jaV ewW;omega
   obtain rfl:nb=nbO:=by have h1:=jaV raO.u;have h2:=jaV ebW;omega
   refine jag (Post:=fun v=>v= .bool true) rfl rfl zK (fun H' hH=>f54_t _ H' (raO.keeps (sq hH)) (raw_set ra ra.sm zA ewW ebW (sq hH) (sq hH)) ⟨fun l hl=>by have:=((raO.rd hokO).wf l hl).1;have:=rd.n3;omega,fun l hl=>by have:=((raO.rd hokO).bf l hl).1;have:=rd.n3;omega⟩) ?_;rintro v rfl;refine Z7 ?_
   by_cases hs:jbJ (cdT b)=true
   have hs2:=jrM ok hk hcx hs
   refine Z2 ?_;refine jag (Post:=fun v=>v= .tuple [.bool true,.int .i64 0].toArray) rfl zq zK (fun H' hH=>by have:=f45_c (Md.starC Tryz.prog B) H' (b:=b) (ra.keeps (sq hH));rw [hz] at this;exact this.mono fun v h' ⟨e,w,e1,e2⟩=>⟨e,by rw [e1,jhg e2 ⟨rfl,hs⟩]⟩) ?_
   rintro v rfl;refine Z10 ?_;refine jag (Post:=fun v=>v= .tuple [.bool true,.int .i64 0].toArray) rfl zq zK (fun H' hH=>by have:=f45_c (Md.starC Tryz.prog B) H' (b:=(jat b c jbG)) (raO.keeps (sq hH));rw [hzO] at this;exact this.mono fun v h' ⟨e,w,e1,e2⟩=>⟨e,by rw [e1,jhg e2 ⟨rfl,hs2⟩]⟩) ?_
   rintro v rfl;refine Z9 ?_;refine rr13 ?_;refine Zs ?_;refine ja5 rfl zq rfl ?_;refine Z2 ?_;refine ja5 rfl rfl rfl ?_;refine Z7 ?_
   rotate_left
   refine Z2 ?_;refine jag (Post:=fun v=>v= .tuple [.bool false,.int .i64 0].toArray) rfl zq zK (fun H' hH=>by have:=f45_c (Md.starC Tryz.prog B) H' (b:=b) (ra.keeps (sq hH));rw [hz] at this;exact this.mono fun v h' ⟨e,w,e1,e2⟩=>⟨e,by rw [e1,jnN e2 fun e=>hs e.2]⟩) ?_
   rintro v rfl;refine Z10 ?_
   obtain ⟨tt,htt⟩: ∃tt,tt=jbJ (cdT (jat b c jbG)):=⟨_,rfl⟩
   refine jag (Post:=fun v=>v= .tuple [.bool tt,.int .i64 0].toArray) rfl zq zK (fun H' hH=>by have:=f45_c (Md.starC Tryz.prog B) H' (b:=(jat b c jbG)) (raO.keeps (sq hH));rw [hzO] at this;exact this.mono fun v h' ⟨e,w,e1,e2⟩=>⟨e,by rw [e1,show w= .bool tt by rw [htt];cases h:jbJ (cdT (jat b c jbG)) with|true=>exact jhg e2 ⟨rfl,h⟩|false=>exact jnN e2 fun e=>by rw [h] at e;cases e.2]⟩) ?_;rintro v rfl;refine Z9 ?_;refine rr13 ?_;refine Zs ?_;refine ja5 rfl zq rfl ?_;refine Z2 ?_;refine ja5 rfl rfl rfl ?_;refine Z7 ?_
   all_goals
    refine Z6 ?_
    by_cases hne:jac b=[]
    ·have hn0:(jac b).length=0:=by rw [hne];rfl
     refine Z2 ?_;refine jbn rfl zq zO ?_;refine Z4 ?_;refine ja7 rfl zq zK (f20_c _) ?_
     rintro v h' ⟨nF,rfl,rfl⟩;refine Z4 ?_;refine jbw rfl Tryz.func16 zK rfl ?_
     rfl
    ·have hpos:=List.length_pos_iff.2 hne
     have hneO:=drop_ne ok hk hcx hne
     refine Z2 ?_;refine jfr rfl zq zO ?_;refine Z6 ?_;refine jbg rfl zq zK (n':=(y3:Int)) zL ?_;refine Z3 ?_
     have hsl:=rd.sl
     have hn1:=rd.n1
     refine jcp rfl zq zO ?_;obtain ⟨st,hstx⟩: ∃st,st=y3%ns:=⟨_,rfl⟩
     rw [←hstx];have hst:st<ns:=hstx▸Nat.mod_lt _ zO
     refine Zs ?_;refine jbg rfl zq zK (n':=(x1:Int)) zL ?_;refine jcp (a:=x1) (b:=960) rfl zq zO ?_
     obtain ⟨x,hxx⟩: ∃x,x=x1%960:=⟨_,rfl⟩
     rw [←hxx];have hx:x<960:=hxx▸Nat.mod_lt _ zO
     refine Z4 ?_
     have hsr:(0:Int)≤(st:Int)∧(st:Int)<(b.sts.length:Int):=by omega
     have hsrO:(0:Int)≤(st:Int)∧(st:Int)<((jat b c jbG).sts.length:Int):=by rw [(jbF b c jbG).1];exact hsr
     have hxr:(0:Int)≤(x:Int)∧(x:Int)≤959:=by omega
     have hoS:=openP_in hz hsr hxr hne
     have hoO:=openP_in hzO hsrO hxr hneO
     have hsp:=jup ok hk hcx false (st:Int) (x:Int)
     rw [show jdT b false (st:Int) (x:Int)=jaE b false (st:Int) (x:Int) by rw [jaE,if_pos hoS],show jdT (jat b c jbG) false (st:Int) (x:Int)=jaE (jat b c jbG) false (st:Int) (x:Int) by rw [jaE,if_pos hoO]] at hsp
     refine Z4 ?_;refine jag (Post:=fun v=>v= .tuple [.agg [.int .i64 (jaE b false (st:Int) (x:Int)).1,.int .i64 (jaE b false (st:Int) (x:Int)).2].toArray,.int .i64 0].toArray) rfl zq zK (fun H' hH=>by have:=f21_c (Md.starC Tryz.prog B) H' (ra.keeps (sq hH)) (st:Int) (x:Int);rw [hoS] at this;exact this) ?_
     rintro v rfl;refine Z4 ?_
     refine jax rfl zq (fun qx=>jau (jae ?_));refine D6 ?_;refine Z7 ?_;refine jag (Post:=fun v=>v= .tuple [.agg [.int .i64 (jaE (jat b c jbG) false (st:Int) (x:Int)).1,.int .i64 (jaE (jat b c jbG) false (st:Int) (x:Int)).2].toArray,.int .i64 0].toArray) rfl zq zK (fun H' hH=>by have:=f21_c (Md.starC Tryz.prog B) H' (raO.keeps (sq hH)) (st:Int) (x:Int);rw [hoO] at this;exact this) ?_
     rintro v rfl;refine Z4 ?_
     refine jax rfl zq (fun qy=>jau (jae ?_));refine D6 ?_;refine Z4 ?_;refine jaK [Zf 0,Zf 1,Zf 2,Zf 3,Zf 4,Zf 5,Zf 6,Zf 7,Zf 8,Zf 9,Zf 10,Zf 11,Zf 12,Zf 13,Zf 14,Zf 15,Zf 16,Zf 17,Zf 18,Zf 19] zK zK ?_;refine Zs ?_;refine ja5 rfl zq rfl ?_;refine Z2 ?_;refine ja5 rfl rfl rfl ?_;refine Z6 ?_;refine jnF rfl rfl zO ?_;refine Z6 ?_;refine jfR rfl rfl zO ?_;refine Z9 ?_
     refine k_eqlC rfl zq zK (fun hc=>?_) (fun hc=>?_)
     ·refine Z4 ?_;refine ja7 rfl zq zK (f20_c _) ?_
      rintro v h' ⟨nF,rfl,rfl⟩;refine Z4 ?_;refine jbw rfl Tryz.func16 zK rfl ?_
      rfl
     ·refine Z4 ?_
      have hkj:k≠j:=fun e=>hc (by rw [hcx,hdx,e];exact ⟨rfl,rfl,rfl⟩)
      obtain ⟨i,hi,hsh,hie⟩:=drop_at ok hk hcx hj hkj
      rw [←hdx] at hie
      have hcd:jaJ b (jdv b d)=0:=by rw [hdx];exact open_at hz hj hne
      have hcl:jeu b d=jck (cdT b) (jac b) j:=by rw [hdx];exact canL_at hz hj hne
      have hcd2:jaJ (jat b c jbG) (jdv (jat b c jbG) d)=0:=by rw [←hie];exact open_at hzO hi hneO
      have hcl2:jeu (jat b c jbG) d=jck (cdT (jat b c jbG)) (jac (jat b c jbG)) i:=by rw [←hie];exact canL_at hzO hi hneO
      have hin:=drop_can ok hk hcx hsh
      have hz1:=jh4 b hj
      have hz2:=jh4 (jat b c jbG) hi
      have hz3:=jde (D:=cdT b) (L:=jac b) (k:=j)
      have hz4:=jde (D:=cdT (jat b c jbG)) (L:=jac (jat b c jbG)) (k:=i)
      refine Z3 ?_;refine jaD rfl zq zK (Post:=fun v nw=> ∃w,v= .tuple [w,.int .i64 0].toArray∧RdI B nw w (jck (cdT b) (jac b) j)) (fun H' hH=>by have:=f29_c (Md.starC Tryz.prog B) H' (ra.keeps (sq hH)) d;rw [hcd,hcl] at this;exact this) ?_
      rintro v nP ⟨wP,rfl,pP,cP,rfl,rP⟩;refine jaH (jae ?_);refine Z10 ?_;refine jaD rfl zq zK (Post:=fun v nw=> ∃w,v= .tuple [w,.int .i64 0].toArray∧RdI B nw w (jck (cdT (jat b c jbG)) (jac (jat b c jbG)) i)) (fun H' hH=>by have:=f29_c (Md.starC Tryz.prog B) H' (raO.keeps (sq hH)) d;rw [hcd2,hcl2] at this;exact this) ?_
      rintro v nQ ⟨wQ,rfl,pQ,cQ,rfl,rQ⟩;refine jaH (jae ?_);refine Z7 ?_;refine jaK [Zf 0,Zf 1,Zf 2,Zf 3,Zf 4,Zf 5,Zf 6,Zf 7,Zf 8,Zf 9,Zf 10,Zf 11,Zf 12,Zf 13,Zf 14] zK zK ?_;refine Zs ?_;refine jbn rfl zq rfl ?_;refine Z2 ?_;refine jbn rfl rfl rfl ?_;refine Z4 ?_;refine jag (Post:=fun v=>v= .bool true) rfl rfl zK (fun H' hH=>f58_t _ H' (rP.keeps (sq hH)) (rQ.keeps (sq hH)) zO zO hin) ?_
      rintro v rfl;refine Z3 ?_;refine ja7 rfl rfl zK (f20_c _) ?_
      rintro v h' ⟨nF,rfl,rfl⟩;refine Z5 ?_;refine jbw rfl Tryz.func16 zK rfl ?_
      rfl
 ·refine Z12 ?_;refine ja7 rfl zq zK (f20_c _) ?_
  rintro v h' ⟨nF,rfl,rfl⟩;refine Z4 ?_;refine jbw rfl Tryz.func16 zK rfl ?_
  rfl
end
end Go.Proofs
