/- A part of the proof of a law. Condition of each theorem: as its statement says. -/
import Derived.Test.YtggpepeiedkbbaaGreatDoorVG10
set_option linter.all false
variable {B:Array Go.Obj} {l:List Int} {i k j n ns ks nw cw nb cb:Nat} {t u ma mc v st p z:Int} {b:Go.Lo.Tb} {D:List Go.Lo.Cd} {L:List Go.Lo.Bo} {bt:Bool} {o:Option Int} {s:Int×Int} {f:Go.Lo.Bo→Int×Int} {ls:List Go.Lo.Ln} {ps pw pb:Option Go.Addr}
set_option maxHeartbeats 4000000
set_option maxRecDepth 100000
set_option synthInstance.maxHeartbeats 1000000
set_option synthInstance.maxSize 100000
namespace Go.Proofs
open Go.Lo
open Go.Conc (G)
section
variable {P:Program} {m:Md P B} {ops:Array Oper} {l l':List Value} {S h h' H:Hp} {C:List Value→Hp→Prop} {kd:Kd} {r:List (Nat×Kd)} {d:Option Tmp} {ty:TypeId} {pos:String} {af:Array Edge} {g:Option (Nat×Bool)}
theorem k_neqT {t u:TypeId} {x y:Operand} {a b:Int} {k:IntKind} (ho:ops[i]?=some ⟨d,.binOp .neq t x y u,ty,pos,af,g⟩) (hw:Wt ops l g) [kh:KHeap kd S h H] [ex:OpV l x (.int k a)] [ey:OpV l y (.int k b)] (e:a≠b) [pt:PutV l d (.bool true) l'] (q:RegK m S ops r l' h C):RegK m S ops ((i,kd)::r) l h C:=by
 have pq:=pt;rw [←decide_eq_true e] at pq;exact jnD (l':=l') ho hw q
theorem k_neqBF {t u:TypeId} {x y:Operand} {a c:Bool} (ho:ops[i]?=some ⟨d,.binOp .neq t x y u,ty,pos,af,g⟩) (hw:Wt ops l g) (hb:P.underlying t=some .bool) [KHeap kd S h H] [ex:OpV l x (.bool a)] [ey:OpV l y (.bool c)] (e:a=c) [PutV l d (.bool false) l'] (q:RegK m S ops r l' h C):RegK m S ops ((i,kd)::r) l h C:=
 RegK.rd (v:= .bool false) ho hw (by
  subst e
  simp only [execOp,ex.eq,ey.eq]
  refine Reads.value (Reads.bind (a:=()) (Reads.pure _) ?_)
  show Reads P B (Op.equal t (.bool a) (.bool a)>>=fun b=>pure (Value.bool !b)) H _
  have:=jcC (P:=P) (B:=B) (H:=H) hb a a
  rw [beq_self_eq_true] at this
  exact E70) q
end
end Go.Proofs
namespace Go.Lo
theorem riX_turn {la lc:Int}:riX la lc ma mc=riX lc la mc ma:=by
 rw [Bool.eq_iff_iff,jee,jee];omega
theorem okA_pair {x:Bo} (h:okA D x=true) (hij:i≠j) (hi:xA x i=some v) (hj:xA x j=some u):riC (dA D i) (dA D j) v u=true:=by
 rw [jcv] at h
 rcases Nat.lt_or_gt_of_ne hij with g|g
 ·exact h.2.2 i j v u g hi hj
 ·rw [jes];exact h.2.2 j i u v g hj hi
theorem mem_canB {w:Nat} {x:Bo} (hx:x∈jak D w) (e:xA x k=some v):v∈(dA D k).can:=(jcv.1 (jaL.1 hx).1).2.1 k v e
theorem cntV_pos:0<jcy L k v↔ ∃x∈L,xA x k=some v:=by
 unfold jcy
 rw [List.countP_pos_iff];simp
theorem mem_canC:v∈jck D L k↔v∈(dA D k).can∧0<jcy L k v:=by
 unfold jck
 rw [List.mem_filter,cntV_pos];simp
theorem mem_canS_boats {w:Nat}:v∈jck D (jak D w) k↔ ∃x∈jak D w,xA x k=some v:=by
 rw [mem_canC,cntV_pos];exact E83
def lowC (bt:Bool) (st p:Int) (d:Cd) (o:Option Int) (u:Int):Prop:= ∃v,o=some v∧d.st=st∧((d.butt=bt∧d.lat≤p∧u=v)∨(d.butt≠bt∧v<p∧u=d.lat))
def highC (bt:Bool) (st p:Int) (d:Cd) (o:Option Int) (u:Int):Prop:= ∃v,o=some v∧d.st=st∧((d.butt=bt∧p≤d.lat∧u=v)∨(d.butt≠bt∧p<v∧u=d.lat))
theorem bdStep_low {d:Cd}:(jbQ bt st p d o s).1≤t↔s.1≤t∧ ∀u,lowC bt st p d o u→u≤t:=by
 unfold jbQ lowC
 rcases o with _|v
 ·simp
 ·by_cases h1:d.st=st
  ·by_cases h2:d.butt=bt
   ·by_cases h3:d.lat≤p
    ·simp [h1,h2,h3]
     omega
    ·simp [h1,h2,h3]
   ·by_cases h3:v<p
    ·simp [h1,h2,h3]
     omega
    ·simp [h1,h2,h3]
  ·simp [h1]
theorem bdStep_high {d:Cd}:t≤(jbQ bt st p d o s).2↔t≤s.2∧ ∀u,highC bt st p d o u→t≤u:=by
 unfold jbQ highC
 rcases o with _|v
 ·simp
 ·by_cases h1:d.st=st
  ·by_cases h2:d.butt=bt
   ·by_cases h3:p≤d.lat
    ·simp [h1,h2,h3]
     omega
    ·simp [h1,h2,h3]
   ·by_cases h3:p<v
    ·simp [h1,h2,h3]
     omega
    ·simp [h1,h2,h3]
  ·simp [h1]
theorem bdK_low {D:List Cd} {x:Bo} {bt:Bool} {st p t:Int}: ∀{k:Nat},(bdK D x bt st p k).1≤t↔0≤t∧ ∀i,i<k→ ∀u,lowC bt st p (dA D i) (xA x i) u→u≤t
 |0=>by simp [bdK]
 |k+1=>by
  rw [jbD,bdStep_low,bdK_low];constructor
  ·rintro ⟨⟨h0,h1⟩,h2⟩;refine ⟨h0,fun i hi=>?_⟩
   rcases Nat.lt_or_ge i k with g|g
   ·exact h1 i g
   ·obtain rfl:i=k:=by omega
    exact h2
  ·rintro ⟨h0,h1⟩;exact E84
theorem bdK_high {D:List Cd} {x:Bo} {bt:Bool} {st p t:Int}: ∀{k:Nat},t≤(bdK D x bt st p k).2↔t≤959∧ ∀i,i<k→ ∀u,highC bt st p (dA D i) (xA x i) u→t≤u
 |0=>by simp [bdK]
 |k+1=>by
  rw [jbD,bdStep_high,bdK_high];constructor
  ·rintro ⟨⟨h0,h1⟩,h2⟩;refine ⟨h0,fun i hi=>?_⟩
   rcases Nat.lt_or_ge i k with g|g
   ·exact h1 i g
   ·obtain rfl:i=k:=by omega
    exact h2
  ·rintro ⟨h0,h1⟩;exact E84
theorem bdA_low {x:Bo}:(bdA D x bt st p).1≤t↔0≤t∧ ∀i,i<D.length→ ∀u,lowC bt st p (dA D i) (xA x i) u→u≤t:=bdK_low
theorem bdA_high {x:Bo}:t≤(bdA D x bt st p).2↔t≤959∧ ∀i,i<D.length→ ∀u,highC bt st p (dA D i) (xA x i) u→t≤u:=bdK_high
def RngD (D:List Cd):Prop:= ∀d∈D,(0≤d.lat∧d.lat≤959)∧ ∀v∈d.can,0≤v∧v≤959
def SepD (D:List Cd):Prop:= ∀i j,i<D.length→j<D.length→i≠j→(dA D i).st=(dA D j).st→(dA D i).butt=(dA D j).butt→(dA D i).lat≠(dA D j).lat
theorem dA_mem (h:i<D.length):dA D i∈D:=by
 unfold dA
 rw [List.getD_eq_getElem?_getD,List.getElem?_eq_getElem h];exact List.getElem_mem h
theorem RngD.lat (r:RngD D) (h:i<D.length):0≤(dA D i).lat∧(dA D i).lat≤959:=(r _ (dA_mem h)).1
theorem RngD.can (r:RngD D) (h:i<D.length) (hv:v∈(dA D i).can):0≤v∧v≤959:=(r _ (dA_mem h)).2 v hv
theorem lowC_rng (r:RngD D) {x:Bo} (ok:okA D x=true) (hi:i<D.length) (h:lowC bt st p (dA D i) (xA x i) u):0≤u∧u≤959:=by
 obtain ⟨v,e,_,⟨_,_,rfl⟩|⟨_,_,rfl⟩⟩:=h
 ·exact E85
 ·exact r.lat hi
theorem highC_rng (r:RngD D) {x:Bo} (ok:okA D x=true) (hi:i<D.length) (h:highC bt st p (dA D i) (xA x i) u):0≤u∧u≤959:=by
 obtain ⟨v,e,_,⟨_,_,rfl⟩|⟨_,_,rfl⟩⟩:=h
 ·exact E85
 ·exact r.lat hi
theorem riC_same {a c:Cd} (hs:a.st=c.st) (hb:a.butt=c.butt):riC a c ma mc=riL a.lat c.lat ma mc:=by
 unfold riC
 rw [if_neg (fun h=>h hs),if_pos hb]
theorem riC_cross {a c:Cd} (hs:a.st=c.st) (hb:a.butt≠c.butt):riC a c ma mc=riX a.lat c.lat ma mc:=by
 unfold riC
 rw [if_neg (fun h=>h hs),if_neg hb];split
 ·exact riX_turn
 ·rfl
theorem low_high (sp:SepD D) {x:Bo} (ok:okA D x=true) {w:Int} (hi:i<D.length) (hj:j<D.length) (h1:lowC bt st p (dA D i) (xA x i) u) (h2:highC bt st p (dA D j) (xA x j) w):u≤w:=by
 obtain ⟨a,ea,sa,ha⟩:=h1
 obtain ⟨b,eb,sb,hb⟩:=h2
 by_cases hij:i=j
 ·subst hij
  rw [ea] at eb
  obtain rfl:=Option.some.inj eb
  rcases ha with ⟨k1,k2,rfl⟩|⟨k1,k2,rfl⟩<;>rcases hb with ⟨k3,k4,rfl⟩|⟨k3,k4,rfl⟩
  ·exact Int.le_refl _
  ·exact absurd k1 k3
  ·exact absurd k3 k1
  ·exact Int.le_refl _
 ·have hr:=okA_pair ok hij ea eb
  have hst:(dA D i).st=(dA D j).st:=sa.trans sb.symm
  rcases ha with ⟨k1,k2,rfl⟩|⟨k1,k2,rfl⟩<;>rcases hb with ⟨k3,k4,rfl⟩|⟨k3,k4,rfl⟩
  ·have hbt:(dA D i).butt=(dA D j).butt:=k1.trans k3.symm
   have:=sp i j hi hj hij hst hbt
   rw [riC_same hst hbt,jgA] at hr
   omega
  ·rw [riC_cross hst (fun e=>k3 (e.symm.trans k1)),jee] at hr
   omega
  ·rw [riC_cross hst (fun e=>k1 (e.trans k3)),jee] at hr
   omega
  ·have hbt:(dA D i).butt=(dA D j).butt:=by
    revert k1 k3
    cases (dA D i).butt<;>cases (dA D j).butt<;>cases bt<;>simp
   rw [riC_same hst hbt,jgA] at hr
   omega
theorem bdA_ok (r:RngD D) (sp:SepD D) {x:Bo} (ok:okA D x=true) (bt:Bool) (st p:Int):0≤(bdA D x bt st p).1∧(bdA D x bt st p).1≤(bdA D x bt st p).2∧(bdA D x bt st p).2≤959:=by
 have h0:=((bdA_low (D:=D) (x:=x) (bt:=bt) (st:=st) (p:=p)).1 (Int.le_refl _)).1
 have h9:=((bdA_high (D:=D) (x:=x) (bt:=bt) (st:=st) (p:=p)).1 (Int.le_refl _)).1
 refine ⟨h0,bdA_low.2 ⟨bdA_high.2 ⟨by omega,fun j hj u hu=>(highC_rng r ok hj hu).1⟩,fun i hi u hu=>bdA_high.2 ⟨(lowC_rng r ok hi hu).2,fun j hj w hw=>low_high sp ok hi hj hu hw⟩⟩,h9⟩
theorem bdA_mono {x:Bo} {q:Int} (h:p≤q):(bdA D x bt st p).1≤(bdA D x bt st q).1∧(bdA D x bt st p).2≤(bdA D x bt st q).2:=by
 constructor
 ·refine bdA_low.2 ⟨(bdA_low.1 (Int.le_refl _)).1,fun i hi u hu=>(bdA_low.1 (Int.le_refl _)).2 i hi u ?_⟩
  obtain ⟨v,e,s,k⟩:=hu
  exact E86
 ·refine bdA_high.2 ⟨(bdA_high.1 (Int.le_refl _)).1,fun i hi u hu=>(bdA_high.1 (Int.le_refl _)).2 i hi u ?_⟩
  obtain ⟨v,e,s,k⟩:=hu
  exact E86
theorem bdA_self (r:RngD D) (sp:SepD D) {x:Bo} (ok:okA D x=true) (hk:k<D.length) (e:xA x k=some v):bdA D x (dA D k).butt (dA D k).st (dA D k).lat=(v,v):=by
 obtain ⟨_,h2,_⟩:=bdA_ok r sp ok (dA D k).butt (dA D k).st (dA D k).lat
 have h3:v≤(bdA D x (dA D k).butt (dA D k).st (dA D k).lat).1:=(bdA_low.1 (Int.le_refl _)).2 k hk v ⟨v,e,rfl,.inl ⟨rfl,Int.le_refl _,rfl⟩⟩
 have h4:(bdA D x (dA D k).butt (dA D k).st (dA D k).lat).2≤v:=(bdA_high.1 (Int.le_refl _)).2 k hk v ⟨v,e,rfl,.inl ⟨rfl,Int.le_refl _,rfl⟩⟩
 exact Prod.ext zO zO
theorem spB_fold (f:Bo→Int×Int): ∀(L:List Bo) (s:Int×Int) (t:Int),(t≤(L.foldl (fun s x=>(min s.1 (f x).1,max s.2 (f x).2)) s).1↔t≤s.1∧ ∀x∈L,t≤(f x).1)∧((L.foldl (fun s x=>(min s.1 (f x).1,max s.2 (f x).2)) s).2≤t↔s.2≤t∧ ∀x∈L,(f x).2≤t)
 |[],s,t=>by simp
 |a::L,s,t=>by
  rw [List.foldl_cons];obtain ⟨h1,h2⟩:=spB_fold f L (min s.1 (f a).1,max s.2 (f a).2) t
  rw [h1,h2];simp only [List.forall_mem_cons]
  constructor
  ·constructor
   ·rintro ⟨a1,a2⟩;exact E87
   ·rintro ⟨a1,a2,a3⟩;exact ⟨by omega,a3⟩
  ·constructor
   ·rintro ⟨a1,a2⟩;exact E87
   ·rintro ⟨a1,a2,a3⟩;exact ⟨by omega,a3⟩
theorem spB_low:t≤(spB f L).1↔t≤959∧ ∀x∈L,t≤(f x).1:=(spB_fold f L (959,0) t).1
theorem spB_high:(spB f L).2≤t↔0≤t∧ ∀x∈L,(f x).2≤t:=(spB_fold f L (959,0) t).2
theorem spB_mono {g:Bo→Int×Int} (h: ∀x∈L,(f x).1≤(g x).1∧(f x).2≤(g x).2):(spB f L).1≤(spB g L).1∧(spB f L).2≤(spB g L).2:=by
 constructor
 ·exact spB_low.2 ⟨(spB_low.1 (Int.le_refl _)).1,fun x hx=>Int.le_trans ((spB_low.1 (Int.le_refl _)).2 x hx) (h x hx).1⟩
 ·exact spB_high.2 ⟨(spB_high.1 (Int.le_refl _)).1,fun x hx=>Int.le_trans (h x hx).2 ((spB_high.1 (Int.le_refl _)).2 x hx)⟩
theorem spB_ok (hne:L≠[]) (h: ∀x∈L,0≤(f x).1∧(f x).1≤(f x).2∧(f x).2≤959):0≤(spB f L).1∧(spB f L).1≤(spB f L).2∧(spB f L).2≤959:=by
 obtain ⟨x,hx⟩:=List.exists_mem_of_ne_nil L hne
 have h1:=(spB_low (f:=f) (L:=L)).1 (Int.le_refl _)
 have h2:=(spB_high (f:=f) (L:=L)).1 (Int.le_refl _)
 have:=h1.2 x hx
 have:=h2.2 x hx
 have:=h x hx
 exact ⟨spB_low.2 ⟨by omega,fun y hy=>(h y hy).1⟩,by omega,spB_high.2 ⟨by omega,fun y hy=>(h y hy).2.2⟩⟩
theorem spB_self (r:RngD D) (sp:SepD D) {w:Nat} (hk:k<D.length) (hall: ∀x∈jak D w,(xA x k).isSome=true) (hne:jak D w≠[]) {lo hi:Int}
  (hlo:lo∈jck D (jak D w) k) (hhi:hi∈jck D (jak D w) k) (hb: ∀v∈jck D (jak D w) k,lo≤v∧v≤hi):spB (fun x=>bdA D x (dA D k).butt (dA D k).st (dA D k).lat) (jak D w)=(lo,hi):=by
 have hself: ∀x∈jak D w,∃v,xA x k=some v∧bdA D x (dA D k).butt (dA D k).st (dA D k).lat=(v,v):=fun x hx=>by
  obtain ⟨v,e⟩:=Option.isSome_iff_exists.1 (hall x hx)
  exact ⟨v,e,bdA_self r sp (jaL.1 hx).1 hk e⟩
 obtain ⟨xl,hxl,el⟩:=mem_canS_boats.1 hlo
 obtain ⟨xh,hxh,eh⟩:=mem_canS_boats.1 hhi
 obtain ⟨_,e1,b1⟩:=hself xl hxl
 obtain ⟨_,e2,b2⟩:=hself xh hxh
 rw [el] at e1
 obtain rfl:=Option.some.inj e1
 rw [eh] at e2
 obtain rfl:=Option.some.inj e2
 have rl:=r.can hk (mem_canC.1 hlo).1
 have rh:=r.can hk (mem_canC.1 hhi).1
 have k1:=(spB_low (f:=fun x=>bdA D x (dA D k).butt (dA D k).st (dA D k).lat) (L:=jak D w)).1 (Int.le_refl _)
 have k2:=(spB_high (f:=fun x=>bdA D x (dA D k).butt (dA D k).st (dA D k).lat) (L:=jak D w)).1 (Int.le_refl _)
 have g1:=k1.2 xl hxl
 have g2:=k2.2 xh hxh
 rw [b1] at g1
 rw [b2] at g2
 refine Prod.ext (Int.le_antisymm g1 (spB_low.2 ⟨rl.2,fun x hx=>?_⟩)) (Int.le_antisymm (spB_high.2 ⟨rh.1,fun x hx=>?_⟩) g2)
 ·obtain ⟨v,e,b⟩:=hself x hx
  rw [b];exact (hb v (mem_canS_boats.2 ⟨x,hx,e⟩)).1
 ·obtain ⟨v,e,b⟩:=hself x hx
  rw [b];exact (hb v (mem_canS_boats.2 ⟨x,hx,e⟩)).2
def shf (i j:Nat):Nat:=if j<i then j else j+1
theorem getD_erase {α:Type} (l:List α) (d:α) (i j:Nat):(l.eraseIdx i).getD j d=l.getD (shf i j) d:=by
 rw [List.getD_eq_getElem?_getD,List.getD_eq_getElem?_getD,List.getElem?_eraseIdx,shf];split<;>rfl
end Go.Lo
namespace Go.Proofs
open Go.Lo
open Go.Conc (G)
section
theorem f37_c (m:Md Tryz.prog B) (h:Hp) (a b lo hi:Int):FnC m 37 #[.agg [.int .i64 a,.int .i64 b].toArray,.int .i64 lo,.int .i64 hi] h fun v h'=>h'=h∧IsB (lo≤a∧a≤b∧b≤hi) v:=by
 refine jaf Tryz.func37 rfl rfl (l:=(.agg [.int .i64 a,.int .i64 b].toArray)::(.int .i64 lo)::(.int .i64 hi)::uu21) rfl ?_
 intro cf cs K hK
 refine Z2 ?_
 refine jaX rfl zq (fun q3=>jau (jae ?_));refine Z3 ?_;refine jaK [Zf 0,Zf 1,Zf 2,Zf 3,Zf 4,Zf 5,Zf 6,Zf 7,Zf 8,Zf 9,Zf 10,Zf 11,Zf 12,Zf 13,Zf 14,Zf 15,Zf 16,Zf 17] zK zK ?_;refine Z3 ?_
 refine jcn rfl zq (fun hc=>?_) (fun hc=>?_)
 ·refine Z5 ?_
  refine jcn rfl rfl (fun hc=>?_) (fun hc=>?_)
  ·refine Z5 ?_
   refine jcn rfl rfl (fun hc=>?_) (fun hc=>?_);all_goals
    refine Z4 ?_;refine jad (h) rfl Tryz.func37 rfl jab ?_;refine Zs ?_
    exact E0
  ·refine Z10 ?_;refine jad (h) rfl Tryz.func37 rfl jab ?_;refine Zs ?_
   exact E0
 ·refine Z16 ?_;refine jad (h) rfl Tryz.func37 rfl jab ?_;refine Zs ?_
  exact E0
end
end Go.Proofs
namespace Go.Proofs
open Go.Lo
theorem meaS_rng {s:Str} (h:v∈jbl s):0≤v∧v≤959:=by
 unfold jbl at h
 split at h
 ·unfold jdJ at h
  obtain ⟨n,hn,rfl⟩:=List.mem_map.1 h
  have:=List.mem_range.1 (List.mem_filter.1 hn).1
  omega
 ·cases h
theorem up_lat (u:ls.Pairwise fun a b=>a.lat<b.lat) (hi:i<ls.length) (hj:j<ls.length) (e:(ls.getD i default).lat=(ls.getD j default).lat):i=j:=by
 rw [List.getD_eq_getElem?_getD,List.getElem?_eq_getElem hi,List.getD_eq_getElem?_getD,List.getElem?_eq_getElem hj] at e
 simp only [Option.getD_some] at e
 rw [List.pairwise_iff_getElem] at u
 rcases Nat.lt_trichotomy i j with h|h|h
 ·have:=u i j hi hj h;omega
 ·exact h
 ·have:=u j i hj hi h;omega
section
theorem cell_at (hi:i<(jaa b).length):jbO b ((jaa b).getD i default)=true∧jbo b ((jaa b).getD i default)≠jbG:=jaA (jah hi)
theorem can_at (hi:i<(jaa b).length):(dA (cdT b) i).can=jbl (jbo b ((jaa b).getD i default)):=by rw [jaF b hi];rfl
theorem RngD_cdT (k:TbOk b):RngD (cdT b):=fun d hd=>by
 obtain ⟨c,hc,rfl⟩:=List.mem_map.1 hd
 have h:=jaA hc
 exact ⟨((k.lines c.butt).ok _ (jbz h.1)).lat,fun v hv=>meaS_rng hv⟩
theorem SepD_cdT (k:TbOk b):SepD (cdT b):=fun i j hi hj hij hst hbt e=>by
 rw [jaq] at hi hj
 rw [jaF b hi,jaF b hj] at hst hbt e
 have h1:=jbk.1 (cell_at hi).1
 have h2:=jbk.1 (cell_at hj).1
 have hb:((jaa b).getD i default).butt=((jaa b).getD j default).butt:=hbt
 have hs:((jaa b).getD i default).st=((jaa b).getD j default).st:=hst
 replace e:((jap b ((jaa b).getD i default).butt).getD ((jaa b).getD i default).line.toNat default).lat=((jap b ((jaa b).getD j default).butt).getD ((jaa b).getD j default).line.toNat default).lat:=e
 rw [hb] at e h1
 have:=up_lat (k.lines _).up zO zO e
 refine hij (jkb hi hj ?_)
 rcases hc:(jaa b).getD i default with ⟨b1,l1,s1⟩
 rcases hd:(jaa b).getD j default with ⟨b2,l2,s2⟩
 rw [hc,hd] at hb hs this
 rw [hc] at h1
 rw [hd] at h1 h2
 simp only at hb hs this h1 h2
 rw [hb,hs,show l1=l2 by omega]
end
end Go.Proofs
namespace Go.Lo
open Go.Proofs
def gp (n b i:Nat):Str:=if b.testBit i then [63] else (jfw (jce n) 45).getD i []
theorem ends_of (h:l.Pairwise (· < ·)) (hz:z∈l):jfs l≤z∧z≤jiA l:=by
 obtain ⟨i,hi,rfl⟩:=List.mem_iff_getElem.1 hz
 have hp:=List.pairwise_iff_getElem.1 h
 have g: ∀k (hk:k<l.length),l.getD k 0=l[k]:=fun k hk=>by rw [List.getD_eq_getElem?_getD,List.getElem?_eq_getElem hk];rfl
 unfold jfs jiA
 rw [g 0 zO,g (l.length-1) zO];constructor
 ·rcases Nat.eq_zero_or_pos i with rfl|h0
  ·exact Int.le_refl _
  ·have:=hp 0 i zO hi h0;omega
 ·rcases Nat.lt_or_ge i (l.length-1) with h1|h1
  ·have:=hp i (l.length-1) hi zO h1;omega
  ·obtain rfl:i=l.length-1:=by omega
   exact Int.le_refl _
theorem meaS_in {s:Str} (h:z∈jbl s):0≤z∧z≤959:=by
 unfold jbl at h
 split at h
 ·rw [jdJ] at h
  obtain ⟨k,hk,rfl⟩:=List.mem_map.1 h
  have:=List.mem_range.1 (List.mem_filter.1 hk).1
  omega
 ·cases h
end Go.Lo
namespace Go.Proofs
open Go.Lo
open Go.Conc (G)
section
variable [LaidO B]
theorem open_at (hz:tbS b=0) (hk:k<(jaa b).length) (hne:jac b≠[]):jaJ b (jdv b ((jaa b).getD k default))=0:=jej hz (jg6 hk) hne
theorem canL_at (hz:tbS b=0) (hk:k<(jaa b).length) (hne:jac b≠[]):jeu b ((jaa b).getD k default)=jck (cdT b) (jac b) k:=by rw [jeu,if_pos (open_at hz hk hne),jgr hk]
theorem span_eq (h:jaJ b (jfJ b st p)=0):jaE b bt st p=spB (fun x=>bdA (cdT b) x bt st p) (jac b):=by rw [jaE,if_pos h];rfl
theorem ownP_in (h:0≤st∧st<(b.sts.length:Int)) (h2:0≤p∧p≤959):jfJ b st p=0:=by
 rw [jfJ,if_neg (fun e=>e ⟨h.1,by omega⟩),if_neg (fun e=>e h2)]
theorem openP_in (hz:tbS b=0) (h:0≤st∧st<(b.sts.length:Int)) (h2:0≤p∧p≤959) (hne:jac b≠[]):jaJ b (jfJ b st p)=0:=jej hz (ownP_in h h2) hne
theorem jpY (hz:tbS b=0) (h:0≤st∧st<(b.sts.length:Int)) (h2:0≤p∧p≤959) (hne:jac b=[]):jaJ b (jfJ b st p)=9:=jlV hz (ownP_in h h2) hne
theorem place_in (ok:TbOk b) {c:Ce} (hc:jbO b c=true):(0≤c.st∧c.st<(b.sts.length:Int))∧0≤(jaT b c).lat∧(jaT b c).lat≤959:=by
 have h:=jbk.1 hc
 exact ⟨⟨h.2.2.1,h.2.2.2⟩,((ok.lines _).ok _ (jbz hc)).lat⟩
def spW (b:Tb) (c:Ce):Int×Int:=jaE b c.butt c.st (jaT b c).lat
theorem jsw (ok:TbOk b) (hne:jac b≠[]) (bt:Bool) (st p:Int):0≤(spB (fun x=>bdA (cdT b) x bt st p) (jac b)).1∧(spB (fun x=>bdA (cdT b) x bt st p) (jac b)).1≤(spB (fun x=>bdA (cdT b) x bt st p) (jac b)).2∧(spB (fun x=>bdA (cdT b) x bt st p) (jac b)).2≤959:=
 spB_ok hne fun x hx=>bdA_ok (RngD_cdT ok) (SepD_cdT ok) (jhr x hx) bt st p
theorem jmY {q:Int} (h:p≤q):(spB (fun x=>bdA (cdT b) x bt st p) (jac b)).1≤(spB (fun x=>bdA (cdT b) x bt st q) (jac b)).1∧(spB (fun x=>bdA (cdT b) x bt st p) (jac b)).2≤(spB (fun x=>bdA (cdT b) x bt st q) (jac b)).2:=
 spB_mono fun x _=>bdA_mono h
theorem first_mem (h:0<l.length):jfs l∈l∧jiA l∈l:=by
 unfold jfs jiA
 rw [List.getD_eq_getElem?_getD,List.getD_eq_getElem?_getD,List.getElem?_eq_getElem h,List.getElem?_eq_getElem (show l.length-1<l.length by omega)];exact ⟨List.getElem_mem _,List.getElem_mem _⟩
theorem span_self (ok:TbOk b) (hz:tbS b=0) (hk:k<(jaa b).length) (hne:jac b≠[]) (hw:jaU (jac b) k=0):0<(jck (cdT b) (jac b) k).length∧spW b ((jaa b).getD k default)=(jfs (jck (cdT b) (jac b) k),jiA (jck (cdT b) (jac b) k)):=by
 have hk':k<(cdT b).length:=by rw [jaq];exact hk
 have hall: ∀x∈jac b,(xA x k).isSome=true:=fun x hx=>by
  have:=List.countP_eq_zero.1 hw x hx
  cases h:xA x k with
  |none=>rw [h] at this;exact absurd rfl this
  |some v=>rfl
 have hpos:0<(jck (cdT b) (jac b) k).length:=by
  obtain ⟨x,hx⟩:=List.exists_mem_of_ne_nil _ hne
  obtain ⟨v,e⟩:=Option.isSome_iff_exists.1 (hall x hx)
  exact List.length_pos_of_mem (mem_canS_boats.2 ⟨x,hx,e⟩)
 obtain ⟨h1,h2⟩:=first_mem hpos
 have hpl:=place_in ok (cell_at hk).1
 refine ⟨hpos,?_⟩
 rw [spW,span_eq (openP_in hz hpl.1 hpl.2 hne)];have:=spB_self (RngD_cdT ok) (SepD_cdT ok) hk' hall hne h1 h2 fun v hv=>ends_of (jmu hk) hv
 rw [jaF b hk] at this
 exact this
theorem told_no {m:Nat} (h:n≠0):jeH n m≠2:=by
 unfold jeH
 rw [if_neg h];split<;>decide
theorem jsn (m:Nat):jeH 0 m=2:=rfl
end
section
variable [LaidO B]
theorem line_rd {h:Hp} {p:Option Addr} {c:Nat} (r:RdLn B h (.slice p n c) n ls) (h0:0<n): ∃lb lo,∃lps:List Lp,p=some ⟨lb,lo,none⟩∧lps.map (·.ln)=ls∧lps.length=n∧RdS B h 2 (.slice (some ⟨lb,lo,none⟩) n c) n (jaC lps):=by
 obtain ⟨lps,e,r,_⟩:=r
 have hl:=r.elen zA
 obtain ⟨lb,lo,rfl⟩:=r.ptr h0
 exact ⟨lb,lo,lps,rfl,e,hl,r⟩
theorem lat_at {lps:List Lp} (e:lps.map (·.ln)=ls) (hi:i<lps.length):(lps.getD i default).ln.lat=(ls.getD i default).lat:=by
 rw [←e,ja1 _ _ hi]
theorem f38_c (m:Md Tryz.prog B) (h:Hp) (ra:RawTb B h b ps ns ks pw nw cw pb nb cb) {c:Ce} (hht:jbO b c=true):FnC m 38 #[tbV b ps ns ks pw nw cw pb nb cb,cV c.butt c.line c.st] h fun v h'=>h'=h∧v= .tuple [.agg [.int .i64 (spW b c).1,.int .i64 (spW b c).2].toArray,.int .i64 (jaJ b (jfJ b c.st (jaT b c).lat))].toArray:=by
 refine jaf Tryz.func38 rfl rfl (l:=(tbV b ps ns ks pw nw cw pb nb cb)::(cV c.butt c.line c.st)::uu32) rfl ?_
 intro cf cs K hK
 refine Z2 ?_
 refine jaX rfl zq (fun q1=>jau (jae ?_));refine jaX rfl zq (fun q3=>jau (jae ?_));refine jax rfl zq (fun q4=>jau (jae ?_));refine Z8 ?_
 refine jcS (fun hc=>?_) (fun hc=>?_);first|replace hc:=of_decide_eq_true hc|replace hc:=of_decide_eq_false hc|skip
 refine Zs ?_
 have hbt:c.butt=true:=hc
 have hh:=jbk.1 hht
 have hln:(jap b c.butt).length=nb:=by rw [hbt];exact jaV ra.u
 obtain ⟨li,hli⟩:=Int.eq_ofNat_of_zero_le hh.1
 obtain ⟨lb,lo,lps,rfl,hle,hll,rl⟩:=line_rd ra.u zO
 have hlat:(lps.getD li default).ln.lat=(jaT b c).lat:=by
  rw [lat_at hle zO,jaT,hbt,hli];rfl
 refine jar [Zp 1,Zp 3,Zp 5,Zr 0,Zr 2,Zr 4,Zr 6,Zp 7,Zp 8,Zr 9,Zk 10,Zp 11,Zp 12,Zf 13,Zp 14] zK zK (List.Sublist.refl _) ?_;refine Z7 ?_;refine D12 ?_;refine Zs ?_;refine jaW (v:= .int .i64 (lps.getD li default).ln.lat) rfl zq (rl.fat li 0 zO zO rfl) ?_;rw [hlat];refine jag (Post:=fun v=>v= .tuple [.agg [.int .i64 (jaE b true c.st (jaT b c).lat).1,.int .i64 (jaE b true c.st (jaT b c).lat).2].toArray,.int .i64 (jaJ b (jfJ b c.st (jaT b c).lat))].toArray) rfl zq zK (fun H' hH=>f23_c m H' (ra.keeps (sq hH)) _ _) ?_;rotate_left
 first|replace hc:=of_decide_eq_true hc|replace hc:=of_decide_eq_false hc|skip
 refine Z2 ?_
 have hbt:c.butt=false:=by simpa using hc
 have hh:=jbk.1 hht
 have hln:(jap b c.butt).length=nw:=by rw [hbt];exact jaV ra.w
 obtain ⟨li,hli⟩:=Int.eq_ofNat_of_zero_le hh.1
 obtain ⟨lb,lo,lps,rfl,hle,hll,rl⟩:=line_rd ra.w zO
 have hlat:(lps.getD li default).ln.lat=(jaT b c).lat:=by
  rw [lat_at hle zO,jaT,hbt,hli];rfl
 refine jar [Zp 1,Zp 3,Zp 5,Zr 0,Zr 2,Zr 4,Zr 6,Zp 7,Zp 8,Zr 9,Zk 10,Zp 11,Zp 12,Zf 13,Zp 14] zK zK (List.Sublist.refl _) ?_;refine Z7 ?_;refine D12 ?_;refine Zs ?_;refine jaW (v:= .int .i64 (lps.getD li default).ln.lat) rfl zq (rl.fat li 0 zO zO rfl) ?_;rw [hlat];refine jag (Post:=fun v=>v= .tuple [.agg [.int .i64 (jaE b false c.st (jaT b c).lat).1,.int .i64 (jaE b false c.st (jaT b c).lat).2].toArray,.int .i64 (jaJ b (jfJ b c.st (jaT b c).lat))].toArray) rfl zq zK (fun H' hH=>f21_c m H' (ra.keeps (sq hH)) _ _) ?_;all_goals
  rintro v rfl;refine Z3 ?_;refine jhx ?_;refine jad (h) rfl Tryz.func38 rfl jab ?_;refine Zs ?_
  exact ⟨rfl,by rw [spW,hbt]⟩
theorem f5_t (h:Hp) (rds:RdS B h 1 (.slice ps ns ks) ns (jaC b.sts)) (hcs:ns≤ks) (rdw:RdLn B h (.slice pw nw cw) nw b.waters) (rdb:RdLn B h (.slice pb nb cb) nb b.butts) (y x1 x2 z:Nat) (hy:y≤255) (hx1:x1≤65535) (hx2:x2≤65535) (hzz:z≤255):(Md.starC Tryz.prog B).R (jie Tryz.prog B fun v _=>v= .bool true) (G (Frame.enter Tryz.prog 5 #[tbV b ps ns ks pw nw cw pb nb cb,.int .u8 (y:Int),.int .u16 (x1:Int),.int .u16 (x2:Int),.int .u8 (z:Int)] .normal) []) h:=by
 refine jeb Tryz.func5 rfl rfl (l:=[tbV b ps ns ks pw nw cw pb nb cb,.int .u8 (y:Int),.int .u16 (x1:Int),.int .u16 (x2:Int),.int .u8 (z:Int),undef,undef,undef,undef,undef,undef,undef,undef,undef,undef,undef,undef,undef,undef,undef,undef,undef,undef,undef,undef,undef,undef,undef,undef,undef,undef,undef,undef,undef,undef,undef,undef,undef,undef,undef,undef,undef,undef,undef,undef,undef,undef,undef,undef,undef,undef,undef,undef,undef,undef,undef,undef,undef,undef,undef,undef,undef,undef,undef,undef,undef,undef,undef,undef,undef,undef,undef,undef,undef,undef,undef,undef,undef,undef,undef,undef,undef,undef,undef,undef,undef,undef,undef,undef,undef,undef,undef,undef,undef,undef,undef,undef,undef,undef,undef,undef,undef,undef,undef,undef,undef,undef,undef,undef,undef,undef,undef,undef,undef,undef,undef,undef,undef,undef,undef,undef,undef,undef,undef,undef,undef,undef,undef,undef,undef,undef,undef,undef,undef,undef,undef,undef,undef,undef,undef,undef,undef,undef,undef,undef,undef,undef,undef,undef,undef,undef,undef,undef,undef,undef,undef,undef,undef,undef,undef,undef,undef,undef,undef,undef,undef,undef,undef,undef,undef,undef,undef,undef,undef,undef,undef,undef,undef,undef,undef,undef,undef,undef,undef,undef,undef,undef,undef,undef,undef,undef,undef,undef,undef,undef,undef,undef,undef,undef,undef,undef,undef,undef,undef,undef,undef,undef,undef,undef,undef,undef,undef,undef,undef,undef,undef,undef]) rfl ?_;refine Z2 ?_
 refine jaX rfl zq (fun q1=>jau (jae ?_));refine Z6 ?_;refine jag (Post:=fun v=>IsB _ v) rfl zq zK (fun H' hH=>f25_c _ H' (rds.keeps (sq hH)) hcs (rdw.keeps (sq hH)) (rdb.keeps (sq hH))) ?_
 rintro v (⟨hc,rfl⟩|⟨hc,rfl⟩)
 ·refine Zs ?_
  have hfit:=hc
  have ra:=jjs rds hcs rdw rdb hfit.1
  have hz:=hfit.2
  have ok:=jaN.1 hz
  have rd:=ra.rd ok
  have h12:=jbH ok
  have hbl:=jbC ok
  refine Z7 ?_;refine jbg rfl zq zK (n':=(y:Int)) zL ?_;refine Z3 ?_
  have hsl:=rd.sl
  have hn1:=rd.n1
  refine jcp rfl zq zO ?_;obtain ⟨st,hstx⟩: ∃st,st=y%ns:=⟨_,rfl⟩
  rw [←hstx];have hst:st<ns:=hstx▸Nat.mod_lt _ zO
  refine Z5 ?_;refine jbg rfl zq zK (n':=(x1:Int)) zL ?_;refine jcp (a:=x1) (b:=960) rfl zq zO ?_;refine Zs ?_;refine jbg rfl zq zK (n':=(x2:Int)) zL ?_;refine jcp (a:=x2) (b:=960) rfl zq zO ?_;refine Z7 ?_;refine jnE rfl zq ?_;refine Z2 ?_;refine jrw rfl zq ?_;refine Z4 ?_
  obtain ⟨lo,hlo⟩: ∃lo:Int,lo=min ((x1%960:Nat):Int) ((x2%960:Nat):Int):=⟨_,rfl⟩
  obtain ⟨hi,hhi⟩: ∃hi:Int,hi=max ((x1%960:Nat):Int) ((x2%960:Nat):Int):=⟨_,rfl⟩
  rw [←hlo,←hhi];have hr:(0≤lo∧lo≤959)∧(0≤hi∧hi≤959)∧lo≤hi:=by omega
  have hsr:(0:Int)≤(st:Int)∧(st:Int)<(b.sts.length:Int):=by omega
  by_cases hne:jac b=[]
  have hoL:=jpY hz hsr hr.1 hne
  have hoH:=jpY hz hsr hr.2.1 hne
  refine Z4 ?_;refine jag (Post:=fun v=>v= .tuple [.agg [.int .i64 (jaE b false (st:Int) lo).1,.int .i64 (jaE b false (st:Int) lo).2].toArray,.int .i64 9].toArray) rfl zq zK (fun H' hH=>by have:=f21_c (Md.starC Tryz.prog B) H' (ra.keeps (sq hH)) (st:Int) lo;rw [hoL] at this;exact this) ?_
  rintro v rfl;refine Z4 ?_
  refine jax rfl zq (fun q14=>jau (jae ?_));refine D6 ?_;refine Z7 ?_;refine jag (Post:=fun v=>v= .tuple [.agg [.int .i64 (jaE b false (st:Int) hi).1,.int .i64 (jaE b false (st:Int) hi).2].toArray,.int .i64 9].toArray) rfl zq zK (fun H' hH=>by have:=f21_c (Md.starC Tryz.prog B) H' (ra.keeps (sq hH)) (st:Int) hi;rw [hoH] at this;exact this) ?_
  rintro v rfl;refine Z4 ?_
  refine jax rfl zq (fun q16=>jau (jae ?_));refine D6 ?_;refine Z7 ?_;refine jag (Post:=fun v=>v= .tuple [.agg [.int .i64 (jaE b true (st:Int) lo).1,.int .i64 (jaE b true (st:Int) lo).2].toArray,.int .i64 9].toArray) rfl zq zK (fun H' hH=>by have:=f23_c (Md.starC Tryz.prog B) H' (ra.keeps (sq hH)) (st:Int) lo;rw [hoL] at this;exact this) ?_
  rintro v rfl;refine Z4 ?_
  refine jax rfl zq (fun q18=>jau (jae ?_));refine D6 ?_;refine Z7 ?_;refine jag (Post:=fun v=>v= .tuple [.agg [.int .i64 (jaE b true (st:Int) hi).1,.int .i64 (jaE b true (st:Int) hi).2].toArray,.int .i64 9].toArray) rfl zq zK (fun H' hH=>by have:=f23_c (Md.starC Tryz.prog B) H' (ra.keeps (sq hH)) (st:Int) hi;rw [hoH] at this;exact this) ?_
  rotate_left
  have hoL:=openP_in hz hsr hr.1 hne
  have hoH:=openP_in hz hsr hr.2.1 hne
  have hpos:0<(jac b).length:=List.length_pos_iff.2 hne
  refine Z4 ?_;refine jag (Post:=fun v=>v= .tuple [.agg [.int .i64 (jaE b false (st:Int) lo).1,.int .i64 (jaE b false (st:Int) lo).2].toArray,.int .i64 0].toArray) rfl zq zK (fun H' hH=>by have:=f21_c (Md.starC Tryz.prog B) H' (ra.keeps (sq hH)) (st:Int) lo;rw [hoL] at this;exact this) ?_
  rintro v rfl;refine Z4 ?_
  refine jax rfl zq (fun q14=>jau (jae ?_));refine D6 ?_;refine Z7 ?_;refine jag (Post:=fun v=>v= .tuple [.agg [.int .i64 (jaE b false (st:Int) hi).1,.int .i64 (jaE b false (st:Int) hi).2].toArray,.int .i64 0].toArray) rfl zq zK (fun H' hH=>by have:=f21_c (Md.starC Tryz.prog B) H' (ra.keeps (sq hH)) (st:Int) hi;rw [hoH] at this;exact this) ?_
  rintro v rfl;refine Z4 ?_
  refine jax rfl zq (fun q16=>jau (jae ?_));refine D6 ?_;refine Z7 ?_;refine jag (Post:=fun v=>v= .tuple [.agg [.int .i64 (jaE b true (st:Int) lo).1,.int .i64 (jaE b true (st:Int) lo).2].toArray,.int .i64 0].toArray) rfl zq zK (fun H' hH=>by have:=f23_c (Md.starC Tryz.prog B) H' (ra.keeps (sq hH)) (st:Int) lo;rw [hoL] at this;exact this) ?_
  rintro v rfl;refine Z4 ?_
  refine jax rfl zq (fun q18=>jau (jae ?_));refine D6 ?_;refine Z7 ?_;refine jag (Post:=fun v=>v= .tuple [.agg [.int .i64 (jaE b true (st:Int) hi).1,.int .i64 (jaE b true (st:Int) hi).2].toArray,.int .i64 0].toArray) rfl zq zK (fun H' hH=>by have:=f23_c (Md.starC Tryz.prog B) H' (ra.keeps (sq hH)) (st:Int) hi;rw [hoH] at this;exact this) ?_
  all_goals
   rintro v rfl;refine Z4 ?_
   refine jax rfl zq (fun q20=>jau (jae ?_));refine D6 ?_;refine Z5 ?_;refine jag (Post:=fun v=>v= .tuple [.int .i64 ((jac b).length:Int),.int .i64 0].toArray) rfl zq zK (fun H' hH=>by have:=f28_c (Md.starC Tryz.prog B) H' (b:=b) (ra.keeps (sq hH));rw [if_pos hz,hz] at this;exact this) ?_
   rintro v rfl;refine Z9 ?_;refine jaK [Zf 0,Zf 1,Zf 2,Zf 3,Zf 4,Zf 5,Zf 6,Zf 7,Zf 8,Zf 9,Zf 10,Zf 11,Zf 12,Zf 13,Zf 14,Zf 15,Zf 16,Zf 17,Zf 18,Zf 19,Zf 20,Zf 21,Zf 22,Zf 23] zK zK ?_;refine Zs ?_;refine ja5 rfl zq rfl ?_;refine Z3 ?_;refine ja5 rfl rfl rfl ?_;refine Z4 ?_;refine ja5 rfl rfl rfl ?_;refine Z4 ?_;refine ja5 rfl rfl rfl ?_;refine Z3 ?_
  ·refine jbn rfl rfl rfl ?_;refine Zs ?_;refine jjJ rfl rfl zO ?_;refine k_neqBF rfl rfl zK rfl ?_;refine Z8 ?_;refine ja5 rfl zq rfl ?_;refine Z5 ?_;have mw:=jmY (b:=b) (bt:=false) (st:=(st:Int)) hr.2.2
   have mb:=jmY (b:=b) (bt:=true) (st:=(st:Int)) hr.2.2
   have k1:=jsw ok hne false (st:Int) lo
   have k2:=jsw ok hne true (st:Int) hi
   rw [←span_eq (bt:=false) hoL,←span_eq (bt:=false) hoH] at mw
   rw [←span_eq (bt:=true) hoL,←span_eq (bt:=true) hoH] at mb
   rw [←span_eq (bt:=false) hoL] at k1
   rw [←span_eq (bt:=true) hoH] at k2
   refine jaK [Zf 0,Zf 1,Zf 2,Zf 3,Zf 4,Zf 5,Zf 6,Zf 7,Zf 8,Zf 9,Zf 10,Zf 11,Zf 12,Zf 13,Zf 14,Zf 15,Zf 16,Zf 17,Zf 18,Zf 19,Zf 20,Zf 21,Zf 22,Zf 23,Zf 24,Zf 25,Zf 26,Zf 27,Zf 28,Zf 29,Zf 30,Zf 31,Zf 32,Zf 33,Zf 34,Zf 35] zK zK ?_;refine Z4 ?_;refine jfR rfl zq zO ?_;refine Z5 ?_;refine jfR rfl rfl zO ?_;refine Z6 ?_;refine jfR rfl rfl zO ?_;refine Z6 ?_;refine jfR rfl rfl zO ?_;refine Z3 ?_;refine jag (Post:=fun v=>IsB _ v) rfl rfl zK (fun H' hH=>f37_c _ H' _ _ _ _) ?_;rintro v (⟨hc,rfl⟩|⟨hc,rfl⟩)
   ·refine Z5 ?_;refine jag (Post:=fun v=>IsB _ v) rfl rfl zK (fun H' hH=>f37_c _ H' _ _ _ _) ?_
    rintro v (⟨hc,rfl⟩|⟨hc,rfl⟩)
    ·refine Z9 ?_;refine jaD rfl zq zK (Post:=fun w new=>OwnS 37 3 w (jaa b).length (jaC (jaa b)) new) (fun H' hH=>f26_c _ H' (rd.keeps (sq hH))) ?_
     rintro w n33 o33;refine jaH (jae ?_);obtain ⟨p33,c33,rfl,hc33,r33⟩:=jav (B:=B) o33
     refine Z7 ?_
     refine jaS rfl zq (fun hc=>?_) (fun hc=>?_)
     ·refine Z4 ?_;refine ja7 rfl zq zK (f20_c _) ?_
      rintro v h' ⟨nF,rfl,rfl⟩;refine Z4 ?_;refine jbw rfl Tryz.func5 zK rfl ?_
      rfl
     ·refine Z7 ?_;refine jbg rfl zq zK (n':=(z:Int)) zL ?_;refine Z2 ?_;refine jcp rfl zq zO ?_
      obtain ⟨k,hkx⟩: ∃k,k=z%(jaa b).length:=⟨_,rfl⟩
      rw [←hkx];have hk:k<(jaa b).length:=hkx▸Nat.mod_lt _ zO
      obtain ⟨b33,o33_,rfl⟩:=r33.ptr zO
      refine D12 ?_;refine jc5 (vs:=[.bool ((jaa b).getD k default).butt,.int .i64 ((jaa b).getD k default).line,.int .i64 ((jaa b).getD k default).st]) rfl zq rfl (r33.eat k zO zO) ?_
      obtain ⟨c,hcx⟩: ∃c,c=(jaa b).getD k default:=⟨_,rfl⟩
      rw [←hcx];have hht:jbO b c=true:=hcx▸(cell_at hk).1
      have hpl:plN b c=k:=by rw [hcx];exact jgr hk
      have ho:jaJ b (jdv b c)=0:=by rw [hcx];exact open_at hz hk hne
      have hcn:jeu b c=jck (cdT b) (jac b) k:=by rw [hcx];exact canL_at hz hk hne
      have hpc:=place_in ok hht
      have hoc:=openP_in hz hpc.1 hpc.2 hne
      refine jax rfl zq (fun qc=>jau (jae ?_));refine D6 ?_;refine Z5 ?_;refine jag (Post:=fun v=>v= .tuple [.int .i64 (jeH (jaU (jac b) k) (jac b).length),.int .i64 0].toArray) rfl zq zK (fun H' hH=>by have:=f30_c (Md.starC Tryz.prog B) H' (ra.keeps (sq hH)) c;rw [ho,if_pos rfl,hpl] at this;exact this) ?_
      rintro v rfl;refine Z11 ?_;refine jaD rfl zq zK (Post:=fun v nw=> ∃w,v= .tuple [w,.int .i64 0].toArray∧RdI B nw w (jck (cdT b) (jac b) k)) (fun H' hH=>by have:=f29_c (Md.starC Tryz.prog B) H' (ra.keeps (sq hH)) c;rw [ho,hcn] at this;exact this) ?_
      rintro v n56 ⟨w,rfl,pcn,ccn,rfl,rcn⟩;refine jaH (jae ?_);refine Z10 ?_;refine jag (Post:=fun v=>v= .tuple [.agg [.int .i64 (spW b c).1,.int .i64 (spW b c).2].toArray,.int .i64 0].toArray) rfl zq zK (fun H' hH=>by have:=f38_c (Md.starC Tryz.prog B) H' (ra.keeps (sq hH)) hht;rw [hoc] at this;exact this) ?_
      rintro v rfl;refine Z4 ?_
      refine jax rfl zq (fun q28=>jau (jae ?_));refine D6 ?_;refine Z6 ?_;refine ja5 rfl zq rfl ?_;refine Z2 ?_;refine ja5 rfl rfl rfl ?_;refine Z3 ?_;refine ja5 rfl rfl rfl ?_;refine Z5 ?_
      by_cases hw:jaU (jac b) k=0
      rw [hw,jsn];have hself:=span_self ok hz hk hne hw
      rw [←hcx] at hself
      obtain ⟨hcp,hself⟩:=hself
      obtain ⟨bcn,ocn,rfl⟩:=rcn.ptr hcp
      have hcl:=jde (D:=cdT b) (L:=jac b) (k:=k)
      rw [can_at hk] at hcl
      have h960:=jiK (jbo b ((jaa b).getD k default))
      refine jar [Zp 0,Zp 1,Zp 2,Zp 3,Zp 4,Zp 5,Zp 6,Zp 8,Zp 9,Zp 11,Zp 12,Zp 13,Zp 14,Zp 15,Zr 7,Zr 10,Zr 16,Zp 17,Zp 18,Zp 19,Zp 20,Zp 21,Zf 22,Zp 23,Zp 24] zK zK (List.Sublist.refl _) ?_;refine Zs ?_;refine ja5 rfl zq rfl ?_;refine Z3 ?_;refine jjJ rfl rfl zO ?_;refine Z2 ?_;refine jcq rfl rfl rfl zO zO ?_;refine Z3 ?_;refine D95 ?_;refine jcq rfl rfl rfl zO zO ?_;refine Zs ?_;refine jaW rfl rfl (rcn.iat 0 zO zO) ?_;refine jaW rfl rfl (rcn.iat ((jck (cdT b) (jac b) k).length-1) zO zO) ?_;refine jnL rfl rfl ?_;refine jjK rfl rfl zK (by rw [hself];exact ⟨rfl,rfl⟩) ?_;refine Z2 ?_;rotate_left
      refine jar [Zp 0,Zp 1,Zp 2,Zp 3,Zp 4,Zp 5,Zp 6,Zp 8,Zp 9,Zp 11,Zp 12,Zp 13,Zp 14,Zp 15,Zr 7,Zr 10,Zr 16,Zp 17,Zp 18,Zp 19,Zp 20,Zp 21,Zf 22,Zp 23,Zp 24] zK zK (List.Sublist.refl _) ?_;refine Zs ?_;refine k_neqT rfl zq (told_no hw) ?_;refine Z19 ?_;all_goals
       refine Zs ?_;refine ja7 rfl rfl zK (f20_c _) ?_
       rintro v h' ⟨nF,rfl,rfl⟩;refine Z5 ?_;refine jbw rfl Tryz.func5 zK rfl ?_
       rfl
    ·refine Zs ?_
     exact absurd k2 hc
   ·refine Zs ?_
    exact absurd k1 hc
  ·refine jfr rfl rfl zA ?_;refine Zs ?_;refine jfR rfl rfl (by rw [hne];decide) ?_;refine k_neqBF rfl rfl zK rfl ?_;refine Z8 ?_;refine k_neqT rfl zq zA ?_;refine Z5 ?_;refine jbn rfl zq rfl ?_;refine Zs ?_;refine ja7 rfl rfl zK (f20_c _) ?_;rintro v h' ⟨nF,rfl,rfl⟩;refine Z5 ?_;refine jbw rfl Tryz.func5 zK rfl ?_
   rfl
 ·refine Z6 ?_;refine ja7 rfl zq zK (f20_c _) ?_
  rintro v h' ⟨nF,rfl,rfl⟩;refine Z4 ?_;refine jbw rfl Tryz.func5 zK rfl ?_
  rfl
end
end Go.Proofs
