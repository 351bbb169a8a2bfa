/- A part of the proof of a law: my own separation logic over the machine, and walks of the program. Condition of each theorem: as its statement says. -/
import Derived.Test.YtggpepeiedkbbaaGreatDoorVLOfewest7
set_option linter.all false
namespace Go.Proofs
open Go.Lo
open Go.Conc (G)
set_option maxRecDepth 100000
set_option synthInstance.maxSize 100000
set_option synthInstance.maxHeartbeats 1000000
set_option maxHeartbeats 4000000
variable {B:Array Obj}
variable [LaidO B]
theorem jhs (i:Nat) (hi:i<2):(halvesL.drop ((i:Int).toNat*3)).take 3=[str (hwS i),.bool (decide (i=1)),.func (.func (261+i)) #[] #[]]:=by
 rcases (by omega:i=0∨i=1) with rfl|rfl<;>rfl
theorem ji8 (b:Tb) {i:Nat} (hi:i<2):hL b i=jay b (decide (i=1)):=by
 rcases (by omega:i=0∨i=1) with rfl|rfl<;>rfl
theorem joX {b:Tb} {i k j:Nat} (hi:i<2):hasT b ⟨decide (i=1),(k:Int),(j:Int)⟩=true↔k<(hL b i).length∧j<b.sts.length:=by
 rw [jcV,ji8 b hi];simp only
 omega
theorem figT_at {b:Tb} {i k j:Nat} (hi:i<2):figT b ⟨decide (i=1),(k:Int),(j:Int)⟩=((hL b i).getD k default).figs.getD j []:=by
 rw [figT,jbs,ji8 b hi];simp only [Int.toNat_natCast]
theorem jjU {b:Tb} {i k n:Nat} (hi:i<2) (hk:(hL b i).length≤k):rowK b (decide (i=1)) k n=[]:=by
 rw [rowK,List.filter_eq_nil_iff];intro c hc
 obtain ⟨s,_,rfl⟩:=List.mem_map.1 hc
 rw [jd8];cases hh:hasT b ⟨decide (i=1),(k:Int),(s:Int)⟩ with
 |false=>simp
 |true=>have:=(joX hi).1 hh;omega
theorem jns (b:Tb) {i k:Nat} (hi:i<2) (hk:k≤2) (hl:(hL b i).length≤k):accC b i k 0=accC b (i+1) 0 0:=by
 rw [←jhR];have one: ∀k,(hL b i).length≤k→accC b i k 0=accC b i (k+1) 0:=fun k hk=>by
  rw [←jfx,accC,accC,jjU hi hk,jjU hi hk]
 rcases (by omega:k=0∨k=1∨k=2) with rfl|rfl|rfl
 ·rw [one 0 hl,one 1 zO]
 ·rw [one 1 hl]
 ·rfl
theorem ji2 {b:Tb} {bt:Bool} {j k:Nat} {c:Ce} (h:c∈rowK b bt j k):c.butt=bt∧c.line=j∧0≤c.st∧c.st<k:=by
 rw [rowK,List.mem_filter,List.mem_map] at h
 obtain ⟨⟨s,hs,rfl⟩,_⟩:=h
 rw [List.mem_range] at hs
 exact ⟨rfl,rfl,by simp only;omega,by simp only;omega⟩
theorem accC_new {b:Tb} {i k j:Nat} (hi:i<2):(⟨decide (i=1),(k:Int),(j:Int)⟩:Ce)∉accC b i k j:=by
 intro h
 rw [accC,List.mem_append,List.mem_append] at h
 rcases h with (h|h)|h
 ·simp only [accI,accJ,List.mem_flatMap,List.mem_range] at h
  obtain ⟨i',hi',j',_,h⟩:=h
  have:=(ji2 h).1
  simp only at this
  rw [decide_eq_decide] at this
  omega
 ·simp only [accJ,List.mem_flatMap,List.mem_range] at h
  obtain ⟨j',hj',h⟩:=h
  have:=(ji2 h).2.1
  simp only at this
  omega
 ·have:=(ji2 h).2.2.2
  simp only at this
  omega
theorem jmt (b:Tb) {i k j:Nat} (hi:i≤2) (hk:k≤2) (h3:b.sts.length≤3):(accC b i k j).length≤(i*2+k)*3+j:=by
 have h1:=jf1 b (decide (i=1)) hk
 have h2:=jg2 b (decide (i=1)) k j
 have h4:(accI b i).length≤i*6:=by
  have a0:=jf1 b (decide (0=1)) (Nat.le_refl 2)
  have a1:=jf1 b (decide (1=1)) (Nat.le_refl 2)
  rcases (by omega:i=0∨i=1∨i=2) with rfl|rfl|rfl<;>simp [accI,List.range_succ] at* <;>omega
 have h5:k*b.sts.length≤k*3:=Nat.mul_le_mul_left k h3
 rw [accC,List.length_append,List.length_append];omega
def shC (tb:List Value) (cv mv:Value) (la:List Int) (cl:List Value):List Value:=tb++[cv,mv]++(ints la++cl)
section
variable {a0 a1 a2 a3 cv mv:Value} {la:List Int} {cl:List Value}
instance:At (shC [a0,a1,a2,a3] cv mv la cl) 4 cv:=⟨rfl⟩
instance:At (shC [a0,a1,a2,a3] cv mv la cl) 5 mv:=⟨rfl⟩
instance {u:Value}:SetSeg (shC [a0,a1,a2,a3] cv mv la cl) 4 [u] (shC [a0,a1,a2,a3] u mv la cl):=⟨by simp [shC],by simp [shC]⟩
theorem jcL {l l':List Value} {i:Nat} {v:Value} (h:i<l.length) (e:l'=l.set i v):SetSeg l i [v] l':=⟨by
 rw [e,List.set_eq_take_append_cons_drop,if_pos h];simp,by simp;omega⟩
theorem jc4 {k:Nat} (h:k<la.length) (z:Int):SetSeg (shC [a0,a1,a2,a3] cv mv la cl) (6+(k:Int).toNat*1) [.int .i64 z] (shC [a0,a1,a2,a3] cv mv (la.set k z) cl):=by
 rw [Int.toNat_natCast,Nat.mul_one];have hk:k<(ints la).length:=by simpa using h
 refine jcL (by simp [shC];omega) ?_
 rw [shC,shC,List.set_append_right _ _ zS,show 6+k-([a0,a1,a2,a3]++[cv,mv]).length=k by simp,List.set_append_left _ _ hk,ints,ints,List.map_set]
theorem jc5 {k:Nat} (hl:la.length=12) (h:k<cl.length) (u:Value):SetSeg (shC [a0,a1,a2,a3] cv mv la cl) (18+(k:Int).toNat*1) [u] (shC [a0,a1,a2,a3] cv mv la (cl.set k u)):=by
 rw [Int.toNat_natCast,Nat.mul_one];refine jcL (by simp [shC,hl];omega) ?_
 rw [shC,shC,List.set_append_right _ _ zN,List.set_append_right _ _ (by simp [hl];omega),show 18+k-([a0,a1,a2,a3]++[cv,mv]).length-(ints la).length=k by simp [hl];omega]
theorem jnV {k:Nat} (h:k<la.length):(shC [a0,a1,a2,a3] cv mv la cl)[6+k]?=some (.int .i64 (la.getD k 0)):=by
 have e:shC [a0,a1,a2,a3] cv mv la cl=[a0,a1,a2,a3,cv,mv]++(ints la++cl):=rfl
 rw [e,List.getElem?_append_right zS,show 6+k-[a0,a1,a2,a3,cv,mv].length=k by simp,List.getElem?_append_left (by simpa using h),List.getElem?_map,List.getElem?_eq_getElem h,List.getD_eq_getElem?_getD,List.getElem?_eq_getElem h];rfl
theorem jnW {k:Nat} (h:la.length=12):(shC [a0,a1,a2,a3] cv mv la cl)[18+k]?=cl[k]?:=by
 have e:shC [a0,a1,a2,a3] cv mv la cl=([a0,a1,a2,a3,cv,mv]++ints la)++cl:=by simp [shC]
 rw [e,List.getElem?_append_right (by simp [h]),show 18+k-([a0,a1,a2,a3,cv,mv]++ints la).length=k by simp [h]]
end
def LatOk (b:Tb) (cs:List Ce) (la:List Int):Prop:=la.length=12∧ ∀x,x<cs.length→la.getD x 0=(jbs b (cs.getD x default)).lat
def CanOk (B:Array Obj) (M:Hp) (b:Tb) (cs:List Ce) (cl:List Value):Prop:=cl.length=12∧ ∀x,x<cs.length→ ∃p c,cl[x]?=some (.slice p (meaS (figT b (cs.getD x default))).length c)∧(meaS (figT b (cs.getD x default))).length≤c∧RdS B M 1 (.slice p (meaS (figT b (cs.getD x default))).length c) (meaS (figT b (cs.getD x default))).length (ints (meaS (figT b (cs.getD x default))))
theorem jfl {α:Type} {d:α} {l:List α} {a:α} (x:Nat):(l++[a]).getD x d=if x<l.length then l.getD x d else if x=l.length then a else d:=by
 rw [List.getD_eq_getElem?_getD,List.getElem?_append];split
 ·rw [List.getD_eq_getElem?_getD]
 ·rename_i h
  split
  ·rename_i e
   subst e
   simp
  ·rw [List.getElem?_eq_none zN];rfl
theorem LatOk.snoc {b:Tb} {cs:List Ce} {la:List Int} (h:LatOk b cs la) {c:Ce} {z:Int} (hl:cs.length<12) (hz:z=(jbs b c).lat):LatOk b (cs++[c]) (la.set cs.length z):=by
 refine ⟨by simpa using h.1,fun x hx=>?_⟩
 rw [List.length_append,List.length_singleton] at hx
 rw [jfl,List.getD_eq_getElem?_getD,List.getElem?_set];by_cases e:x<cs.length
 ·rw [if_pos e,if_neg zO,←List.getD_eq_getElem?_getD,h.2 x e]
 ·obtain rfl:x=cs.length:=by omega
  rw [if_neg e,if_pos rfl,if_pos rfl,if_pos (by rw [h.1];exact hl),hz];rfl
theorem CanOk.snoc {B:Array Obj} {M:Hp} {b:Tb} {cs:List Ce} {cl:List Value} (h:CanOk B M b cs cl) {c:Ce} (hl:cs.length<12) {nw:Hp} {u:Value} {f:Str} (hf:f=figT b c) (o:OwnS 3 1 u (meaS f).length (ints (meaS f)) nw):CanOk B (M++nw) b (cs++[c]) (cl.set cs.length u):=by
 subst hf
 refine ⟨by simpa using h.1,fun x hx=>?_⟩
 rw [List.length_append,List.length_singleton] at hx
 rw [jfl,List.getElem?_set];by_cases e:x<cs.length
 ·rw [if_pos e,if_neg zO];obtain ⟨p,c',e1,e2,e3⟩:=h.2 x e
  exact ⟨p,c',e1,e2,e3.keeps (List.sublist_append_left _ _)⟩
 ·obtain rfl:x=cs.length:=by omega
  rw [if_neg e,if_pos rfl,if_pos rfl,if_pos (by rw [h.1];exact hl)];obtain ⟨p,c',rfl,hc,rd⟩:=jap (B:=B) o
  exact ⟨p,c',rfl,hc,rd.keeps (List.sublist_append_right _ _)⟩
theorem LatOk.nil (b:Tb):LatOk b [] (List.replicate 12 0):=⟨rfl,fun x hx=>by simp at hx⟩
theorem CanOk.nil (B:Array Obj) (b:Tb):CanOk B [] b [] (List.replicate 12 (.slice none 0 0)):=⟨rfl,fun x hx=>by simp at hx⟩
structure Sheet (B:Array Obj) (H:Hp) (b:Tb) (q:Nat) (tv:List Value):Prop where
 twelve:(jab b).length≤12
 tb:RdN B H q 0 tv
 cells: ∃p c,Rd B H ⟨q,4,none⟩ (.slice p (jab b).length c)∧(jab b).length≤c∧RdS B H 3 (.slice p (jab b).length c) (jab b).length (encs (jab b))
 map: ∃rw qm,Rd B H ⟨q,5,none⟩ (.map (some qm))∧(⟨rw,qm,mapC (jab b)⟩:Chunk)∈H
 lat: ∀i,i<(jab b).length→Rd B H ⟨q,6+i,none⟩ (.int .i64 (dA (cdT b) i).lat)
 can: ∀i,i<(jab b).length→ ∃p c,Rd B H ⟨q,18+i,none⟩ (.slice p (dA (cdT b) i).can.length c)∧(dA (cdT b) i).can.length≤c∧RdS B H 1 (.slice p (dA (cdT b) i).can.length c) (dA (cdT b) i).can.length (ints (dA (cdT b) i).can)
theorem Sheet.keeps {B:Array Obj} {H H':Hp} {b:Tb} {q:Nat} {tv:List Value} (s:Sheet B H b q tv) (k:H.Sublist H'):Sheet B H' b q tv:=by
 obtain ⟨h0,h1,⟨p,c,h2,h3,h4⟩,⟨rw,qm,h5,h6⟩,h7,h8⟩:=s
 refine ⟨h0,fun j hj=>(h1 j hj).keeps k,⟨p,c,h2.keeps k,h3,h4.keeps k⟩,⟨rw,qm,h5.keeps k,k.subset h6⟩,fun i hi=>(h7 i hi).keeps k,fun i hi=>?_⟩
 obtain ⟨p,c,a1,a2,a3⟩:=h8 i hi
 exact ⟨p,c,a1.keeps k,a2,a3.keeps k⟩
theorem sheet_of {B:Array Obj} {W M:Hp} {b:Tb} {qm q:Nat} {a0 a1 a2 a3:Value} {wp:Option Addr} {wc:Nat} {la:List Int} {cl:List Value} (hn:(jab b).length≤12)
  (o:OwnS 37 3 (.slice wp (jab b).length wc) (jab b).length (encs (jab b)) W) (hla:LatOk b (jab b) la) (hcl:CanOk B M b (jab b) cl):
  Sheet B ([⟨true,qm,mapC (jab b)⟩,⟨true,q,.cells (shC [a0,a1,a2,a3] (.slice wp (jab b).length wc) (.map (some qm)) la cl).toArray 132 (0,0)⟩]++W++M) b q [a0,a1,a2,a3]:=by
 have hin:(⟨true,q,.cells (shC [a0,a1,a2,a3] (.slice wp (jab b).length wc) (.map (some qm)) la cl).toArray 132 (0,0)⟩:Chunk)∈[⟨true,qm,mapC (jab b)⟩,⟨true,q,.cells (shC [a0,a1,a2,a3] (.slice wp (jab b).length wc) (.map (some qm)) la cl).toArray 132 (0,0)⟩]++W++M:=by simp
 have rd: ∀o v,(shC [a0,a1,a2,a3] (.slice wp (jab b).length wc) (.map (some qm)) la cl)[o]?=some v→Rd B ([⟨true,qm,mapC (jab b)⟩,⟨true,q,.cells (shC [a0,a1,a2,a3] (.slice wp (jab b).length wc) (.map (some qm)) la cl).toArray 132 (0,0)⟩]++W++M) ⟨q,o,none⟩ v:=fun o v e=>Rd.held hin (by simpa using e)
 obtain ⟨p',c',e,hc,r⟩:=jap (B:=B) o
 cases e
 refine ⟨hn,fun j hj=>?_,⟨wp,wc,rd _ _ rfl,hc,r.keeps (List.Sublist.trans (List.sublist_append_right _ _) (List.sublist_append_left _ _))⟩,⟨true,qm,rd _ _ rfl,by simp⟩,fun i hi=>?_,fun i hi=>?_⟩
 ·rw [Nat.zero_add];refine rd _ _ ?_
  simp only [List.length_cons,List.length_nil] at hj
  rcases (by omega:j=0∨j=1∨j=2∨j=3) with rfl|rfl|rfl|rfl<;>rfl
 ·rw [jas b hi];refine rd _ _ ?_
  rw [jnV (by rw [hla.1];omega),hla.2 i hi];rfl
 ·rw [jas b hi];obtain ⟨p,c,e1,e2,e3⟩:=hcl.2 i hi
  exact ⟨p,c,rd _ _ (by rw [jnW hla.1];exact e1),e2,e3.keeps (List.sublist_append_right _ _)⟩
theorem jdV {B:Array Obj} {h' F1 F2 F3 H X Y Z:Hp} [a:Off h' Z F1] [b:Off F1 Y F2] [c:Off F2 X F3] [s:SubH H F3]:Weak B h' (H++X++(Y++Z)):=by
 rw [←List.append_assoc];exact (Weak.perm a.perm).trans (((Weak.perm b.perm).trans (((Weak.perm c.perm).trans ((Weak.sub s.sub).apps X)).apps Y)).apps Z)
theorem f95_c (m:Md Tryz.prog B) (h:Hp) {b:Tb} {ps:Option Addr} {ns ks:Nat} {pw:Option Addr} {nw cw:Nat} {pb:Option Addr} {nb cb:Nat} (rd:RdTb B h b ps ns ks pw nw cw pb nb cb):FnC m 95 #[tbV b ps ns ks pw nw cw pb nb cb] h fun v h'=> ∃new q,h'=h++new∧v= .pointer (some ⟨q,0,none⟩)∧Sheet B new b q (tbL b ps ns ks pw nw cw pb nb cb):=by
 have hsl:=rd.sl
 have hn1:=rd.n1
 have hn3:=rd.n3
 have hw2:=rd.w2
 have hb2:=rd.b2
 refine jae Tryz.func95 rfl rfl (l:=(tbV b ps ns ks pw nw cw pb nb cb)::uu94) rfl ?_
 intro cf cs K hK
 refine rs2 ?_;refine jaQ rfl zq (fun q1=>k_hp (jad ?_));refine D0 ?_;refine rs6 ?_;refine Zs ?_;refine D58 ?_
 refine k_mkmapC rfl zq (fun qm=>k_hp (jad ?_));refine D58 ?_
 refine jaQ rfl zq (fun q18=>k_hp (jad ?_));refine D150 ?_;refine rs2 ?_;refine jcU (vs:=halvesL) rfl zq rfl jeV ?_;refine D243 ?_
 refine jai (fun nn l h'=> ∃(i:Nat) (wp1:Option Addr) (wc1:Nat) (W1 M1:Hp) (la1:List Int) (cl1:List Value),nn=2-i∧(i≤2)∧(OwnS 37 3 (.slice wp1 (accC b i 0 0).length wc1) (accC b i 0 0).length (encs (accC b i 0 0)) W1)∧(LatOk b (accC b i 0 0) la1)∧(CanOk B M1 b (accC b i 0 0) cl1)∧(∃U:Nat→Value,l=((tbV b ps ns ks pw nw cw pb nb cb)::(.pointer (some ⟨q1,0,none⟩))::(U 2)::(.pointer (some ⟨q18,0,none⟩))::vw15 U 4 ((.agg halvesL.toArray)::(.int .i64 (i:Int))::vw74 U 21 [])))∧h++[⟨true,q1,.cells (tbL b ps ns ks pw nw cw pb nb cb).toArray 25 (0,0)⟩,⟨true,qm,mapC (accC b i 0 0)⟩,⟨true,q18,.cells (shC (tbL b ps ns ks pw nw cw pb nb cb) (.slice wp1 (accC b i 0 0).length wc1) (.map (some qm)) la1 cl1).toArray 132 (0,0)⟩]++W1++M1=h') _ ⟨0,none,0,[],[],List.replicate 12 0,List.replicate 12 (.slice none 0 0),rfl,by omega,OwnS.nil,LatOk.nil b,CanOk.nil B b,exU rfl,(by rw [List.append_nil,List.append_nil];rfl)⟩ ?_;rintro nn l h' ⟨i,wp1,wc1,W1,M1,la1,cl1,rfl,hi,how1,hla1,hcl1,⟨U,rfl⟩,rfl⟩ hnext1;refine rs1 ?_;refine jan rfl zq (fun hc=>?_) (fun hc=>?_)
 ·refine D205 ?_;refine rs3 ?_;refine jl9 rfl zq zO zO (jhs i zO) ?_
  refine jau rfl zq (fun q5=>k_hp (jad ?_));refine D22 ?_;refine D151 ?_
  have hin:i<2:=by omega
  obtain ⟨pl,nl,cl0,hsl1,hln,hnl⟩:=joZ (B:=B) (b:=b) (ps:=ps) (ns:=ns) (ks:=ks) rd.w (show nw≤1000 by omega) rd.u (show nb≤1000 by omega) i hin
  have hsmi: ∀l∈hL b i,l.figs.length=ns∧ ∀f∈l.figs,f.length≤100000∧ja7 f=true:=by
   unfold hL
   split
   ·exact fun l hl=>⟨(rd.wf l hl).1,fun f hf=>⟨(rd.sm.wat l hl).2 f hf,(rd.wf l hl).2 f hf⟩⟩
   ·exact fun l hl=>⟨(rd.bf l hl).1,fun f hf=>⟨(rd.sm.but l hl).2 f hf,(rd.bf l hl).2 f hf⟩⟩
  have hnl2:nl≤2:=by
   have h1:=jbv hln
   unfold hL at h1
   have h2:=rd.wl
   have h3:=rd.bl
   split at h1<;>omega
  refine rr7 ?_;refine Z2 ?_;refine D115 ?_;rintro v rfl;refine D9 ?_
  refine jal rfl zq ?_;refine k_ld (v:= .slice pl nl cl0) rfl zq (rd_nth hsl1) ?_;refine D155 ?_;refine D11 ?_;obtain ⟨lps,hle,rl,hfig⟩:=hln
  have hll:=rl.elen zA
  have hln2:(hL b i).length=nl:=by rw [←hle,List.length_map,hll]
  refine m.weak (h':=h++[⟨true,q1,.cells (tbL b ps ns ks pw nw cw pb nb cb).toArray 25 (0,0)⟩,⟨true,qm,mapC (accC b i 0 0)⟩,⟨true,q18,.cells (shC (tbL b ps ns ks pw nw cw pb nb cb) (.slice wp1 (accC b i 0 0).length wc1) (.map (some qm)) la1 cl1).toArray 132 (0,0)⟩]++[⟨true,q5,.cells [str (hwS i),.bool (decide (i=1)),.func (.func (261+i)) #[] #[]].toArray 184 (0,0)⟩]++W1++M1) jeh ?_
  refine jai (fun nn l h'=> ∃(k:Nat) (wp2:Option Addr) (wc2:Nat) (W2 M2:Hp) (la2:List Int) (cl2:List Value),nn=nl-k∧(k≤nl)∧(OwnS 37 3 (.slice wp2 (accC b i k 0).length wc2) (accC b i k 0).length (encs (accC b i k 0)) W2)∧(LatOk b (accC b i k 0) la2)∧(CanOk B M2 b (accC b i k 0) cl2)∧(∃U:Nat→Value,l=((tbV b ps ns ks pw nw cw pb nb cb)::(.pointer (some ⟨q1,0,none⟩))::(U 2)::(.pointer (some ⟨q18,0,none⟩))::(U 4)::(.pointer (some ⟨q5,0,none⟩))::vw13 U 6 ((.agg halvesL.toArray)::(.int .i64 (i:Int))::vw6 U 21 ((.slice pl nl cl0)::(.int .i64 (nl:Int))::(.int .i64 (k:Int))::vw65 U 30 []))))∧h++[⟨true,q1,.cells (tbL b ps ns ks pw nw cw pb nb cb).toArray 25 (0,0)⟩,⟨true,qm,mapC (accC b i k 0)⟩,⟨true,q18,.cells (shC (tbL b ps ns ks pw nw cw pb nb cb) (.slice wp2 (accC b i k 0).length wc2) (.map (some qm)) la2 cl2).toArray 132 (0,0)⟩]++[⟨true,q5,.cells [str (hwS i),.bool (decide (i=1)),.func (.func (261+i)) #[] #[]].toArray 184 (0,0)⟩]++W2++M2=h') _ ⟨0,wp1,wc1,W1,M1,la1,cl1,rfl,by omega,how1,hla1,hcl1,exU rfl,rfl⟩ ?_;rintro nn l h' ⟨k,wp2,wc2,W2,M2,la2,cl2,rfl,hk,how2,hla2,hcl2,⟨U,rfl⟩,rfl⟩ hnext2;refine rs1 ?_;refine jan rfl zq (fun hc=>?_) (fun hc=>?_)
  ·refine D191 ?_
   obtain ⟨rl_b,rl_o,rfl⟩:=rl.ptr zO
   refine rr6 ?_;refine Zs ?_;refine D29 ?_;refine D82 ?_;obtain ⟨x,hx⟩: ∃x,x=lps.getD k default:=⟨_,rfl⟩
   rw [←hx];refine jau rfl zq (fun q7=>k_hp (jad ?_));refine Zs ?_;refine D194 ?_;refine jn1 ?_;refine D2 ?_;refine jn3 ?_;refine D2 ?_
   have hxm:x∈lps:=hx▸jak zO
   obtain ⟨hxc,rdf0⟩:=hfig x hxm
   have hxl:(hL b i).getD k default=x.ln:=by rw [←hle,jaR _ _ zO,←hx]
   obtain ⟨hfl,hfs⟩:=hsmi x.ln (hxl▸jak zO)
   refine rr4 ?_;refine Z4 ?_;refine D182 ?_;refine m.weak (h':=h++[⟨true,q1,.cells (tbL b ps ns ks pw nw cw pb nb cb).toArray 25 (0,0)⟩,⟨true,qm,mapC (accC b i k 0)⟩,⟨true,q18,.cells (shC (tbL b ps ns ks pw nw cw pb nb cb) (.slice wp2 (accC b i k 0).length wc2) (.map (some qm)) la2 cl2).toArray 132 (0,0)⟩]++[⟨true,q5,.cells [str (hwS i),.bool (decide (i=1)),.func (.func (261+i)) #[] #[]].toArray 184 (0,0)⟩]++[⟨true,q7,.cells [.int .i64 x.ln.lat,.slice x.p x.ln.figs.length x.c].toArray 121 (0,0)⟩]++W2++M2) jeh ?_;refine jai (fun nn l h'=> ∃(j:Nat) (wp3:Option Addr) (wc3:Nat) (W3 M3:Hp) (la3:List Int) (cl3:List Value),nn=x.ln.figs.length-j∧(j≤x.ln.figs.length)∧(OwnS 37 3 (.slice wp3 (accC b i k j).length wc3) (accC b i k j).length (encs (accC b i k j)) W3)∧(LatOk b (accC b i k j) la3)∧(CanOk B M3 b (accC b i k j) cl3)∧(∃U:Nat→Value,l=((tbV b ps ns ks pw nw cw pb nb cb)::(.pointer (some ⟨q1,0,none⟩))::(U 2)::(.pointer (some ⟨q18,0,none⟩))::(U 4)::(.pointer (some ⟨q5,0,none⟩))::(.int .i64 (k:Int))::(.pointer (some ⟨q7,0,none⟩))::vw11 U 8 ((.agg halvesL.toArray)::(.int .i64 (i:Int))::vw6 U 21 ((.slice (some ⟨rl_b,rl_o,none⟩) nl cl0)::(.int .i64 (nl:Int))::(.int .i64 (k:Int))::vw5 U 30 ((.slice x.p x.ln.figs.length x.c)::(.int .i64 (x.ln.figs.length:Int))::(.int .i64 (j:Int))::vw57 U 38 [])))))∧h++[⟨true,q1,.cells (tbL b ps ns ks pw nw cw pb nb cb).toArray 25 (0,0)⟩,⟨true,qm,mapC (accC b i k j)⟩,⟨true,q18,.cells (shC (tbL b ps ns ks pw nw cw pb nb cb) (.slice wp3 (accC b i k j).length wc3) (.map (some qm)) la3 cl3).toArray 132 (0,0)⟩]++[⟨true,q5,.cells [str (hwS i),.bool (decide (i=1)),.func (.func (261+i)) #[] #[]].toArray 184 (0,0)⟩]++[⟨true,q7,.cells [.int .i64 x.ln.lat,.slice x.p x.ln.figs.length x.c].toArray 121 (0,0)⟩]++W3++M3=h') _ ⟨0,wp2,wc2,W2,M2,la2,cl2,rfl,by omega,how2,hla2,hcl2,exU rfl,rfl⟩ ?_
   rintro nn l h' ⟨j,wp3,wc3,W3,M3,la3,cl3,rfl,hj,how3,hla3,hcl3,⟨U,rfl⟩,rfl⟩ hnext3;refine rs1 ?_;refine jan rfl zq (fun hc=>?_) (fun hc=>?_)
   ·refine D191 ?_
    have rdf:=rdf0 zO
    obtain ⟨fb,fo,hfp⟩:=rdf.ptr zO
    have rdg:=rdf
    rw [hfp] at rdg
    obtain ⟨hsk2,hsk3⟩:=hfs _ (jak (l:=x.ln.figs) (show j<x.ln.figs.length by omega))
    replace hsk2:(x.ln.figs.getD j []).length≤100000:=hsk2
    replace hsk3:ja7 (x.ln.figs.getD j [])=true:=hsk3
    have hht:hasT b (⟨decide (i=1),(k:Int),(j:Int)⟩:Ce)=true:=(joX hin).2 ⟨by omega,by omega⟩
    have hft:figT b (⟨decide (i=1),(k:Int),(j:Int)⟩:Ce)=x.ln.figs.getD j []:=by rw [figT_at hin,hxl]
    have hn12:(accC b i k j).length<12:=by
     have:=jmt b (i:=i) (k:=k) (j:=j) zO zO zO
     omega
    refine rr5 ?_;refine Zs ?_;refine D66 ?_;refine k_ld rfl zq (rdg.sat j zO zO) ?_;refine Zs ?_;refine D218 ?_;by_cases hda:x.ln.figs.getD j []=[45]
    ·refine jhm rfl zq hda ?_;have hkc:jd8 b (⟨decide (i=1),(k:Int),(j:Int)⟩:Ce)=false:=by rw [jd8,hht,hft,decide_eq_false (fun e=>e hda)];rfl
     refine D148 ?_;refine D23 ?_;refine D156 ?_
     have hks:=jln hkc
     rw [←hks];refine m.weak (h':=h++[⟨true,q1,.cells (tbL b ps ns ks pw nw cw pb nb cb).toArray 25 (0,0)⟩,⟨true,qm,mapC (accC b i k (j+1))⟩,⟨true,q18,.cells (shC (tbL b ps ns ks pw nw cw pb nb cb) (.slice wp3 (accC b i k (j+1)).length wc3) (.map (some qm)) la3 cl3).toArray 132 (0,0)⟩]++[⟨true,q5,.cells [str (hwS i),.bool (decide (i=1)),.func (.func (261+i)) #[] #[]].toArray 184 (0,0)⟩]++[⟨true,q7,.cells [.int .i64 x.ln.lat,.slice x.p x.ln.figs.length x.c].toArray 121 (0,0)⟩]++W3++M3) jeh ?_
     exact hnext3 _ _ _ zO ⟨j+1,wp3,wc3,W3,M3,la3,cl3,rfl,by omega,by rw [hks];exact how3,by rw [hks];exact hla3,by rw [hks];exact hcl3,exU rfl,rfl⟩
    ·refine jhn rfl zq hda ?_;have hkc:jd8 b (⟨decide (i=1),(k:Int),(j:Int)⟩:Ce)=true:=by rw [jd8,hht,hft,decide_eq_true (show x.ln.figs.getD j []≠dash from hda)];rfl
     have hfo:jaY (x.ln.figs.getD j [])=true:=by
      rw [ja7,Bool.or_eq_true] at hsk3
      exact hsk3.resolve_right fun e=>hda (of_decide_eq_true e)
     have hms:meaS (x.ln.figs.getD j [])=meaP (jar (x.ln.figs.getD j [])):=by rw [meaS,if_pos hfo]
     have hnew:=accC_new (b:=b) (i:=i) (k:=k) (j:=j) hin
     have hlat:x.ln.lat=(jbs b (⟨decide (i=1),(k:Int),(j:Int)⟩:Ce)).lat:=by rw [jbs,←ji8 b hin];simp only [Int.toNat_natCast];rw [hxl]
     refine D165 ?_;refine jaq [(0,.pure),(1,.pure),(2,.pure),(5,.pure),(7,.pure),(8,.pure),(3,.read),(4,.pure),(6,.read),(9,.pure),(10,.alloc),(11,.pure),(12,.free)] zK zK (List.Sublist.refl _) ?_;refine Zs ?_
     refine jal rfl zq ?_;refine Z7 ?_;refine D58 ?_
     refine jau rfl zq (fun q11=>k_hp (jad ?_));refine Zs ?_;refine D194 ?_;refine rs8 ?_;refine Zs ?_;refine jaj (Post:=fun v=>v=_) rfl zq zK (fun H' hH=>f119_c m H' _ hsk2) ?_
     rintro v rfl;refine D9 ?_;refine Z3 ?_
     refine jau rfl zq (fun q12=>k_hp (jad ?_));refine D64 ?_;refine D0 ?_;refine jcj (S:=h++[⟨true,q1,.cells (tbL b ps ns ks pw nw cw pb nb cb).toArray 25 (0,0)⟩]++[⟨true,q5,.cells [str (hwS i),.bool (decide (i=1)),.func (.func (261+i)) #[] #[]].toArray 184 (0,0)⟩]++[⟨true,q7,.cells [.int .i64 x.ln.lat,.slice x.p x.ln.figs.length x.c].toArray 121 (0,0)⟩]++[⟨true,q11,.cells [.bool (decide (i=1)),.int .i64 (k:Int),.int .i64 (j:Int)].toArray 37 (0,0)⟩,⟨true,q12,.cells (ints (jar (x.ln.figs.getD j []))).toArray 145 (0,0)⟩]) [0,1,2,3,4,5,6,7,8,9,10,11,12,13,14,15,16,17,18,19,20,21,22,23,24,25,26,27,28,29,30,31,32,33,34,35] zK zK SubH.sub ?_
     refine DrawT.split 4 13 zA (DrawT.split 4 15 zA (DrawT.split 13 15 zA ?_ ?_) ?_) (DrawT.split 4 15 zA ?_ (DrawT.split 4 16 zA (DrawT.split 13 15 zA ?_ ?_) (DrawT.split 4 21 zA (DrawT.split 13 15 zA ?_ ?_) (DrawT.split 13 15 zA ?_ ?_))))
     refine DrawT.leaf [(0,.pure),(1,.pure),(2,.pure),(3,.pure),(6,.pure),(7,.pure),(8,.pure),(9,.pure),(10,.pure),(11,.pure),(12,.pure),(17,.pure),(18,.pure),(28,.pure),(29,.pure),(32,.pure),(33,.pure),(5,.read),(14,.read),(19,.read),(20,.read),(4,.keep),(13,.keep),(15,.keep),(16,.keep),(21,.keep),(22,.pure),(23,.pure),(24,.keep),(25,.keep),(26,.pure),(27,.keep),(30,.pure),(31,.keep),(34,.pure),(35,.keep)] zK ?_
     rotate_left
     refine DrawT.leaf [(0,.pure),(1,.pure),(2,.pure),(3,.pure),(6,.pure),(7,.pure),(8,.pure),(9,.pure),(10,.pure),(11,.pure),(12,.pure),(17,.pure),(18,.pure),(28,.pure),(29,.pure),(32,.pure),(33,.pure),(5,.read),(14,.read),(19,.read),(20,.read),(4,.keep),(15,.keep),(13,.keep),(16,.keep),(21,.keep),(22,.pure),(23,.pure),(24,.keep),(25,.keep),(26,.pure),(27,.keep),(30,.pure),(31,.keep),(34,.pure),(35,.keep)] zK ?_
     rotate_left
     refine DrawT.leaf [(0,.pure),(1,.pure),(2,.pure),(3,.pure),(6,.pure),(7,.pure),(8,.pure),(9,.pure),(10,.pure),(11,.pure),(12,.pure),(17,.pure),(18,.pure),(28,.pure),(29,.pure),(32,.pure),(33,.pure),(5,.read),(14,.read),(19,.read),(20,.read),(15,.keep),(4,.keep),(13,.keep),(16,.keep),(21,.keep),(22,.pure),(23,.pure),(24,.keep),(25,.keep),(26,.pure),(27,.keep),(30,.pure),(31,.keep),(34,.pure),(35,.keep)] zK ?_
     rotate_left
     refine DrawT.leaf [(0,.pure),(1,.pure),(2,.pure),(3,.pure),(6,.pure),(7,.pure),(8,.pure),(9,.pure),(10,.pure),(11,.pure),(12,.pure),(17,.pure),(18,.pure),(28,.pure),(29,.pure),(32,.pure),(33,.pure),(5,.read),(14,.read),(19,.read),(20,.read),(13,.keep),(4,.keep),(15,.keep),(16,.keep),(21,.keep),(22,.pure),(23,.pure),(24,.keep),(25,.keep),(26,.pure),(27,.keep),(30,.pure),(31,.keep),(34,.pure),(35,.keep)] zK ?_
     rotate_left
     refine DrawT.leaf [(0,.pure),(1,.pure),(2,.pure),(3,.pure),(6,.pure),(7,.pure),(8,.pure),(9,.pure),(10,.pure),(11,.pure),(12,.pure),(17,.pure),(18,.pure),(28,.pure),(29,.pure),(32,.pure),(33,.pure),(5,.read),(14,.read),(19,.read),(20,.read),(13,.keep),(15,.keep),(4,.keep),(16,.keep),(21,.keep),(22,.pure),(23,.pure),(24,.keep),(25,.keep),(26,.pure),(27,.keep),(30,.pure),(31,.keep),(34,.pure),(35,.keep)] zK ?_
     rotate_left
     refine DrawT.leaf [(0,.pure),(1,.pure),(2,.pure),(3,.pure),(6,.pure),(7,.pure),(8,.pure),(9,.pure),(10,.pure),(11,.pure),(12,.pure),(17,.pure),(18,.pure),(28,.pure),(29,.pure),(32,.pure),(33,.pure),(5,.read),(14,.read),(19,.read),(20,.read),(15,.keep),(13,.keep),(4,.keep),(16,.keep),(21,.keep),(22,.pure),(23,.pure),(24,.keep),(25,.keep),(26,.pure),(27,.keep),(30,.pure),(31,.keep),(34,.pure),(35,.keep)] zK ?_
     rotate_left
     refine DrawT.leaf [(0,.pure),(1,.pure),(2,.pure),(3,.pure),(6,.pure),(7,.pure),(8,.pure),(9,.pure),(10,.pure),(11,.pure),(12,.pure),(17,.pure),(18,.pure),(28,.pure),(29,.pure),(32,.pure),(33,.pure),(5,.read),(14,.read),(19,.read),(20,.read),(13,.keep),(15,.keep),(16,.keep),(4,.keep),(21,.keep),(22,.pure),(23,.pure),(24,.keep),(25,.keep),(26,.pure),(27,.keep),(30,.pure),(31,.keep),(34,.pure),(35,.keep)] zK ?_
     rotate_left
     refine DrawT.leaf [(0,.pure),(1,.pure),(2,.pure),(3,.pure),(6,.pure),(7,.pure),(8,.pure),(9,.pure),(10,.pure),(11,.pure),(12,.pure),(17,.pure),(18,.pure),(28,.pure),(29,.pure),(32,.pure),(33,.pure),(5,.read),(14,.read),(19,.read),(20,.read),(15,.keep),(13,.keep),(16,.keep),(4,.keep),(21,.keep),(22,.pure),(23,.pure),(24,.keep),(25,.keep),(26,.pure),(27,.keep),(30,.pure),(31,.keep),(34,.pure),(35,.keep)] zK ?_
     rotate_left
     refine DrawT.leaf [(0,.pure),(1,.pure),(2,.pure),(3,.pure),(6,.pure),(7,.pure),(8,.pure),(9,.pure),(10,.pure),(11,.pure),(12,.pure),(17,.pure),(18,.pure),(28,.pure),(29,.pure),(32,.pure),(33,.pure),(5,.read),(14,.read),(19,.read),(20,.read),(13,.keep),(15,.keep),(16,.keep),(21,.keep),(4,.keep),(22,.pure),(23,.pure),(24,.keep),(25,.keep),(26,.pure),(27,.keep),(30,.pure),(31,.keep),(34,.pure),(35,.keep)] zK ?_
     rotate_left
     refine DrawT.leaf [(0,.pure),(1,.pure),(2,.pure),(3,.pure),(6,.pure),(7,.pure),(8,.pure),(9,.pure),(10,.pure),(11,.pure),(12,.pure),(17,.pure),(18,.pure),(28,.pure),(29,.pure),(32,.pure),(33,.pure),(5,.read),(14,.read),(19,.read),(20,.read),(15,.keep),(13,.keep),(16,.keep),(21,.keep),(4,.keep),(22,.pure),(23,.pure),(24,.keep),(25,.keep),(26,.pure),(27,.keep),(30,.pure),(31,.keep),(34,.pure),(35,.keep)] zK ?_
     all_goals
      refine Z2 ?_
      refine jal rfl zq ?_
     ·refine Z6 ?_
      refine jal rfl zq ?_;refine Z3 ?_
      refine jal rfl zq ?_;refine Zs ?_
      refine jal rfl zq ?_;refine Z4 ?_;refine D55 ?_
      refine k_bs kdq rfl zq zA zA rfl (fun q74=>k_hp (jad ?_));refine Zs ?_
      refine ja3 rfl zq rfl how3 zF zO zO (fun w9 n9 o9=>jad ?_);obtain ⟨p9,c9,rfl,hc9,r9⟩:=jap (B:=B) o9
      refine D17 ?_
      rintro w80 n80 o80;refine jaI (jad ?_);rw [←hms] at o80
      obtain ⟨p80,c80,rfl,_⟩:=jap (B:=B) o80
      have hfig80:=hft.symm
      refine Zs ?_
      refine jal rfl zq ?_;refine D242 ?_
      refine jbb (c:=(⟨decide (i=1),(k:Int),(j:Int)⟩:Ce)) (cs:=(accC b i k j)) (k:=37) (e:=3) zK rfl zq hnew (jad ?_);refine Zs ?_;refine D30 ?_;refine Zs ?_
      haveI hss1:=jc4 (a0:= .int .i64 b.wrong) (a1:= .slice ps ns ks) (a2:= .slice pw nw cw) (a3:= .slice pb nb cb) (cv:= .slice p9 ((accC b i k j).length+1) c9) (mv:= .map (some qm)) (la:=la3) (cl:=cl3) (k:=(accC b i k j).length) (by rw [hla3.1];exact hn12) x.ln.lat
      refine D27 ?_;refine Zs ?_
      haveI hss2:=jc5 (a0:= .int .i64 b.wrong) (a1:= .slice ps ns ks) (a2:= .slice pw nw cw) (a3:= .slice pb nb cb) (cv:= .slice p9 ((accC b i k j).length+1) c9) (mv:= .map (some qm)) (la:=la3.set (accC b i k j).length x.ln.lat) (cl:=cl3) (k:=(accC b i k j).length) (by simpa using hla3.1) (by rw [hcl3.1];exact hn12) (.slice p80 (meaS (x.ln.figs.getD j [])).length c80)
      refine D210 ?_
      have hks:=jb6 hkc
      have hkl:(accC b i k (j+1)).length=(accC b i k j).length+1:=by rw [hks];simp
      rw [←hkl,←hks];refine D3 ?_
      exact E39
     ·refine Z6 ?_
      refine jal rfl zq ?_;refine Z3 ?_
      refine jal rfl zq ?_;refine Zs ?_
      refine jal rfl zq ?_;refine Z4 ?_;refine D55 ?_;refine Z2 ?_
      refine k_bs kdq rfl zq zA zA rfl (fun q74=>k_hp (jad ?_));refine ja3 rfl zq rfl how3 zF zO zO (fun w9 n9 o9=>jad ?_);obtain ⟨p9,c9,rfl,hc9,r9⟩:=jap (B:=B) o9
      refine D17 ?_
      rintro w80 n80 o80;refine jaI (jad ?_);rw [←hms] at o80
      obtain ⟨p80,c80,rfl,_⟩:=jap (B:=B) o80
      have hfig80:=hft.symm
      refine jal rfl zq ?_;refine D242 ?_
      refine jbb (c:=(⟨decide (i=1),(k:Int),(j:Int)⟩:Ce)) (cs:=(accC b i k j)) (k:=37) (e:=3) zK rfl zq hnew (jad ?_);refine Zs ?_;refine D30 ?_;refine Zs ?_
      haveI hss1:=jc4 (a0:= .int .i64 b.wrong) (a1:= .slice ps ns ks) (a2:= .slice pw nw cw) (a3:= .slice pb nb cb) (cv:= .slice p9 ((accC b i k j).length+1) c9) (mv:= .map (some qm)) (la:=la3) (cl:=cl3) (k:=(accC b i k j).length) (by rw [hla3.1];exact hn12) x.ln.lat
      refine D27 ?_;refine Zs ?_
      haveI hss2:=jc5 (a0:= .int .i64 b.wrong) (a1:= .slice ps ns ks) (a2:= .slice pw nw cw) (a3:= .slice pb nb cb) (cv:= .slice p9 ((accC b i k j).length+1) c9) (mv:= .map (some qm)) (la:=la3.set (accC b i k j).length x.ln.lat) (cl:=cl3) (k:=(accC b i k j).length) (by simpa using hla3.1) (by rw [hcl3.1];exact hn12) (.slice p80 (meaS (x.ln.figs.getD j [])).length c80)
      refine D210 ?_
      have hks:=jb6 hkc
      have hkl:(accC b i k (j+1)).length=(accC b i k j).length+1:=by rw [hks];simp
      rw [←hkl,←hks];refine D3 ?_
      exact E39
     ·refine Z6 ?_
      refine jal rfl zq ?_;refine Z3 ?_
      refine jal rfl zq ?_;refine Zs ?_
      refine jal rfl zq ?_;refine Z4 ?_;refine D55 ?_;refine Zs ?_
      refine k_bs kdq rfl zq zA zA rfl (fun q74=>k_hp (jad ?_));refine Zs ?_
      refine ja3 rfl zq rfl how3 zF zO zO (fun w9 n9 o9=>jad ?_);obtain ⟨p9,c9,rfl,hc9,r9⟩:=jap (B:=B) o9
      refine D17 ?_
      rintro w80 n80 o80;refine jaI (jad ?_);rw [←hms] at o80
      obtain ⟨p80,c80,rfl,_⟩:=jap (B:=B) o80
      have hfig80:=hft.symm
      refine jal rfl zq ?_;refine D242 ?_
      refine jbb (c:=(⟨decide (i=1),(k:Int),(j:Int)⟩:Ce)) (cs:=(accC b i k j)) (k:=37) (e:=3) zK rfl zq hnew (jad ?_);refine Zs ?_;refine D30 ?_;refine Zs ?_
      haveI hss1:=jc4 (a0:= .int .i64 b.wrong) (a1:= .slice ps ns ks) (a2:= .slice pw nw cw) (a3:= .slice pb nb cb) (cv:= .slice p9 ((accC b i k j).length+1) c9) (mv:= .map (some qm)) (la:=la3) (cl:=cl3) (k:=(accC b i k j).length) (by rw [hla3.1];exact hn12) x.ln.lat
      refine D27 ?_;refine Zs ?_
      haveI hss2:=jc5 (a0:= .int .i64 b.wrong) (a1:= .slice ps ns ks) (a2:= .slice pw nw cw) (a3:= .slice pb nb cb) (cv:= .slice p9 ((accC b i k j).length+1) c9) (mv:= .map (some qm)) (la:=la3.set (accC b i k j).length x.ln.lat) (cl:=cl3) (k:=(accC b i k j).length) (by simpa using hla3.1) (by rw [hcl3.1];exact hn12) (.slice p80 (meaS (x.ln.figs.getD j [])).length c80)
      refine D210 ?_
      have hks:=jb6 hkc
      have hkl:(accC b i k (j+1)).length=(accC b i k j).length+1:=by rw [hks];simp
      rw [←hkl,←hks];refine D3 ?_
      exact E39
     ·refine Z6 ?_
      refine jal rfl zq ?_;refine Z3 ?_
      refine jal rfl zq ?_;refine Zs ?_
      refine jal rfl zq ?_;refine Z4 ?_;refine D55 ?_
      refine k_bs kdq rfl zq zA zA rfl (fun q74=>k_hp (jad ?_));refine Z2 ?_
      refine ja3 rfl zq rfl how3 zF zO zO (fun w9 n9 o9=>jad ?_);obtain ⟨p9,c9,rfl,hc9,r9⟩:=jap (B:=B) o9
      refine D17 ?_
      rintro w80 n80 o80;refine jaI (jad ?_);rw [←hms] at o80
      obtain ⟨p80,c80,rfl,_⟩:=jap (B:=B) o80
      have hfig80:=hft.symm
      refine jal rfl zq ?_;refine D242 ?_
      refine jbb (c:=(⟨decide (i=1),(k:Int),(j:Int)⟩:Ce)) (cs:=(accC b i k j)) (k:=37) (e:=3) zK rfl zq hnew (jad ?_);refine Zs ?_;refine D30 ?_;refine Zs ?_
      haveI hss1:=jc4 (a0:= .int .i64 b.wrong) (a1:= .slice ps ns ks) (a2:= .slice pw nw cw) (a3:= .slice pb nb cb) (cv:= .slice p9 ((accC b i k j).length+1) c9) (mv:= .map (some qm)) (la:=la3) (cl:=cl3) (k:=(accC b i k j).length) (by rw [hla3.1];exact hn12) x.ln.lat
      refine D27 ?_;refine Zs ?_
      haveI hss2:=jc5 (a0:= .int .i64 b.wrong) (a1:= .slice ps ns ks) (a2:= .slice pw nw cw) (a3:= .slice pb nb cb) (cv:= .slice p9 ((accC b i k j).length+1) c9) (mv:= .map (some qm)) (la:=la3.set (accC b i k j).length x.ln.lat) (cl:=cl3) (k:=(accC b i k j).length) (by simpa using hla3.1) (by rw [hcl3.1];exact hn12) (.slice p80 (meaS (x.ln.figs.getD j [])).length c80)
      refine D210 ?_
      have hks:=jb6 hkc
      have hkl:(accC b i k (j+1)).length=(accC b i k j).length+1:=by rw [hks];simp
      rw [←hkl,←hks];refine D3 ?_
      exact E39
     ·refine Z6 ?_
      refine jal rfl zq ?_;refine Z3 ?_
      refine jal rfl zq ?_;refine Zs ?_
      refine jal rfl zq ?_;refine Z4 ?_;refine D55 ?_;refine Z2 ?_
      refine k_bs kdq rfl zq zA zA rfl (fun q74=>k_hp (jad ?_));refine ja3 rfl zq rfl how3 zF zO zO (fun w9 n9 o9=>jad ?_);obtain ⟨p9,c9,rfl,hc9,r9⟩:=jap (B:=B) o9
      refine D17 ?_
      rintro w80 n80 o80;refine jaI (jad ?_);rw [←hms] at o80
      obtain ⟨p80,c80,rfl,_⟩:=jap (B:=B) o80
      have hfig80:=hft.symm
      refine jal rfl zq ?_;refine D242 ?_
      refine jbb (c:=(⟨decide (i=1),(k:Int),(j:Int)⟩:Ce)) (cs:=(accC b i k j)) (k:=37) (e:=3) zK rfl zq hnew (jad ?_);refine Zs ?_;refine D30 ?_;refine Zs ?_
      haveI hss1:=jc4 (a0:= .int .i64 b.wrong) (a1:= .slice ps ns ks) (a2:= .slice pw nw cw) (a3:= .slice pb nb cb) (cv:= .slice p9 ((accC b i k j).length+1) c9) (mv:= .map (some qm)) (la:=la3) (cl:=cl3) (k:=(accC b i k j).length) (by rw [hla3.1];exact hn12) x.ln.lat
      refine D27 ?_;refine Zs ?_
      haveI hss2:=jc5 (a0:= .int .i64 b.wrong) (a1:= .slice ps ns ks) (a2:= .slice pw nw cw) (a3:= .slice pb nb cb) (cv:= .slice p9 ((accC b i k j).length+1) c9) (mv:= .map (some qm)) (la:=la3.set (accC b i k j).length x.ln.lat) (cl:=cl3) (k:=(accC b i k j).length) (by simpa using hla3.1) (by rw [hcl3.1];exact hn12) (.slice p80 (meaS (x.ln.figs.getD j [])).length c80)
      refine D210 ?_
      have hks:=jb6 hkc
      have hkl:(accC b i k (j+1)).length=(accC b i k j).length+1:=by rw [hks];simp
      rw [←hkl,←hks];refine D3 ?_
      exact E39
     ·refine Z6 ?_
      refine jal rfl zq ?_;refine Z3 ?_
      refine jal rfl zq ?_;refine Zs ?_
      refine jal rfl zq ?_;refine Z4 ?_;refine D55 ?_;refine Zs ?_
      refine k_bs kdq rfl zq zA zA rfl (fun q74=>k_hp (jad ?_));refine Zs ?_
      refine ja3 rfl zq rfl how3 zF zO zO (fun w9 n9 o9=>jad ?_);obtain ⟨p9,c9,rfl,hc9,r9⟩:=jap (B:=B) o9
      refine D17 ?_
      rintro w80 n80 o80;refine jaI (jad ?_);rw [←hms] at o80
      obtain ⟨p80,c80,rfl,_⟩:=jap (B:=B) o80
      have hfig80:=hft.symm
      refine jal rfl zq ?_;refine D242 ?_
      refine jbb (c:=(⟨decide (i=1),(k:Int),(j:Int)⟩:Ce)) (cs:=(accC b i k j)) (k:=37) (e:=3) zK rfl zq hnew (jad ?_);refine Zs ?_;refine D30 ?_;refine Zs ?_
      haveI hss1:=jc4 (a0:= .int .i64 b.wrong) (a1:= .slice ps ns ks) (a2:= .slice pw nw cw) (a3:= .slice pb nb cb) (cv:= .slice p9 ((accC b i k j).length+1) c9) (mv:= .map (some qm)) (la:=la3) (cl:=cl3) (k:=(accC b i k j).length) (by rw [hla3.1];exact hn12) x.ln.lat
      refine D27 ?_;refine Zs ?_
      haveI hss2:=jc5 (a0:= .int .i64 b.wrong) (a1:= .slice ps ns ks) (a2:= .slice pw nw cw) (a3:= .slice pb nb cb) (cv:= .slice p9 ((accC b i k j).length+1) c9) (mv:= .map (some qm)) (la:=la3.set (accC b i k j).length x.ln.lat) (cl:=cl3) (k:=(accC b i k j).length) (by simpa using hla3.1) (by rw [hcl3.1];exact hn12) (.slice p80 (meaS (x.ln.figs.getD j [])).length c80)
      refine D210 ?_
      have hks:=jb6 hkc
      have hkl:(accC b i k (j+1)).length=(accC b i k j).length+1:=by rw [hks];simp
      rw [←hkl,←hks];refine D3 ?_
      exact E39
     ·refine Z6 ?_
      refine jal rfl zq ?_;refine Z3 ?_
      refine jal rfl zq ?_;refine Zs ?_
      refine jal rfl zq ?_;refine Z4 ?_;refine D55 ?_
      refine k_bs kdq rfl zq zA zA rfl (fun q74=>k_hp (jad ?_));refine Z2 ?_
      refine ja3 rfl zq rfl how3 zF zO zO (fun w9 n9 o9=>jad ?_);obtain ⟨p9,c9,rfl,hc9,r9⟩:=jap (B:=B) o9
      refine D17 ?_
      rintro w80 n80 o80;refine jaI (jad ?_);rw [←hms] at o80
      obtain ⟨p80,c80,rfl,_⟩:=jap (B:=B) o80
      have hfig80:=hft.symm
      refine jal rfl zq ?_;refine D242 ?_
      refine jbb (c:=(⟨decide (i=1),(k:Int),(j:Int)⟩:Ce)) (cs:=(accC b i k j)) (k:=37) (e:=3) zK rfl zq hnew (jad ?_);refine Zs ?_;refine D30 ?_;refine Zs ?_
      haveI hss1:=jc4 (a0:= .int .i64 b.wrong) (a1:= .slice ps ns ks) (a2:= .slice pw nw cw) (a3:= .slice pb nb cb) (cv:= .slice p9 ((accC b i k j).length+1) c9) (mv:= .map (some qm)) (la:=la3) (cl:=cl3) (k:=(accC b i k j).length) (by rw [hla3.1];exact hn12) x.ln.lat
      refine D27 ?_;refine Zs ?_
      haveI hss2:=jc5 (a0:= .int .i64 b.wrong) (a1:= .slice ps ns ks) (a2:= .slice pw nw cw) (a3:= .slice pb nb cb) (cv:= .slice p9 ((accC b i k j).length+1) c9) (mv:= .map (some qm)) (la:=la3.set (accC b i k j).length x.ln.lat) (cl:=cl3) (k:=(accC b i k j).length) (by simpa using hla3.1) (by rw [hcl3.1];exact hn12) (.slice p80 (meaS (x.ln.figs.getD j [])).length c80)
      refine D210 ?_
      have hks:=jb6 hkc
      have hkl:(accC b i k (j+1)).length=(accC b i k j).length+1:=by rw [hks];simp
      rw [←hkl,←hks];refine D3 ?_
      exact E39
     ·refine Z6 ?_
      refine jal rfl zq ?_;refine Z3 ?_
      refine jal rfl zq ?_;refine Zs ?_
      refine jal rfl zq ?_;refine Z4 ?_;refine D55 ?_;refine Zs ?_
      refine k_bs kdq rfl zq zA zA rfl (fun q74=>k_hp (jad ?_));refine ja3 rfl zq rfl how3 zF zO zO (fun w9 n9 o9=>jad ?_);obtain ⟨p9,c9,rfl,hc9,r9⟩:=jap (B:=B) o9
      refine Zs ?_;refine D17 ?_
      rintro w80 n80 o80;refine jaI (jad ?_);rw [←hms] at o80
      obtain ⟨p80,c80,rfl,_⟩:=jap (B:=B) o80
      have hfig80:=hft.symm
      refine jal rfl zq ?_;refine D242 ?_
      refine jbb (c:=(⟨decide (i=1),(k:Int),(j:Int)⟩:Ce)) (cs:=(accC b i k j)) (k:=37) (e:=3) zK rfl zq hnew (jad ?_);refine Zs ?_;refine D30 ?_;refine Zs ?_
      haveI hss1:=jc4 (a0:= .int .i64 b.wrong) (a1:= .slice ps ns ks) (a2:= .slice pw nw cw) (a3:= .slice pb nb cb) (cv:= .slice p9 ((accC b i k j).length+1) c9) (mv:= .map (some qm)) (la:=la3) (cl:=cl3) (k:=(accC b i k j).length) (by rw [hla3.1];exact hn12) x.ln.lat
      refine D27 ?_;refine Zs ?_
      haveI hss2:=jc5 (a0:= .int .i64 b.wrong) (a1:= .slice ps ns ks) (a2:= .slice pw nw cw) (a3:= .slice pb nb cb) (cv:= .slice p9 ((accC b i k j).length+1) c9) (mv:= .map (some qm)) (la:=la3.set (accC b i k j).length x.ln.lat) (cl:=cl3) (k:=(accC b i k j).length) (by simpa using hla3.1) (by rw [hcl3.1];exact hn12) (.slice p80 (meaS (x.ln.figs.getD j [])).length c80)
      refine D210 ?_
      have hks:=jb6 hkc
      have hkl:(accC b i k (j+1)).length=(accC b i k j).length+1:=by rw [hks];simp
      rw [←hkl,←hks];refine D3 ?_
      exact E39
     ·refine Z6 ?_
      refine jal rfl zq ?_;refine Z3 ?_
      refine jal rfl zq ?_;refine Zs ?_
      refine jal rfl zq ?_;refine Z4 ?_;refine D55 ?_
      refine k_bs kdq rfl zq zA zA rfl (fun q74=>k_hp (jad ?_));refine Zs ?_
      refine ja3 rfl zq rfl how3 zF zO zO (fun w9 n9 o9=>jad ?_);obtain ⟨p9,c9,rfl,hc9,r9⟩:=jap (B:=B) o9
      refine Zs ?_;refine D17 ?_
      rintro w80 n80 o80;refine jaI (jad ?_);rw [←hms] at o80
      obtain ⟨p80,c80,rfl,_⟩:=jap (B:=B) o80
      have hfig80:=hft.symm
      refine jal rfl zq ?_;refine D242 ?_
      refine jbb (c:=(⟨decide (i=1),(k:Int),(j:Int)⟩:Ce)) (cs:=(accC b i k j)) (k:=37) (e:=3) zK rfl zq hnew (jad ?_);refine Zs ?_;refine D30 ?_;refine Zs ?_
      haveI hss1:=jc4 (a0:= .int .i64 b.wrong) (a1:= .slice ps ns ks) (a2:= .slice pw nw cw) (a3:= .slice pb nb cb) (cv:= .slice p9 ((accC b i k j).length+1) c9) (mv:= .map (some qm)) (la:=la3) (cl:=cl3) (k:=(accC b i k j).length) (by rw [hla3.1];exact hn12) x.ln.lat
      refine D27 ?_;refine Zs ?_
      haveI hss2:=jc5 (a0:= .int .i64 b.wrong) (a1:= .slice ps ns ks) (a2:= .slice pw nw cw) (a3:= .slice pb nb cb) (cv:= .slice p9 ((accC b i k j).length+1) c9) (mv:= .map (some qm)) (la:=la3.set (accC b i k j).length x.ln.lat) (cl:=cl3) (k:=(accC b i k j).length) (by simpa using hla3.1) (by rw [hcl3.1];exact hn12) (.slice p80 (meaS (x.ln.figs.getD j [])).length c80)
      refine D210 ?_
      have hks:=jb6 hkc
      have hkl:(accC b i k (j+1)).length=(accC b i k j).length+1:=by rw [hks];simp
      rw [←hkl,←hks];refine D3 ?_
      exact E39
     ·refine Z6 ?_
      refine jal rfl zq ?_;refine Z3 ?_
      refine jal rfl zq ?_;refine Zs ?_
      refine jal rfl zq ?_;refine Z4 ?_;refine D55 ?_;refine Zs ?_
      refine k_bs kdq rfl zq zA zA rfl (fun q74=>k_hp (jad ?_));refine ja3 rfl zq rfl how3 zF zO zO (fun w9 n9 o9=>jad ?_);obtain ⟨p9,c9,rfl,hc9,r9⟩:=jap (B:=B) o9
      refine D17 ?_
      rintro w80 n80 o80;refine jaI (jad ?_);rw [←hms] at o80
      obtain ⟨p80,c80,rfl,_⟩:=jap (B:=B) o80
      have hfig80:=hft.symm
      refine Zs ?_
      refine jal rfl zq ?_;refine D242 ?_
      refine jbb (c:=(⟨decide (i=1),(k:Int),(j:Int)⟩:Ce)) (cs:=(accC b i k j)) (k:=37) (e:=3) zK rfl zq hnew (jad ?_);refine Zs ?_;refine D30 ?_;refine Zs ?_
      haveI hss1:=jc4 (a0:= .int .i64 b.wrong) (a1:= .slice ps ns ks) (a2:= .slice pw nw cw) (a3:= .slice pb nb cb) (cv:= .slice p9 ((accC b i k j).length+1) c9) (mv:= .map (some qm)) (la:=la3) (cl:=cl3) (k:=(accC b i k j).length) (by rw [hla3.1];exact hn12) x.ln.lat
      refine D27 ?_;refine Zs ?_
      haveI hss2:=jc5 (a0:= .int .i64 b.wrong) (a1:= .slice ps ns ks) (a2:= .slice pw nw cw) (a3:= .slice pb nb cb) (cv:= .slice p9 ((accC b i k j).length+1) c9) (mv:= .map (some qm)) (la:=la3.set (accC b i k j).length x.ln.lat) (cl:=cl3) (k:=(accC b i k j).length) (by simpa using hla3.1) (by rw [hcl3.1];exact hn12) (.slice p80 (meaS (x.ln.figs.getD j [])).length c80)
      refine D210 ?_
      have hks:=jb6 hkc
      have hkl:(accC b i k (j+1)).length=(accC b i k j).length+1:=by rw [hks];simp
      rw [←hkl,←hks];refine D3 ?_
      exact E39
   ·refine D175 ?_;refine jkV ?_;refine D159 ?_
    have hac:accC b i k j=accC b i (k+1) 0:=by rw [show j=b.sts.length by omega];exact jfx b i k
    rw [hac];refine m.weak (h':=h++[⟨true,q1,.cells (tbL b ps ns ks pw nw cw pb nb cb).toArray 25 (0,0)⟩,⟨true,qm,mapC (accC b i (k+1) 0)⟩,⟨true,q18,.cells (shC (tbL b ps ns ks pw nw cw pb nb cb) (.slice wp3 (accC b i (k+1) 0).length wc3) (.map (some qm)) la3 cl3).toArray 132 (0,0)⟩]++[⟨true,q5,.cells [str (hwS i),.bool (decide (i=1)),.func (.func (261+i)) #[] #[]].toArray 184 (0,0)⟩]++W3++M3) jeh ?_
    exact hnext2 _ _ _ zO ⟨k+1,wp3,wc3,W3,M3,la3,cl3,rfl,by omega,by rw [←hac];exact how3,by rw [←hac];exact hla3,by rw [←hac];exact hcl3,exU rfl,rfl⟩
  ·refine D175 ?_;refine D159 ?_
   have hac:=jns b hin (show k≤2 by omega) zO
   rw [hac];refine m.weak (h':=h++[⟨true,q1,.cells (tbL b ps ns ks pw nw cw pb nb cb).toArray 25 (0,0)⟩,⟨true,qm,mapC (accC b (i+1) 0 0)⟩,⟨true,q18,.cells (shC (tbL b ps ns ks pw nw cw pb nb cb) (.slice wp2 (accC b (i+1) 0 0).length wc2) (.map (some qm)) la2 cl2).toArray 132 (0,0)⟩]++W2++M2) jeh ?_
   exact hnext1 _ _ _ zO ⟨i+1,wp2,wc2,W2,M2,la2,cl2,rfl,by omega,by rw [←hac];exact how2,by rw [←hac];exact hla2,by rw [←hac];exact hcl2,exU rfl,rfl⟩
 ·refine D175 ?_;refine D2 ?_
  obtain rfl:i=2:=by omega
  rw [jjm] at how1 hla1 hcl1⊢
  have hc12:(jab b).length≤12:=by
   rw [←jjm];have:=jmt b (i:=2) (k:=0) (j:=0) zO zO zO
   omega
  refine rr2 ?_;refine D195 ?_;refine jac (h++[⟨true,qm,mapC (jab b)⟩,⟨true,q18,.cells (shC (tbL b ps ns ks pw nw cw pb nb cb) (.slice wp1 (jab b).length wc1) (.map (some qm)) la1 cl1).toArray 132 (0,0)⟩]++W1++M1) rfl Tryz.func95 rfl jaa ?_;refine D5 ?_;exact ⟨[⟨true,qm,mapC (jab b)⟩,⟨true,q18,.cells (shC (tbL b ps ns ks pw nw cw pb nb cb) (.slice wp1 (jab b).length wc1) (.map (some qm)) la1 cl1).toArray 132 (0,0)⟩]++W1++M1,q18,by rw [←List.append_assoc,←List.append_assoc],rfl,sheet_of hc12 how1 hla1 hcl1⟩
def jez (a c:Cd) (n m:Int):Bool:=!riC a c n m
theorem jaK {a c:Cd} {n m:Int} (h:a.st≠c.st):jez a c n m=false:=by rw [jez,riC,if_pos h];rfl
theorem jaJ {a c:Cd} {n m:Int} (h:a.st=c.st) (hb:a.butt=c.butt):jez a c n m=decide ((a.lat<c.lat∧m<n)∨(c.lat<a.lat∧n<m)):=by
 rw [jez,riC,if_neg (fun e=>e h),if_pos hb];have:=jkX (la:=a.lat) (lc:=c.lat) (ma:=n) (mc:=m)
 cases hr:riL a.lat c.lat n m with
 |true=>have:=this.1 hr;exact (decide_eq_false zO).symm
 |false=>exact E42
theorem jaz {a c:Cd} {n m:Int} (h:a.st=c.st) (ha:a.butt=false) (hc:c.butt=true):jez a c n m=decide ((m<a.lat∧n<c.lat)∨(a.lat<m∧c.lat<n)):=by
 rw [jez,riC,if_neg (fun e=>e h),if_neg (by rw [ha,hc];simp),if_neg (by rw [ha];simp)];have:=riX_iff (la:=a.lat) (lc:=c.lat) (ma:=n) (mc:=m)
 cases hr:riX a.lat c.lat n m with
 |true=>have:=this.1 hr;exact (decide_eq_false zO).symm
 |false=>exact E42
theorem fall_turn {a c:Cd} {n m:Int}:jez a c n m=jez c a m n:=by rw [jez,jez,jgw]
section
variable {B:Array Obj} {H H':Hp} {b:Tb} {q:Nat} {tv:List Value}
theorem Sheet.latI (s:Sheet B H b q tv) {i:Nat} (hi:i<(jab b).length):Rd B H ⟨q,6+(i:Int).toNat*1,none⟩ (.int .i64 (cdOf b ((jab b).getD i default)).lat):=by
 rw [Int.toNat_natCast,Nat.mul_one,←jas b hi];exact s.lat i hi
end
theorem rdTb_of {h:Hp} {b:Tb} {ps:Option Addr} {ns ks:Nat} {pw:Option Addr} {nw cw:Nat} {pb:Option Addr} {nb cb:Nat} (rds:RdS B h 1 (.slice ps ns ks) ns (encs b.sts)) (hcs:ns≤ks) (rdw:RdLn B h (.slice pw nw cw) nw b.waters) (rdb:RdLn B h (.slice pb nb cb) nb b.butts) (hsm:TbSm b) (k:TbOk b):RdTb B h b ps ns ks pw nw cw pb nb cb:=by
 have hml:b.sts.length=ns:=rds.elen zA
 have h1:=k.n1
 have h3:=k.n3
 have hw:=k.waters.two
 have hb:=k.butts.two
 rw [jbv rdw] at hw
 rw [jbv rdb] at hb
 exact ⟨rds,hcs,rdw,rdb,hsm,by omega,by omega,hw,hb,fun l hl=>⟨hml▸(k.waters.ok l hl).len,(k.waters.ok l hl).fig⟩,fun l hl=>⟨hml▸(k.butts.ok l hl).len,(k.butts.ok l hl).fig⟩⟩
theorem f98_b (m:Md Tryz.prog B) (h:Hp) (s i:Nat) (hs:s<4096) (hi:i<12):FnC m 98 #[.int .u64 (s:Int),.int .i64 (i:Int)] h fun v h'=>h'=h∧IsB (s.testBit i=true) v:=
 CallF.mono (f98_c m h s i hs hi) fun v h' ⟨e1,e2⟩=>⟨e1,by rw [e2];cases s.testBit i;exact .inr ⟨by simp,rfl⟩;exact .inl ⟨rfl,rfl⟩⟩
theorem f176n_c (m:Md Tryz.prog B) (h:Hp) {b:Tb} {q:Nat} {tv:List Value} (sh:Sheet B h b q tv) {i k:Nat} (hi:i<(jab b).length) (hk:k<(jab b).length) (mi mk:Int) (hn:(cdOf b ((jab b).getD i default)).butt=(cdOf b ((jab b).getD k default)).butt∨(cdOf b ((jab b).getD i default)).butt=false):FnC m 176 #[.pointer (some ⟨q,0,none⟩),.int .i64 (i:Int),.int .i64 (k:Int),.int .i64 mi,.int .i64 mk] h fun v h'=>h'=h∧v= .bool (jez (dA (cdT b) i) (dA (cdT b) k) mi mk):=by
 have h12:=sh.twelve
 obtain ⟨pc,cc,hcv,hcc,hcr⟩:=sh.cells
 obtain ⟨pcb,pco,hpc⟩:=hcr.ptr zO
 refine D95 ?_
 intro cf cs K hK
 refine D161 ?_;refine D57 ?_;refine Zs ?_
 refine jal rfl zq ?_;refine Z3 ?_
 refine jal rfl zq ?_;refine Z2 ?_;refine D91 ?_;refine D122 ?_;refine D75 ?_;refine D91 ?_;refine D122 ?_;refine D76 ?_
 refine jau rfl zq (fun q11=>k_hp (jad ?_));refine jau rfl zq (fun q12=>k_hp (jad ?_));refine D22 ?_;refine D22 ?_;refine D151 ?_;refine D11 ?_;refine rs6 ?_;refine Z4 ?_
 refine ja4 rfl zq (fun hc=>?_) (fun hc=>?_)
 ·refine D233 ?_;refine D193 ?_
  refine ⟨rfl,?_⟩
  rw [jas b hi,jas b hk];first
   |(rw [jaK zD];done)
   |(rw [jaJ zD hbt];exact E43)
   |(rw [jaz zD hbf hbg];exact E43)
 ·refine D169 ?_;refine rs6 ?_;refine Z4 ?_
  refine jkf rfl zq zK (fun hbt=>?_) (fun hbt=>?_)
  ·refine D204 ?_;refine D2 ?_;refine D31 ?_;refine Z2 ?_
   refine jal rfl zq ?_;refine Z4 ?_
   refine jal rfl zq ?_;refine Z2 ?_;refine D102 ?_;refine k_ld rfl zq ((sh.latI (i:=k) zO).keeps SubH.sub) ?_
   refine jan rfl zq (fun hc=>?_) (fun hc=>?_)
   ·refine Z3 ?_
    refine jaF rfl rfl (fun hc=>?_) (fun hc=>?_)
    ·refine D13 ?_;refine Z19 ?_;refine D222 ?_;refine D193 ?_
     refine ⟨rfl,?_⟩
     rw [jas b hi,jas b hk];first
      |(rw [jaK zD];done)
      |(rw [jaJ zD hbt];exact E43)
      |(rw [jaz zD hbf hbg];exact E43)
    ·refine D13 ?_;refine Z3 ?_
     refine jal rfl rfl ?_;refine Z4 ?_
     refine jal rfl rfl ?_;refine Z2 ?_;refine D62 ?_;refine D48 ?_
     refine jaF rfl rfl (fun hc=>?_) (fun hc=>?_)
     ·refine Z3 ?_
      refine jan rfl rfl (fun hc=>?_) (fun hc=>?_);all_goals
       refine D61 ?_;refine D200 ?_
       refine ⟨rfl,?_⟩
       rw [jas b hi,jas b hk];first
        |(rw [jaK zD];done)
        |(rw [jaJ zD hbt];exact E43)
        |(rw [jaz zD hbf hbg];exact E43)
     ·refine Z4 ?_;refine D45 ?_;refine D200 ?_
      refine ⟨rfl,?_⟩
      rw [jas b hi,jas b hk];first
       |(rw [jaK zD];done)
       |(rw [jaJ zD hbt];exact E43)
       |(rw [jaz zD hbf hbg];exact E43)
   ·refine Z4 ?_;refine D10 ?_;refine Z3 ?_
    refine jal rfl rfl ?_;refine Z4 ?_
    refine jal rfl rfl ?_;refine Z2 ?_;refine D62 ?_;refine D48 ?_
    refine jaF rfl rfl (fun hc=>?_) (fun hc=>?_)
    ·refine Z3 ?_
     refine jan rfl rfl (fun hc=>?_) (fun hc=>?_);all_goals
      refine D61 ?_;refine D200 ?_
      refine ⟨rfl,?_⟩
      rw [jas b hi,jas b hk];first
       |(rw [jaK zD];done)
       |(rw [jaJ zD hbt];exact E43)
       |(rw [jaz zD hbf hbg];exact E43)
    ·refine Z4 ?_;refine D45 ?_;refine D200 ?_
     refine ⟨rfl,?_⟩
     rw [jas b hi,jas b hk];first
      |(rw [jaK zD];done)
      |(rw [jaJ zD hbt];exact E43)
      |(rw [jaz zD hbf hbg];exact E43)
  ·refine D169 ?_;refine rs3 ?_;refine D163 ?_
   refine jde (fun hc=>?_) (fun hc=>?_)
   ·first|replace hc:=of_decide_eq_true hc|replace hc:=of_decide_eq_false hc|skip
    refine D2 ?_
    exact absurd hn (by rintro (e|e);exact hbt e;rw [e] at hc;cases hc)
   ·first|replace hc:=of_decide_eq_true hc|replace hc:=of_decide_eq_false hc|skip
    refine D7 ?_;refine D12 ?_;refine D2 ?_
    have hbf:(cdOf b ((jab b).getD i default)).butt=false:=hc
    have hbg:(cdOf b ((jab b).getD k default)).butt=true:=by cases e:(cdOf b ((jab b).getD k default)).butt;exact absurd (hbf.trans e.symm) hbt;rfl
    refine rr39 ?_;refine Z3 ?_;refine jal rfl zq ?_;refine Z2 ?_;refine D102 ?_
    refine jan rfl zq (fun hc=>?_) (fun hc=>?_)
    ·refine Z4 ?_
     refine jal rfl rfl ?_;refine Z2 ?_;refine D48 ?_
     refine jan rfl rfl (fun hc=>?_) (fun hc=>?_)
     ·refine D13 ?_;refine Z19 ?_;refine D222 ?_;refine D193 ?_
      refine ⟨rfl,?_⟩
      rw [jas b hi,jas b hk];first
       |(rw [jaK zD];done)
       |(rw [jaJ zD hbt];exact E43)
       |(rw [jaz zD hbf hbg];exact E43)
     ·refine D13 ?_;refine Z4 ?_
      refine jal rfl rfl ?_;refine Z2 ?_;refine D62 ?_
      refine jaF rfl rfl (fun hc=>?_) (fun hc=>?_)
      ·refine Z4 ?_
       refine jal rfl rfl ?_;refine Z2 ?_;refine D48 ?_
       refine jaF rfl rfl (fun hc=>?_) (fun hc=>?_);all_goals
        refine D61 ?_;refine D200 ?_
        refine ⟨rfl,?_⟩
        rw [jas b hi,jas b hk];first
         |(rw [jaK zD];done)
         |(rw [jaJ zD hbt];exact E43)
         |(rw [jaz zD hbf hbg];exact E43)
      ·refine Z9 ?_;refine D45 ?_;refine D200 ?_
       refine ⟨rfl,?_⟩
       rw [jas b hi,jas b hk];first
        |(rw [jaK zD];done)
        |(rw [jaJ zD hbt];exact E43)
        |(rw [jaz zD hbf hbg];exact E43)
    ·refine Z9 ?_;refine D10 ?_;refine Z4 ?_
     refine jal rfl rfl ?_;refine Z2 ?_;refine D62 ?_
     refine jaF rfl rfl (fun hc=>?_) (fun hc=>?_)
     ·refine Z4 ?_
      refine jal rfl rfl ?_;refine Z2 ?_;refine D48 ?_
      refine jaF rfl rfl (fun hc=>?_) (fun hc=>?_);all_goals
       refine D61 ?_;refine D200 ?_
       refine ⟨rfl,?_⟩
       rw [jas b hi,jas b hk];first
        |(rw [jaK zD];done)
        |(rw [jaJ zD hbt];exact E43)
        |(rw [jaz zD hbf hbg];exact E43)
     ·refine Z9 ?_;refine D45 ?_;refine D200 ?_
      refine ⟨rfl,?_⟩
      rw [jas b hi,jas b hk];first
       |(rw [jaK zD];done)
       |(rw [jaJ zD hbt];exact E43)
       |(rw [jaz zD hbf hbg];exact E43)
theorem f176_c (m:Md Tryz.prog B) (h:Hp) {b:Tb} {q:Nat} {tv:List Value} (sh:Sheet B h b q tv) {i k:Nat} (hi:i<(jab b).length) (hk:k<(jab b).length) (mi mk:Int):FnC m 176 #[.pointer (some ⟨q,0,none⟩),.int .i64 (i:Int),.int .i64 (k:Int),.int .i64 mi,.int .i64 mk] h fun v h'=>h'=h∧v= .bool (jez (dA (cdT b) i) (dA (cdT b) k) mi mk):=by
 have h12:=sh.twelve
 obtain ⟨pc,cc,hcv,hcc,hcr⟩:=sh.cells
 obtain ⟨pcb,pco,hpc⟩:=hcr.ptr zO
 refine D95 ?_
 intro cf cs K hK
 refine D161 ?_;refine D57 ?_;refine Zs ?_
 refine jal rfl zq ?_;refine Z3 ?_
 refine jal rfl zq ?_;refine Z2 ?_;refine D91 ?_;refine D122 ?_;refine D75 ?_;refine D91 ?_;refine D122 ?_;refine D76 ?_
 refine jau rfl zq (fun q11=>k_hp (jad ?_));refine jau rfl zq (fun q12=>k_hp (jad ?_));refine D22 ?_;refine D22 ?_;refine D151 ?_;refine D11 ?_;refine rs6 ?_;refine Z4 ?_
 refine ja4 rfl zq (fun hc=>?_) (fun hc=>?_)
 ·refine D233 ?_;refine D193 ?_
  first
   |exact E45
   |(refine ⟨rfl,?_⟩
     rw [jas b hi,jas b hk];first
      |(rw [jaK zD];done)
      |(rw [jaJ zD hbt];exact E43)
      |(rw [jaz zD hbf hbg];exact E43))
 ·refine D169 ?_;refine rs6 ?_;refine Z4 ?_
  refine jkf rfl zq zK (fun hbt=>?_) (fun hbt=>?_)
  ·refine D204 ?_;refine D2 ?_;refine D31 ?_;refine Z2 ?_
   refine jal rfl zq ?_;refine Z4 ?_
   refine jal rfl zq ?_;refine Z2 ?_;refine D102 ?_;refine k_ld rfl zq ((sh.latI (i:=k) zO).keeps SubH.sub) ?_
   refine jan rfl zq (fun hc=>?_) (fun hc=>?_)
   ·refine Z3 ?_
    refine jaF rfl rfl (fun hc=>?_) (fun hc=>?_)
    ·refine D13 ?_;refine Z19 ?_;refine D222 ?_;refine D193 ?_
     first
      |exact E45
      |(refine ⟨rfl,?_⟩
        rw [jas b hi,jas b hk];first
         |(rw [jaK zD];done)
         |(rw [jaJ zD hbt];exact E43)
         |(rw [jaz zD hbf hbg];exact E43))
    ·refine D13 ?_;refine Z3 ?_
     refine jal rfl rfl ?_;refine Z4 ?_
     refine jal rfl rfl ?_;refine Z2 ?_;refine D62 ?_;refine D48 ?_
     refine jaF rfl rfl (fun hc=>?_) (fun hc=>?_)
     ·refine Z3 ?_
      refine jan rfl rfl (fun hc=>?_) (fun hc=>?_);all_goals
       refine D61 ?_;refine D200 ?_
       first
        |exact E45
        |(refine ⟨rfl,?_⟩
          rw [jas b hi,jas b hk];first
           |(rw [jaK zD];done)
           |(rw [jaJ zD hbt];exact E43)
           |(rw [jaz zD hbf hbg];exact E43))
     ·refine Z4 ?_;refine D45 ?_;refine D200 ?_
      first
       |exact E45
       |(refine ⟨rfl,?_⟩
         rw [jas b hi,jas b hk];first
          |(rw [jaK zD];done)
          |(rw [jaJ zD hbt];exact E43)
          |(rw [jaz zD hbf hbg];exact E43))
   ·refine Z4 ?_;refine D10 ?_;refine Z3 ?_
    refine jal rfl rfl ?_;refine Z4 ?_
    refine jal rfl rfl ?_;refine Z2 ?_;refine D62 ?_;refine D48 ?_
    refine jaF rfl rfl (fun hc=>?_) (fun hc=>?_)
    ·refine Z3 ?_
     refine jan rfl rfl (fun hc=>?_) (fun hc=>?_);all_goals
      refine D61 ?_;refine D200 ?_
      first
       |exact E45
       |(refine ⟨rfl,?_⟩
         rw [jas b hi,jas b hk];first
          |(rw [jaK zD];done)
          |(rw [jaJ zD hbt];exact E43)
          |(rw [jaz zD hbf hbg];exact E43))
    ·refine Z4 ?_;refine D45 ?_;refine D200 ?_
     first
      |exact E45
      |(refine ⟨rfl,?_⟩
        rw [jas b hi,jas b hk];first
         |(rw [jaK zD];done)
         |(rw [jaJ zD hbt];exact E43)
         |(rw [jaz zD hbf hbg];exact E43))
  ·refine D169 ?_;refine rs3 ?_;refine D163 ?_
   refine jde (fun hc=>?_) (fun hc=>?_)
   ·first|replace hc:=of_decide_eq_true hc|replace hc:=of_decide_eq_false hc|skip
    refine D2 ?_
    have hab:(cdOf b ((jab b).getD i default)).butt=true:=hc
    have hkb:(cdOf b ((jab b).getD k default)).butt=false:=by cases e:(cdOf b ((jab b).getD k default)).butt;rfl;exact absurd (hab.trans e.symm) hbt
    refine rr7 ?_;refine Z5 ?_;refine jaj (Post:=fun v=>v= .bool (jez (dA (cdT b) k) (dA (cdT b) i) mk mi)) rfl zq zK (fun H' hH=>f176n_c m H' (sh.keeps (sq hH)) hk hi mk mi (.inr hkb)) ?_;rintro v rfl;refine D220 ?_;refine D193 ?_
    first
     |exact E45
     |(refine ⟨rfl,?_⟩
       rw [jas b hi,jas b hk];first
        |(rw [jaK zD];done)
        |(rw [jaJ zD hbt];exact E43)
        |(rw [jaz zD hbf hbg];exact E43))
   ·first|replace hc:=of_decide_eq_true hc|replace hc:=of_decide_eq_false hc|skip
    refine D7 ?_;refine D12 ?_;refine D2 ?_
    have hbf:(cdOf b ((jab b).getD i default)).butt=false:=hc
    have hbg:(cdOf b ((jab b).getD k default)).butt=true:=by cases e:(cdOf b ((jab b).getD k default)).butt;exact absurd (hbf.trans e.symm) hbt;rfl
    refine rr39 ?_;refine Z3 ?_;refine jal rfl zq ?_;refine Z2 ?_;refine D102 ?_
    refine jan rfl zq (fun hc=>?_) (fun hc=>?_)
    ·refine Z4 ?_
     refine jal rfl rfl ?_;refine Z2 ?_;refine D48 ?_
     refine jan rfl rfl (fun hc=>?_) (fun hc=>?_)
     ·refine D13 ?_;refine Z19 ?_;refine D222 ?_;refine D193 ?_
      first
       |exact E45
       |(refine ⟨rfl,?_⟩
         rw [jas b hi,jas b hk];first
          |(rw [jaK zD];done)
          |(rw [jaJ zD hbt];exact E43)
          |(rw [jaz zD hbf hbg];exact E43))
     ·refine D13 ?_;refine Z4 ?_
      refine jal rfl rfl ?_;refine Z2 ?_;refine D62 ?_
      refine jaF rfl rfl (fun hc=>?_) (fun hc=>?_)
      ·refine Z4 ?_
       refine jal rfl rfl ?_;refine Z2 ?_;refine D48 ?_
       refine jaF rfl rfl (fun hc=>?_) (fun hc=>?_);all_goals
        refine D61 ?_;refine D200 ?_
        first
         |exact E45
         |(refine ⟨rfl,?_⟩
           rw [jas b hi,jas b hk];first
            |(rw [jaK zD];done)
            |(rw [jaJ zD hbt];exact E43)
            |(rw [jaz zD hbf hbg];exact E43))
      ·refine Z9 ?_;refine D45 ?_;refine D200 ?_
       first
        |exact E45
        |(refine ⟨rfl,?_⟩
          rw [jas b hi,jas b hk];first
           |(rw [jaK zD];done)
           |(rw [jaJ zD hbt];exact E43)
           |(rw [jaz zD hbf hbg];exact E43))
    ·refine Z9 ?_;refine D10 ?_;refine Z4 ?_
     refine jal rfl rfl ?_;refine Z2 ?_;refine D62 ?_
     refine jaF rfl rfl (fun hc=>?_) (fun hc=>?_)
     ·refine Z4 ?_
      refine jal rfl rfl ?_;refine Z2 ?_;refine D48 ?_
      refine jaF rfl rfl (fun hc=>?_) (fun hc=>?_);all_goals
       refine D61 ?_;refine D200 ?_
       first
        |exact E45
        |(refine ⟨rfl,?_⟩
          rw [jas b hi,jas b hk];first
           |(rw [jaK zD];done)
           |(rw [jaJ zD hbt];exact E43)
           |(rw [jaz zD hbf hbg];exact E43))
     ·refine Z9 ?_;refine D45 ?_;refine D200 ?_
      first
       |exact E45
       |(refine ⟨rfl,?_⟩
         rw [jas b hi,jas b hk];first
          |(rw [jaK zD];done)
          |(rw [jaJ zD hbt];exact E43)
          |(rw [jaz zD hbf hbg];exact E43))
end Go.Proofs
namespace Go.Proofs
open Go.Lo
theorem jdL (n:Nat):(jcD n).length=n:=by simp [jcD]
theorem jfu: ∀xs:List Int,ja5 xs xs=false
 |[]=>rfl
 |a::r=>by unfold ja5;rw [if_pos rfl];exact jfu r
theorem jgm: ∀xs ys zs:List Int,ja5 xs ys=true→ja5 ys zs=true→ja5 xs zs=true
 |[],[],_,h,_=>by simp [ja5] at h
 |[],_::_,[],_,h=>by simp [ja5] at h
 |[],_::_,_::_,_,_=>rfl
 |_::_,[],_,h,_=>by simp [ja5] at h
 |_::_,_::_,[],_,h=>by simp [ja5] at h
 |a::r,c::s,d::t,h1,h2=>by
  unfold ja5 at h1 h2⊢
  by_cases e1:a=c
  ·by_cases e2:c=d
   ·rw [if_pos e1] at h1
    rw [if_pos e2] at h2
    rw [if_pos (e1.trans e2)];exact jgm r s t h1 h2
   ·rw [if_neg e2] at h2
    rw [if_neg (e1▸e2),e1];exact h2
  ·rw [if_neg e1] at h1
   have h1:=of_decide_eq_true h1
   by_cases e2:c=d
   ·rw [if_neg (e2▸e1),←e2];exact decide_eq_true h1
   ·rw [if_neg e2] at h2
    have h2:=of_decide_eq_true h2
    rw [if_neg zO];exact decide_eq_true zO
theorem jku (xs:List Int): ¬jc9 xs xs:=by
 rintro (h|⟨_,h⟩)
 ·omega
 ·rw [jfu] at h
  cases h
theorem jhA {xs ys zs:List Int} (h1:jc9 xs ys) (h2:jc9 ys zs):jc9 xs zs:=by
 rcases h1 with h1|⟨h1,h1'⟩<;>rcases h2 with h2|⟨h2,h2'⟩
 ·exact .inl zO
 ·exact .inl zO
 ·exact .inl zO
 ·exact .inr ⟨by omega,jgm _ _ _ h1' h2'⟩
theorem jkK: ∀xs ys:List Int,xs=ys∨ja5 xs ys=true∨ja5 ys xs=true
 |[],[]=> .inl rfl
 |[],_::_=> .inr (.inl rfl)
 |_::_,[]=> .inr (.inr rfl)
 |a::r,c::s=>by
  unfold ja5
  by_cases e:a=c
  ·rw [if_pos e,if_pos e.symm];rcases jkK r s with h|h|h
   ·exact .inl (by rw [e,h])
   ·exact .inr (.inl h)
   ·exact .inr (.inr h)
  ·rw [if_neg e,if_neg (fun x=>e x.symm)];rcases Int.lt_or_gt_of_ne e with h|h
   ·exact .inr (.inl (decide_eq_true h))
   ·exact .inr (.inr (decide_eq_true h))
theorem jmm (xs ys:List Int):xs=ys∨jc9 xs ys∨jc9 ys xs:=by
 unfold jc9
 rcases jkK xs ys with h|h|h
 ·exact .inl h
 ·rcases Nat.lt_trichotomy xs.length ys.length with e|e|e
  ·exact .inr (.inl (.inl e))
  ·exact .inr (.inl (.inr ⟨e,h⟩))
  ·exact .inr (.inr (.inl e))
 ·rcases Nat.lt_trichotomy xs.length ys.length with e|e|e
  ·exact .inr (.inl (.inl e))
  ·exact .inr (.inr (.inr ⟨e.symm,h⟩))
  ·exact .inr (.inr (.inl e))
theorem jfL {p:Int→Bool} {k:Nat} {z:Int}:z∈(jcD k).filter p↔ ∃i:Nat,i<k∧z=(i:Int)∧p i=true:=by
 rw [List.mem_filter];unfold jcD
 rw [List.mem_map];constructor
 ·rintro ⟨⟨i,hi,rfl⟩,h⟩;exact ⟨i,List.mem_range.1 hi,rfl,h⟩
 ·rintro ⟨i,hi,rfl,h⟩;exact ⟨⟨i,List.mem_range.2 hi,rfl⟩,h⟩
theorem jnq {xs:List Int} (h:Asc xs) (p:Int→Bool):Asc (xs.filter p):=List.Pairwise.sublist List.filter_sublist h
theorem jnp (k:Nat):Asc (jcD k):=by
 unfold jcD
 refine List.pairwise_map.2 ?_
 exact List.Pairwise.imp (fun h=>by omega) List.pairwise_lt_range
theorem jdq (mm k:Nat):Asc (ja0 mm k):=jnq (jnp _) _
theorem jhk {mm k:Nat} (h:bitN mm k=1):ja0 mm (k+1)=ja0 mm k++[(k:Int)]:=by
 rw [ja0,jdK,List.filter_append,←ja0,List.filter_cons,Int.toNat_natCast,if_pos (decide_eq_true h)];rfl
theorem ji4 {mm k:Nat} (h:bitN mm k≠1):ja0 mm (k+1)=ja0 mm k:=by
 rw [ja0,jdK,List.filter_append,←ja0,List.filter_cons,Int.toNat_natCast,if_neg (by rw [decide_eq_true_iff];exact h)];simp
theorem jdI (mm k:Nat):(ja0 mm k).length≤k:=by
 have:=List.length_filter_le (fun i:Int=>decide (bitN mm i.toNat=1)) (jcD k)
 rw [jdL] at this
 exact this
def jhM (p:Nat→Bool):Nat→Nat
 |0=>0
 |n+1=>if p n then 2^n+jhM p n else jhM p n
theorem jhL (p:Nat→Bool): ∀n,jhM p n<2^n
 |0=>Nat.one_pos
 |n+1=>by
  have:=jhL p n
  rw [jhM,Nat.pow_succ];split<;>omega
theorem jfX (p:Nat→Bool): ∀n i,i<n→(jhM p n).testBit i=p i
 |0,i,h=>by omega
 |n+1,i,h=>by
  rw [jhM];by_cases e:i=n
  ·subst e
   have h1:=Nat.testBit_lt_two_pow (jhL p i)
   split
   ·rw [Nat.testBit_two_pow_add_eq,h1];rename_i h
    rw [h];rfl
   ·rename_i h
    rw [h1];exact (Bool.eq_false_iff.2 h).symm
  ·have ih:=jfX p n i zO
   split
   ·rw [Nat.testBit_two_pow_add_gt zO];exact ih
   ·exact ih
theorem jco (mm i:Nat):bitN mm i=1↔mm.testBit i=true:=by
 rw [Nat.testBit_eq_decide_div_mod_eq];unfold bitN
 simp
theorem jb2 {mm k:Nat} {z:Int}:z∈ja0 mm k↔ ∃i:Nat,i<k∧z=(i:Int)∧bitN mm i=1:=by
 unfold ja0
 rw [jfL];simp
theorem joB {n:Nat} {xs:List Int} (ha:Asc xs) (h: ∀x∈xs,0≤x∧x<n): ∃mm,mm<2^n∧xs=ja0 mm n:=by
 refine ⟨jhM (fun i=>decide ((i:Int)∈xs)) n,jhL _ _,Asc.eq ha (jdq _ _) fun z=>?_⟩
 rw [jb2];constructor
 ·intro hz
  have h1:=h z hz
  refine ⟨z.toNat,by omega,by omega,(jco _ _).2 ?_⟩
  rw [jfX _ _ _ zO,show ((z.toNat:Nat):Int)=z by omega];exact decide_eq_true hz
 ·rintro ⟨i,hi,rfl,hb⟩;have:=(jco _ _).1 hb
  rw [jfX _ _ _ hi] at this
  exact of_decide_eq_true this
theorem jhP {ys:List Int} (h:Asc ys):ys.Nodup:=List.Pairwise.imp (fun h=>by omega) h
theorem asc_len {xs:List Int} {n:Nat} (h:Asc xs) (hx: ∀x∈xs,0≤x∧x<n):xs.length≤n:=by
 have:=List.Nodup.length_le_of_subset (l₂:=jcD n) (jhP h) fun z hz=>by
  obtain ⟨h1,h2⟩:=hx z hz
  unfold jcD
  exact List.mem_map.2 ⟨z.toNat,List.mem_range.2 zO,by omega⟩
 rwa [jdL] at this
end Go.Proofs
namespace Go.Proofs
open Go.Lo
open Go.Conc (G)
set_option maxRecDepth 100000
set_option synthInstance.maxSize 100000
set_option synthInstance.maxHeartbeats 1000000
set_option maxHeartbeats 4000000
variable {B:Array Obj}
variable [LaidO B]
def btL (s:Nat) (ms:List Int):List Value:= .int .u64 (s:Int)::ints ms
abbrev btV (s:Nat) (ms:List Int):Value:= .agg (btL s ms).toArray
theorem btL_one (s:Nat) (ms:List Int): ∀u∈btL s ms,u.oneCell'=true:=by
 intro u hu
 rcases List.mem_cons.1 hu with rfl|hu
 ·rfl
 ·obtain ⟨n,_,rfl⟩:=List.mem_map.1 hu
  rfl
instance {s:Nat} {ms:List Int}:Ones (btL s ms):=⟨btL_one s ms⟩
instance {s:Nat} {ms:List Int}:At (btL s ms) 0 (.int .u64 (s:Int)):=⟨rfl⟩
theorem bt_at {h:Hp} {q e:Nat} {rw:Bool} {f:Nat×Nat} {s:Nat} {ms:List Int} [x:Has h q rw (.cells (btL s ms).toArray e f)] (i:Nat) (hi:i<ms.length):Rd B h ⟨q,1+(i:Int).toNat*1,none⟩ (.int .i64 (ms.getD i 0)):=by
 refine Rd.held x.mem ?_
 rw [show 1+(i:Int).toNat*1=i+1 by omega,List.getElem?_toArray,btL,List.getElem?_cons_succ,List.getElem?_map,List.getElem?_eq_getElem hi,List.getD_eq_getElem?_getD,List.getElem?_eq_getElem hi];rfl
theorem isB_of {p:Bool} {v:Value} (h:v= .bool p):IsB (p=true) v:=by
 rw [h];cases p
 exact .inr ⟨by simp,rfl⟩
 exact .inl ⟨rfl,rfl⟩
def fitsN (D:List Cd) (s:Nat) (ms:List Int) (i k:Nat):Prop:= ∀j,j<k→s.testBit j=false→riC (dA D j) (dA D i) (ms.getD j 0) (ms.getD i 0)=true
theorem f156_c (m:Md Tryz.prog B) (h:Hp) (s:Nat) (hs:s<4096):FnC m 156 #[.int .u64 (s:Int)] h fun v h'=> ∃new,h'=h++new∧OwnS 3 1 v (ja0 s 12).length (ints (ja0 s 12)) new:=by
 refine jae Tryz.func156 rfl rfl (l:=(.int .u64 (s:Int))::uu16) rfl ?_
 intro cf cs K hK
 refine D162 ?_;refine D161 ?_;refine rs1 ?_;refine D243 ?_
 refine jai (fun nn l h'=> ∃(k:Nat) (wp:Option Addr) (wc:Nat) (M:Hp),nn=12-k∧(k≤12)∧(OwnS 3 1 (.slice wp (ja0 s k).length wc) (ja0 s k).length (ints (ja0 s k)) M)∧(∃U:Nat→Value,l=((.int .u64 (s:Int))::(U 1)::(U 2)::(.slice wp (ja0 s k).length wc)::(U 4)::(.int .i64 (k:Int))::vw11 U 6 []))∧h++M=h') _ ⟨0,none,0,[],rfl,by omega,OwnS.nil,exU rfl,zS⟩ ?_;rintro nn l h' ⟨k,wp,wc,M,rfl,hk,how,⟨U,rfl⟩,rfl⟩ hnext;have hkl:=jdI s k
 refine rs1 ?_;refine jan rfl zq (fun hc=>?_) (fun hc=>?_);refine D205 ?_
 rotate_left
 refine D175 ?_
 all_goals
  refine D152 ?_;refine D0 ?_
 ·refine D4 ?_;refine jac (h++M) rfl Tryz.func156 rfl jaa ?_;refine D5 ?_
  obtain rfl:k=12:=by omega
  exact ⟨M,rfl,how⟩
 ·refine D203 ?_;refine jaj (Post:=fun v=>IsB _ v) rfl zq zK (fun H' hH=>f98_b m H' s k hs zO) ?_
  rintro v (⟨hc,rfl⟩|⟨hc,rfl⟩);refine D9 ?_;refine D148 ?_;refine rr5 ?_;refine Z2 ?_
  refine k_bs kdq rfl zq zA zA rfl (fun q13=>k_hp (jad ?_));refine ja3 rfl zq rfl how kdq zO zO (fun w9 n9 o9=>jad ?_);obtain ⟨p9,c9,rfl,hc9,r9⟩:=jap (B:=B) o9
  refine D0 ?_
  rotate_left
  refine D9 ?_;refine D149 ?_
  all_goals
   refine D159 ?_
  ·have hks:=ji4 (mm:=s) (k:=k) (fun e=>hc ((jco s k).1 e))
   rw [←hks];exact E12
  ·have hks:=jhk (mm:=s) (k:=k) ((jco s k).2 hc)
   have hkl1:(ja0 s (k+1)).length=(ja0 s k).length+1:=by rw [hks];simp
   rw [←hkl1];exact m.weak jaa (hnext _ _ _ zO ⟨k+1,p9,c9,n9,rfl,by omega,by rw [hkl1,hks,jbh];exact o9,exU rfl,rfl⟩)
theorem f139_c (m:Md Tryz.prog B) (h:Hp) {b:Tb} {q:Nat} {tv:List Value} (sh:Sheet B h b q tv) {i:Nat} (hi:i<(jab b).length) (s:Nat) (hs:s<4096) {ms:List Int} (hm:ms.length=12):FnC m 139 #[.pointer (some ⟨q,0,none⟩),btV s ms,.int .i64 (i:Int)] h fun v h'=>h'=h∧IsB (fitsN (cdT b) s ms i i) v:=by
 have h12:=sh.twelve
 refine jae Tryz.func139 rfl rfl (l:=(.pointer (some ⟨q,0,none⟩))::(btV s ms)::(.int .i64 (i:Int))::uu29) rfl ?_
 intro cf cs K hK
 refine rs2 ?_;refine jaQ rfl zq (fun q4=>k_hp (jad ?_));refine D150 ?_;refine rs2 ?_;refine D155 ?_;refine D11 ?_
 refine jai (fun nn l h'=> ∃(k:Nat),nn=i-k∧(k≤i)∧(fitsN (cdT b) s ms i k)∧(∃U:Nat→Value,l=((.pointer (some ⟨q,0,none⟩))::(btV s ms)::(.int .i64 (i:Int))::(U 3)::(.pointer (some ⟨q4,0,none⟩))::(U 5)::(U 6)::(U 7)::(.int .i64 (i:Int))::(.int .i64 (k:Int))::vw22 U 10 []))∧h++[⟨true,q4,.cells (btL s ms).toArray 136 (0,0)⟩]=h') _ ⟨0,rfl,by omega,fun j hj=>absurd hj zO,exU rfl,rfl⟩ ?_;rintro nn l h' ⟨k,rfl,hk,hno,⟨U,rfl⟩,rfl⟩ hnext;refine rs1 ?_;refine jan rfl zq (fun hc=>?_) (fun hc=>?_)
 ·refine D205 ?_;refine D152 ?_;refine D150 ?_;refine jaq [(0,.pure),(2,.pure),(1,.read),(3,.keep),(4,.pure),(5,.pure),(6,.pure),(7,.pure),(8,.pure),(9,.pure),(10,.pure),(11,.pure),(13,.pure),(14,.pure),(15,.pure),(12,.read),(16,.read),(17,.keep),(18,.pure)] zK zK (List.Sublist.refl _) ?_;refine Z3 ?_;refine jaj (Post:=fun v=>IsB _ v) rfl zq zK (fun H' hH=>f98_b m H' s k hs zO) ?_
  rintro v (⟨hc,rfl⟩|⟨hc,rfl⟩)
  ·refine D9 ?_
   have hbt:s.testBit k=true:=hc
   refine D38 ?_;refine Z13 ?_;refine D187 ?_;refine D159 ?_
   exact m.weak jaa (hnext _ _ _ zO ⟨k+1,rfl,by omega,fun j hj hb=>by
    by_cases e:j<k
    ·exact hno j e hb
    ·obtain rfl:j=k:=by omega
     first|(rw [hc] at hb;cases hb;done)|(rw [hbt] at hb;cases hb;done)|(have hf:=hc;rw [jez] at hf;simpa using hf),exU rfl,rfl⟩)
  ·refine D9 ?_
   have hbf:s.testBit k=false:=by simpa using hc
   refine D40 ?_;refine Z10 ?_;refine k_ld rfl rfl (bt_at k zO) ?_;refine k_ld rfl rfl (bt_at i zO) ?_;refine jaj (Post:=fun v=>IsB _ v) rfl rfl zK (fun H' hH=>CallF.mono (f176_c m H' (sh.keeps (sq hH)) (i:=k) (k:=i) zO hi (ms.getD k 0) (ms.getD i 0)) fun v h' ⟨e1,e2⟩=>⟨e1,isB_of e2⟩) ?_
   rintro v (⟨hc,rfl⟩|⟨hc,rfl⟩)
   ·refine D9 ?_;refine D209 ?_;refine jac (h) rfl Tryz.func139 rfl jaa ?_;refine D5 ?_
    refine ⟨rfl,IsB.no fun e=>?_⟩
    have:=e k zO hbf
    rw [jez,this] at hc
    cases hc
   ·refine D9 ?_;refine D13 ?_;refine D225 ?_
    exact m.weak jaa (hnext _ _ _ zO ⟨k+1,rfl,by omega,fun j hj hb=>by
     by_cases e:j<k
     ·exact hno j e hb
     ·obtain rfl:j=k:=by omega
      first|(rw [hc] at hb;cases hb;done)|(rw [hbt] at hb;cases hb;done)|(have hf:=hc;rw [jez] at hf;simpa using hf),exU rfl,rfl⟩)
 ·refine D175 ?_;refine D153 ?_;refine jac (h) rfl Tryz.func139 rfl jaa ?_;refine D5 ?_
  obtain rfl:k=i:=by omega
  exact ⟨rfl,IsB.yes hno⟩
theorem jnr {D:List Cd} {x:Bo} {d:Cd} {v:Int} (h:x.length≤D.length):jaw d v D x=jaw d v (D.take x.length) x:=by
 have hl:x.length=(D.take x.length).length:=by rw [List.length_take];omega
 have:=jds (d:=d) (v:=v) (C:=D.drop x.length) hl
 rwa [List.take_append_drop] at this
theorem jis {D:List Cd} {x:Bo} {v:Int} (h:x.length<D.length) (h12:D.length≤12):fitsN D (jbA (x++[some v])) (padM (x++[some v])) x.length x.length↔jaw (dA D x.length) v D x=true:=by
 have hl:x.length=(D.take x.length).length:=by rw [List.length_take];omega
 rw [jnr zO,jcN hl];have hv:(padM (x++[some v])).getD x.length 0=v:=by
  rw [jeT zO,xA,List.getD_eq_getElem?_getD];simp
 have hj: ∀j,j<x.length→(padM (x++[some v])).getD j 0=(xA x j).getD 0:=fun j hj=>by
  rw [jeT zO,xA,xA,List.getD_eq_getElem?_getD,List.getElem?_append_left hj,List.getD_eq_getElem?_getD]
 have hd: ∀j,j<x.length→dA (D.take x.length) j=dA D j:=fun j hj=>by
  rw [dA,dA,List.getD_eq_getElem?_getD,List.getElem?_take,if_pos hj,List.getD_eq_getElem?_getD]
 have hb: ∀j,j<x.length→((jbA (x++[some v])).testBit j=false↔ ∃u,xA x j=some u):=fun j hj=>by
  rw [jiB,jcn];cases hx:xA x j with
  |none=>simp [hj]
  |some u=>simp
 constructor
 ·intro hh j u hu
  have hjl:j<x.length:=Classical.byContradiction fun e=>by
   rw [xA,List.getD_eq_getElem?_getD,List.getElem?_eq_none zO] at hu
   cases hu
  have:=hh j hjl ((hb j hjl).2 ⟨u,hu⟩)
  rw [hv,hj j hjl,hu] at this
  rw [hd j hjl,jgw];exact this
 ·intro hh j hjl hbj
  obtain ⟨u,hu⟩:=(hb j hjl).1 hbj
  have:=hh j u hu
  rw [hd j hjl,jgw] at this
  rw [hv,hj j hjl,hu];exact this
theorem meaS_960 (s:Str):(meaS s).length≤960:=by
 rw [meaS];split
 ·rw [meaP,List.length_map];have:=List.length_filter_le (jgs (jar s)) (List.range 960)
  rwa [List.length_range] at this
 ·simp
theorem can_960 (b:Tb) {i:Nat} (hi:i<(jab b).length):(dA (cdT b) i).can.length≤960:=by
 rw [jas b hi];exact meaS_960 _
theorem bo_some {x:Bo} {v:Int} (h:x.length<12):SetSeg (boL x) (1+(x.length:Int).toNat*1) [.int .i64 v] (boL (x++[some v])):=by
 refine jcL (by rw [jaC];omega) ?_
 rw [boL,boL,jiB,joi h,show 1+(x.length:Int).toNat*1=x.length+1 by omega,List.set_cons_succ,List.map_set]
theorem jpx {x:Bo} (h:x.length<12):SetSeg (boL x) 0 [.int .u64 ((jbA x|||2^x.length:Nat):Int)] (boL (x++[none])):=by
 refine jcL (by rw [jaC];omega) ?_
 rw [boL,boL,jno,joj h,List.set_cons_zero]
instance {x:Bo}:Ones (boL x):=⟨jpy x⟩
instance {x:Bo}:LenIs (boL x) 13:=⟨jaC x⟩
instance {x:Bo}:At (boL x) 0 (.int .u64 (jbA x:Int)):=⟨rfl⟩
theorem seg_all {l:List Value} {n:Nat} (h:l.length=n):Seg l 0 n l:=⟨by rw [List.drop_zero];exact List.take_of_length_le zO,h⟩
instance {x:Bo}:Seg (boL x) 0 13 (boL x):=seg_all (jaC x)
theorem jic {l r:List Value} (h:l.length=r.length):SetSeg l 0 r r:=⟨by rw [List.drop_eq_nil_of_le zO];simp,by omega⟩
instance {v1 v2 v3 v4 v5 v6 v7 v8 v9 v10 v11 v12 v13:Value} {x:Bo}:SetSeg [v1,v2,v3,v4,v5,v6,v7,v8,v9,v10,v11,v12,v13] 0 (boL x) (boL x):=jic (by rw [jaC];rfl)
theorem CallV.fn' {P:Program} {B:Array Obj} {m:Md P B} {f:FuncId} {first cap vs:Array Value} {args:List Value} {h:Hp} {Post:Value→Hp→Prop} (hf:jbz P f=true) (e:first++args.toArray++cap=vs) (c:FnC m f vs h Post):CallV m (.func (.func f) first cap) args h Post:=CallV.fn hf (e▸c)
theorem jgF:jbz Tryz.prog 180=true:=by kernel_rfl
def EachO {P:Program} {B:Array Obj} (m:Md P B) (h0:Hp) (G:List Bo) (N:Nat) (yv:Value) (YI:List Bo→Hp→Prop) (YS:Hp→Prop):Prop:=
 ∀(F R:Hp) (dn:List Bo) (x:Bo),h0.Sublist F→x∈G→dn.length<N→YI dn R→CallV m yv [boV x] (F++R) fun v h'=> ∃R',h'=F++R'∧((v= .bool true∧YI (dn++[x]) R')∨(v= .bool false∧YS R'))
theorem f180_c (m:Md Tryz.prog B) {h0:Hp} {b:Tb} {q:Nat} {tv:List Value} (sh:Sheet B h0 b q tv) {qx qm qc:Nat} (rx:Rd B h0 ⟨qx,0,none⟩ (.pointer (some ⟨q,0,none⟩))) {must can:Nat} (rm:Rd B h0 ⟨qm,0,none⟩ (.int .u64 (must:Int))) (rc:Rd B h0 ⟨qc,0,none⟩ (.int .u64 (can:Int))) (hmu:must<4096) (hca:can<4096) {yv:Value} [CellsV yv [yv]] {G:List Bo} {N:Nat} {YI:List Bo→Hp→Prop} {YS:Hp→Prop} (hY:EachO m h0 G N yv YI YS) (qy qn:Nat):
  ∀(d w:Nat) (x:Bo) (dn:List Bo) (X R:Hp),x.length+d=(jab b).length→w≤100→(∀y∈genM (cdT b) can must d w x,y∈G)→dn.length+(genM (cdT b) can must d w x).length≤N→YI dn R→
   FnC m 180 #[boV x,.int .i64 (x.length:Int),.int .i64 (w:Int),.pointer (some ⟨qx,0,none⟩),.pointer (some ⟨qy,0,none⟩),.pointer (some ⟨qm,0,none⟩),.pointer (some ⟨qn,0,none⟩),.pointer (some ⟨qc,0,none⟩)] (((h0++[⟨true,qy,.cells [yv].toArray 220 (0,0)⟩,⟨true,qn,.cells [.func (.func 180) #[] [.pointer (some ⟨qx,0,none⟩),.pointer (some ⟨qy,0,none⟩),.pointer (some ⟨qm,0,none⟩),.pointer (some ⟨qn,0,none⟩),.pointer (some ⟨qc,0,none⟩)].toArray].toArray 221 (0,0)⟩])++X)++R) fun v h'=> ∃R',h'=((h0++[⟨true,qy,.cells [yv].toArray 220 (0,0)⟩,⟨true,qn,.cells [.func (.func 180) #[] [.pointer (some ⟨qx,0,none⟩),.pointer (some ⟨qy,0,none⟩),.pointer (some ⟨qm,0,none⟩),.pointer (some ⟨qn,0,none⟩),.pointer (some ⟨qc,0,none⟩)].toArray].toArray 221 (0,0)⟩])++X)++R'∧((v= .bool true∧YI (dn++genM (cdT b) can must d w x) R')∨(v= .bool false∧YS R')):=by
 intro d
 induction d using Nat.strongRecOn
 rename_i d ih
 intro w x dn X R hid hw hok hdn hR
 have h12:=sh.twelve
 obtain ⟨pc,cc0,hcv,hcc,hcr0⟩:=sh.cells
 refine jae Tryz.func180 rfl rfl (l:=(boV x)::(.int .i64 (x.length:Int))::(.int .i64 (w:Int))::(.pointer (some ⟨qx,0,none⟩))::(.pointer (some ⟨qy,0,none⟩))::(.pointer (some ⟨qm,0,none⟩))::(.pointer (some ⟨qn,0,none⟩))::(.pointer (some ⟨qc,0,none⟩))::uu71) rfl ?_
 intro cf cs K hK
 refine rs2 ?_;refine jaQ rfl zq (fun q8=>jka (Weak.mid ((h0++[⟨true,qy,.cells [yv].toArray 220 (0,0)⟩,⟨true,qn,.cells [.func (.func 180) #[] [.pointer (some ⟨qx,0,none⟩),.pointer (some ⟨qy,0,none⟩),.pointer (some ⟨qm,0,none⟩),.pointer (some ⟨qn,0,none⟩),.pointer (some ⟨qc,0,none⟩)].toArray].toArray 221 (0,0)⟩])++X) R _) (jad ?_));refine D150 ?_;refine D197 ?_;refine D141 ?_
 refine jal rfl zq ?_;refine Zs ?_;refine D91 ?_;refine Zs ?_
 refine jaM rfl zq (fun hc=>?_) (fun hc=>?_)
 ·obtain rfl:d=0:=by omega
  have hgn:genM (cdT b) can must 0 w x=[x]:=rfl
  rw [hgn] at hdn hok
  refine D148 ?_;refine D212 ?_
  have hcv2:=hY (((h0++[⟨true,qy,.cells [yv].toArray 220 (0,0)⟩,⟨true,qn,.cells [.func (.func 180) #[] [.pointer (some ⟨qx,0,none⟩),.pointer (some ⟨qy,0,none⟩),.pointer (some ⟨qm,0,none⟩),.pointer (some ⟨qn,0,none⟩),.pointer (some ⟨qc,0,none⟩)].toArray].toArray 221 (0,0)⟩])++X)++[⟨true,q8,.cells (boL x).toArray 136 (0,0)⟩]) R dn x zS (hok x zS) (by simp at hdn;omega) hR
  refine jfO rfl zq hcv2 ?_;rintro v h' ⟨R2,rfl,hh⟩;refine D220 ?_;refine D26 ?_;refine D5 ?_
  exact ⟨R2,rfl,by rw [hgn];exact hh⟩
 ·obtain ⟨d1,rfl⟩: ∃d1,d=d1+1:=⟨d-1,by omega⟩
  have hxl:x.length<(jab b).length:=by omega
  have hx12:x.length<12:=by omega
  have hbs:=jce (x:=x) zO
  refine D165 ?_;refine rs4 ?_;refine k_ld rfl zq (rm.keeps SubH.sub) ?_;refine Zs ?_;refine jaj (Post:=fun v=>IsB _ v) rfl zq zK (fun H' hH=>f98_b m H' must x.length hmu hx12) ?_
  rintro v (⟨hc,rfl⟩|⟨hc,rfl⟩)
  ·refine D9 ?_
   have hmb:must.testBit x.length=true:=hc
   have hgm:=jkn (D:=cdT b) (can:=can) (f:=d1) (w:=w) hmb
   refine D38 ?_;refine D165 ?_;refine D2 ?_
   first
    |have hpre: ∃pre,genM (cdT b) can must (d1+1) w x=pre++(if w=0∨can.testBit x.length=false then [] else genM (cdT b) can must d1 (w-1) (x++[none]))∧YI (dn++pre) R1:=⟨_,hgf j zO,hR1⟩
    |have hpre: ∃pre,genM (cdT b) can must (d1+1) w x=pre++(if w=0∨can.testBit x.length=false then [] else genM (cdT b) can must d1 (w-1) (x++[none]))∧YI (dn++pre) R:=⟨[],hgm,by rw [List.append_nil];exact hR⟩
   obtain ⟨pre,hgp,hRp⟩:=hpre
   refine rr8 ?_;refine Zs ?_;refine jaM rfl zq (fun hc=>?_) (fun hc=>?_)
   ·refine Z5 ?_;refine D209 ?_;refine D44 ?_;refine D5 ?_
    exact E46
   ·refine Zs ?_;refine k_ld rfl rfl (rc.keeps SubH.sub) ?_;refine Zs ?_;refine jaj (Post:=fun v=>IsB _ v) rfl rfl zK (fun H' hH=>f98_b m H' can x.length hca hx12) ?_
    rintro v (⟨hc,rfl⟩|⟨hc,rfl⟩)
    ·refine D229 ?_;refine D187 ?_;refine rs6 ?_;refine Z3 ?_;refine D104 ?_
     rintro v rfl;refine D9 ?_;refine Zs ?_
     haveI hsn:=jpx (x:=x) hx12
     refine D181 ?_;refine rs8 ?_;refine Z6 ?_
     have hw1:w≠0:=by omega
     have hcb:can.testBit x.length=true:=by assumption
     have hgg:(if w=0∨can.testBit x.length=false then [] else genM (cdT b) can must d1 (w-1) (x++[none]))=genM (cdT b) can must d1 (w-1) (x++[none]):=if_neg (by rw [hcb];simp;exact hw1)
     have hrec:=ih d1 zO (w-1) (x++[none]) (dn++pre) (X++[⟨true,q8,.cells (boL (x++[none])).toArray 136 (0,0)⟩]) _ zN zO (fun y hy=>hok y (by
      rw [hgp,hgg];exact List.mem_append_right _ hy)) (by
      rw [hgp,hgg,List.length_append] at hdn
      rw [List.length_append];omega) hRp
     rw [show (((x++[none]:Bo).length:Nat):Int)=(x.length:Int)+1 by simp,show ((w-1:Nat):Int)=(w:Int)-1 by omega,←List.append_assoc (h0++_) X] at hrec
     have hcv2:=CallV.fn' (first:= #[]) (args:=[boV (x++[none]),.int .i64 ((x.length:Int)+1),.int .i64 ((w:Int)-1)]) (cap:=[Value.pointer (some ⟨qx,0,none⟩),Value.pointer (some ⟨qy,0,none⟩),Value.pointer (some ⟨qm,0,none⟩),Value.pointer (some ⟨qn,0,none⟩),Value.pointer (some ⟨qc,0,none⟩)].toArray) jgF zS hrec
     refine jfO rfl zq hcv2 ?_;clear hcv2 hrec
     rintro v h' ⟨R2,rfl,hh⟩;refine D220 ?_;refine D26 ?_;refine D5 ?_
     exact ⟨R2,rfl,by rw [hgp,hgg,←List.append_assoc];exact hh⟩
    ·refine D9 ?_;refine jea rfl rfl ?_;refine D10 ?_;refine D166 ?_;refine D44 ?_;refine D5 ?_
     exact E46
  ·refine D9 ?_
   have hmb:must.testBit x.length=false:=by simpa using hc
   have hgf:=fun j=>jo5 (D:=cdT b) (can:=can) (f:=d1) (w:=w) (j:=j) hmb
   obtain ⟨cp,cc,hcan,hccl,hcr⟩:=sh.can x.length hxl
   have h960:=can_960 b hxl
   have hcan2:Rd B h0 ⟨q,18+(x.length:Int).toNat*1,none⟩ (.slice cp (dA (cdT b) x.length).can.length cc):=by rw [Int.toNat_natCast,Nat.mul_one];exact hcan
   refine D40 ?_;refine D148 ?_;refine rs8 ?_;refine D141 ?_;refine Zs ?_
   refine jal rfl zq ?_;refine Z2 ?_;refine k_ld rfl zq (hcan2.keeps SubH.sub) ?_;refine D155 ?_;refine D11 ?_
   refine jai (fun nn l h'=> ∃(j:Nat) (R1:Hp),nn=(dA (cdT b) x.length).can.length-j∧(j≤(dA (cdT b) x.length).can.length)∧(YI (dn++jfm (cdT b) can must d1 w x j) R1)∧(∃U:Nat→Value,l=((boV x)::(.int .i64 (x.length:Int))::(.int .i64 (w:Int))::(.pointer (some ⟨qx,0,none⟩))::(.pointer (some ⟨qy,0,none⟩))::(.pointer (some ⟨qm,0,none⟩))::(.pointer (some ⟨qn,0,none⟩))::(.pointer (some ⟨qc,0,none⟩))::(.pointer (some ⟨q8,0,none⟩))::vw25 U 9 ((.slice cp (dA (cdT b) x.length).can.length cc)::(.int .i64 ((dA (cdT b) x.length).can.length:Int))::(.int .i64 (j:Int))::vw42 U 37 [])))∧(((h0++[⟨true,qy,.cells [yv].toArray 220 (0,0)⟩,⟨true,qn,.cells [.func (.func 180) #[] [.pointer (some ⟨qx,0,none⟩),.pointer (some ⟨qy,0,none⟩),.pointer (some ⟨qm,0,none⟩),.pointer (some ⟨qn,0,none⟩),.pointer (some ⟨qc,0,none⟩)].toArray].toArray 221 (0,0)⟩])++X)++[⟨true,q8,.cells (boL x).toArray 136 (0,0)⟩])++R1=h') _ ⟨0,R,rfl,by omega,by rw [jnh,List.append_nil];exact hR,exU rfl,rfl⟩ ?_;rintro nn l h' ⟨j,R1,rfl,hj,hR1,⟨U,rfl⟩,rfl⟩ hnext1;refine rs1 ?_;refine jan rfl zq (fun hc=>?_) (fun hc=>?_)
   ·refine D191 ?_
    obtain ⟨cpb,cpo,hcp⟩:=hcr.ptr zO
    have hcr':=hcr
    rw [hcp] at hcr'
    refine rr3 ?_;refine jdl rfl zq hcp zO zO ?_;refine k_ld rfl zq (hcr'.iat j zO zO) ?_;refine D0 ?_;refine D186 ?_;refine jau rfl zq (fun q14=>jka (Weak.mid (((h0++[⟨true,qy,.cells [yv].toArray 220 (0,0)⟩,⟨true,qn,.cells [.func (.func 180) #[] [.pointer (some ⟨qx,0,none⟩),.pointer (some ⟨qy,0,none⟩),.pointer (some ⟨qm,0,none⟩),.pointer (some ⟨qn,0,none⟩),.pointer (some ⟨qc,0,none⟩)].toArray].toArray 221 (0,0)⟩])++X)++[⟨true,q8,.cells (boL x).toArray 136 (0,0)⟩]) R1 _) (jad ?_));refine jkb rfl zq (jaC x) ?_;refine D1 ?_;refine rs5 ?_;refine Z4 ?_;haveI hss:=bo_some (x:=x) (v:=((dA (cdT b) x.length).can.getD j 0)) hx12
    refine D181 ?_;refine rs13 ?_;refine D141 ?_;refine Z2 ?_;refine jaj (Post:=fun v=>IsB _ v) rfl zq zK (fun H' hH=>f139_c m H' (sh.keeps (sq hH)) hxl (jbA (x++[some ((dA (cdT b) x.length).can.getD j 0)])) (jce zN) (ms:=padM (x++[some ((dA (cdT b) x.length).can.getD j 0)])) (jbg _)) ?_
    rintro v (⟨hc,rfl⟩|⟨hc,rfl⟩)
    ·refine D9 ?_
     have hag:=(jis (by rw [jaB];exact hxl) (by rw [jaB];exact h12)).1 hc
     have hgs:=jo6 (D:=cdT b) (can:=can) (must:=must) (f:=d1) (w:=w) (j:=j) zO hag
     refine Z4 ?_;refine k_add rfl rfl zL ?_;refine Zs ?_
     have hle:=genMJ_le (D:=cdT b) (can:=can) (f:=d1) (w:=w) (j:=j+1) hmb
     have hgfl:=hgf _ (Nat.le_refl _)
     have hrec:=ih d1 zO w (x++[some ((dA (cdT b) x.length).can.getD j 0)]) (dn++jfm (cdT b) can must d1 w x j) (X++([⟨true,q8,.cells (boL x).toArray 136 (0,0)⟩]++[⟨true,q14,.cells (boL (x++[some ((dA (cdT b) x.length).can.getD j 0)])).toArray 136 (0,0)⟩])) R1 zN hw (fun y hy=>hok y (by
      rw [hgfl];refine List.mem_append_left _ ?_
      rw [jir (Nat.le_refl _)];refine List.mem_flatMap.2 ⟨_,List.mem_filter.2 ⟨?_,hag⟩,hy⟩
      rw [List.getD_eq_getElem?_getD,List.getElem?_eq_getElem zO];exact List.getElem_mem _)) (by
      rw [hgs,List.length_append] at hle
      rw [List.length_append];omega) hR1
     rw [show (((x++[some ((dA (cdT b) x.length).can.getD j 0)]).length:Nat):Int)=(x.length:Int)+1 by simp,←List.append_assoc (h0++_) X,←List.append_assoc (_++X) _ _] at hrec
     have hcv2:=CallV.fn' (first:= #[]) (args:=[boV (x++[some ((dA (cdT b) x.length).can.getD j 0)]),.int .i64 ((x.length:Int)+1),.int .i64 (w:Int)]) (cap:=[Value.pointer (some ⟨qx,0,none⟩),Value.pointer (some ⟨qy,0,none⟩),Value.pointer (some ⟨qm,0,none⟩),Value.pointer (some ⟨qn,0,none⟩),Value.pointer (some ⟨qc,0,none⟩)].toArray) jgF zS hrec
     refine jfO rfl rfl hcv2 ?_;clear hcv2 hrec
     rintro v h' ⟨R2,rfl,(⟨rfl,hR2⟩|⟨rfl,hR2⟩)⟩
     ·refine D229 ?_;refine D13 ?_;refine D225 ?_
      exact m.weak jaa (hnext1 _ _ _ zO ⟨j+1,R2,rfl,by omega,by rw [hgs,←List.append_assoc];exact hR2,exU rfl,rfl⟩)
     ·refine D9 ?_;refine jea rfl rfl ?_;refine D209 ?_;refine D26 ?_;refine D5 ?_
      exact ⟨R2,rfl,.inr ⟨rfl,hR2⟩⟩
    ·refine D9 ?_
     have hag:jaw (dA (cdT b) x.length) ((dA (cdT b) x.length).can.getD j 0) (cdT b) x=false:=by
      cases e:jaw (dA (cdT b) x.length) ((dA (cdT b) x.length).can.getD j 0) (cdT b) x with
      |false=>rfl
      |true=>exact absurd ((jis (by rw [jaB];exact hxl) (by rw [jaB];exact h12)).2 e) hc
     have hgs:=genMJ_no (D:=cdT b) (can:=can) (must:=must) (f:=d1) (w:=w) (j:=j) zO hag
     refine Z8 ?_;refine D187 ?_;refine D159 ?_
     exact m.weak jaa (hnext1 _ _ _ zO ⟨j+1,R1,rfl,by omega,by rw [hgs];exact hR1,exU rfl,rfl⟩)
   ·refine D175 ?_;refine D2 ?_;refine D2 ?_
    first
     |have hpre: ∃pre,genM (cdT b) can must (d1+1) w x=pre++(if w=0∨can.testBit x.length=false then [] else genM (cdT b) can must d1 (w-1) (x++[none]))∧YI (dn++pre) R1:=⟨_,hgf j zO,hR1⟩
     |have hpre: ∃pre,genM (cdT b) can must (d1+1) w x=pre++(if w=0∨can.testBit x.length=false then [] else genM (cdT b) can must d1 (w-1) (x++[none]))∧YI (dn++pre) R:=⟨[],hgm,by rw [List.append_nil];exact hR⟩
    obtain ⟨pre,hgp,hRp⟩:=hpre
    refine rr8 ?_;refine Zs ?_;refine jaM rfl zq (fun hc=>?_) (fun hc=>?_)
    ·refine Z5 ?_;refine D209 ?_;refine D42 ?_;refine D5 ?_
     exact E46
    ·refine Zs ?_;refine k_ld rfl rfl (rc.keeps SubH.sub) ?_;refine Zs ?_;refine jaj (Post:=fun v=>IsB _ v) rfl rfl zK (fun H' hH=>f98_b m H' can x.length hca hx12) ?_
     rintro v (⟨hc,rfl⟩|⟨hc,rfl⟩)
     ·refine D229 ?_;refine D187 ?_;refine rs6 ?_;refine Z3 ?_;refine D104 ?_
      rintro v rfl;refine D9 ?_;refine Zs ?_
      haveI hsn:=jpx (x:=x) hx12
      refine D181 ?_;refine rs8 ?_;refine Z6 ?_
      have hw1:w≠0:=by omega
      have hcb:can.testBit x.length=true:=by assumption
      have hgg:(if w=0∨can.testBit x.length=false then [] else genM (cdT b) can must d1 (w-1) (x++[none]))=genM (cdT b) can must d1 (w-1) (x++[none]):=if_neg (by rw [hcb];simp;exact hw1)
      have hrec:=ih d1 zO (w-1) (x++[none]) (dn++pre) (X++[⟨true,q8,.cells (boL (x++[none])).toArray 136 (0,0)⟩]) _ zN zO (fun y hy=>hok y (by
       rw [hgp,hgg];exact List.mem_append_right _ hy)) (by
       rw [hgp,hgg,List.length_append] at hdn
       rw [List.length_append];omega) hRp
      rw [show (((x++[none]:Bo).length:Nat):Int)=(x.length:Int)+1 by simp,show ((w-1:Nat):Int)=(w:Int)-1 by omega,←List.append_assoc (h0++_) X] at hrec
      have hcv2:=CallV.fn' (first:= #[]) (args:=[boV (x++[none]),.int .i64 ((x.length:Int)+1),.int .i64 ((w:Int)-1)]) (cap:=[Value.pointer (some ⟨qx,0,none⟩),Value.pointer (some ⟨qy,0,none⟩),Value.pointer (some ⟨qm,0,none⟩),Value.pointer (some ⟨qn,0,none⟩),Value.pointer (some ⟨qc,0,none⟩)].toArray) jgF zS hrec
      refine jfO rfl zq hcv2 ?_;clear hcv2 hrec
      rintro v h' ⟨R2,rfl,hh⟩;refine D220 ?_;refine D26 ?_;refine D5 ?_
      exact ⟨R2,rfl,by rw [hgp,hgg,←List.append_assoc];exact hh⟩
     ·refine D9 ?_;refine jea rfl rfl ?_;refine D10 ?_;refine D166 ?_;refine D42 ?_;refine D5 ?_
      exact E46
theorem jei {B:Array Obj} {h' F1 H L:Hp} [a:Off h' L F1] [s:SubH H F1]:Weak B h' (H++L):=(Weak.perm a.perm).trans ((Weak.sub s.sub).apps L)
theorem weak_beg {B:Array Obj} (F nw:Hp) (a b c d:Chunk):Weak B ((F++[a,b])++c::(nw++[d])) (F++[a,b,c,d]++nw):=Weak.perm (by
 rw [List.append_assoc,List.append_assoc];refine List.Perm.append_left F ?_
 show (a::b::c::(nw++[d])).Perm (a::b::c::d::nw)
 exact .cons _ (.cons _ (.cons _ (List.perm_append_comm (l₁:=nw) (l₂:=[d])))))
theorem weak179 {B:Array Obj} (h0 R:Hp) (y n:Chunk):Weak B ((h0++R)++[y,n]) (((h0++[y,n])++[])++R):=Weak.perm (by
 rw [List.append_nil,List.append_assoc,List.append_assoc];exact List.Perm.append_left h0 List.perm_append_comm)
theorem negs_smu (s:Str):negs (jar s)=smuF s:=by
 rw [negs,smuF];refine List.countP_congr fun x hx=>?_
 obtain ⟨j,hj,rfl⟩:=List.mem_iff_getElem.1 hx
 have:=(jaW s).lo j
 rw [List.getD_eq_getElem?_getD,List.getElem?_eq_getElem hj] at this
 simp only [Option.getD_some] at this
 simp only [decide_eq_true_eq]
 omega
theorem smuF_nil:smuF []=0:=by decide
theorem smu_line {l:Ln} {n:Nat} (h:l.figs.length≤n):((List.range n).map fun j=>smuF (l.figs.getD j [])).sum=smuN l:=by
 rw [smuN,←jhT (l.figs.map smuF) n (by simpa using h)];congr 1
 refine List.map_congr_left fun j _=>?_
 simp only [List.getD_eq_getElem?_getD,List.getElem?_map]
 cases l.figs[j]? with
 |none=>simp [smuF_nil]
 |some f=>rfl
theorem jjI:smuN default=0:=by decide
theorem jnM {ls:List Ln} (h:ls.length≤2):smuN (ls.getD 0 default)+smuN (ls.getD 1 default)=smuL ls:=by
 match ls,h with
 |[],_=>decide
 |[a],_=>simp [smuL,jjI]
 |[a,c],_=>simp [smuL]
theorem jnO {b:Tb} (k:TbOk b):((jab b).map fun c=>smuF (figT b c)).sum≤2:=by
 have h1:((jab b).map fun c=>smuF (figT b c)).sum≤((jcR b.sts.length).map fun c=>smuF (figT b c)).sum:=by
  rw [jby];exact je1 _ _ _
 have row: ∀(bt:Bool) (i:Nat),((rowP b.sts.length bt i).map fun c=>smuF (figT b c)).sum=smuN ((jay b bt).getD i default):=by
  intro bt i
  have hl:((jay b bt).getD i default).figs.length≤b.sts.length:=by
   by_cases hi:i<(jay b bt).length
   ·rw [((k.lines bt).ok _ (jak hi)).len];exact Nat.le_refl _
   ·rw [List.getD_eq_getElem?_getD,List.getElem?_eq_none zO];exact Nat.zero_le _
  rw [←smu_line hl,rowP,List.map_map];congr 1
 have h2:((jcR b.sts.length).map fun c=>smuF (figT b c)).sum=smuL b.waters+smuL b.butts:=by
  rw [jcR];simp only [List.map_append,List.sum_append,row]
  rw [show jay b false=b.waters from rfl,show jay b true=b.butts from rfl,jnM k.waters.two,jnM k.butts.two]
 have:=k.smu
 omega
theorem meaS_12 (s:Str):(meaS s).length≤12^smuF s:=by
 rw [meaS];split
 ·rw [←negs_smu];exact meaP_12 (jaW s).len
 ·exact Nat.zero_le _
theorem prod_144 {b:Tb} (k:TbOk b):jew (cdT b)≤144:=by
 have gen: ∀l:List Ce,jew (l.map (cdOf b))≤12^(l.map fun c=>smuF (figT b c)).sum:=by
  intro l
  induction l with
  |nil=>simp [jew]
  |cons c l ih=>
   rw [List.map_cons,jew,List.map_cons,List.sum_cons,Nat.pow_add];refine Nat.mul_le_mul ?_ ih
   have h1:=meaS_12 (figT b c)
   have h2:1≤12^smuF (figT b c):=Nat.pow_pos zO
   show max 1 (meaS (figT b c)).length≤_
   omega
 refine Nat.le_trans (gen _) ?_
 have:=Nat.pow_le_pow_right (show 0<12 by omega) (jnO k)
 exact this
theorem jbL {b:Tb} (k:TbOk b):(jaf b).length≤12000:=by
 have h1:=jfW (cdT b) b.wrong.toNat
 have h2:=prod_144 k
 have h3:subN (cdT b).length b.wrong.toNat≤subN 12 2:=jd0 (by rw [jaB];exact jbj k) (by have:=k.wrong;omega)
 have h4:subN 12 2=79:=by decide
 have h5:=Nat.mul_le_mul (Nat.le_trans h3 (Nat.le_of_eq h4)) h2
 rw [jaf];omega
instance {a:List Value}:AppL a [] a:=⟨List.append_nil a⟩
theorem jpl {x:Bo}:encs [x]=boL x:=by simp [encs,Enc.enc]
abbrev B4 (q qx qw qc qm w can must:Nat):Hp:=[⟨true,qx,.cells [.pointer (some ⟨q,0,none⟩)].toArray 109 (0,0)⟩,⟨true,qw,.cells [.int .i64 (w:Int)].toArray 3 (0,0)⟩,⟨true,qc,.cells [.int .u64 (can:Int)].toArray 134 (0,0)⟩,⟨true,qm,.cells [.int .u64 (must:Int)].toArray 134 (0,0)⟩]
theorem B4.x {B:Array Obj} {h:Hp} {q qx qw qc qm w can must:Nat}:Rd B (h++B4 q qx qw qc qm w can must) ⟨qx,0,none⟩ (.pointer (some ⟨q,0,none⟩)):=Rd.held (c:=[.pointer (some ⟨q,0,none⟩)].toArray) (t:=109) (f:=(0,0)) (rw:=true) (List.mem_append_right _ List.mem_cons_self) rfl
theorem B4.w {B:Array Obj} {h:Hp} {q qx qw qc qm w can must:Nat}:Rd B (h++B4 q qx qw qc qm w can must) ⟨qw,0,none⟩ (.int .i64 (w:Int)):=Rd.held (c:=[.int .i64 (w:Int)].toArray) (t:=3) (f:=(0,0)) (rw:=true) (List.mem_append_right _ (List.mem_cons_of_mem _ List.mem_cons_self)) rfl
theorem B4.c {B:Array Obj} {h:Hp} {q qx qw qc qm w can must:Nat}:Rd B (h++B4 q qx qw qc qm w can must) ⟨qc,0,none⟩ (.int .u64 (can:Int)):=Rd.held (c:=[.int .u64 (can:Int)].toArray) (t:=134) (f:=(0,0)) (rw:=true) (List.mem_append_right _ (List.mem_cons_of_mem _ (List.mem_cons_of_mem _ List.mem_cons_self))) rfl
theorem B4.m {B:Array Obj} {h:Hp} {q qx qw qc qm w can must:Nat}:Rd B (h++B4 q qx qw qc qm w can must) ⟨qm,0,none⟩ (.int .u64 (must:Int)):=Rd.held (c:=[.int .u64 (must:Int)].toArray) (t:=134) (f:=(0,0)) (rw:=true) (List.mem_append_right _ (List.mem_cons_of_mem _ (List.mem_cons_of_mem _ (List.mem_cons_of_mem _ List.mem_cons_self)))) rfl
theorem f148_c (m:Md Tryz.prog B) (h:Hp) {q w can must:Nat}:FnC m 148 #[.pointer (some ⟨q,0,none⟩),.int .i64 (w:Int),.int .u64 (can:Int),.int .u64 (must:Int)] h fun v h'=> ∃qx qw qc qm,h'=h++B4 q qx qw qc qm w can must∧v= .func (.func 179) #[] [.pointer (some ⟨qx,0,none⟩),.pointer (some ⟨qm,0,none⟩),.pointer (some ⟨qc,0,none⟩),.pointer (some ⟨qw,0,none⟩)].toArray:=by
 refine jae Tryz.func148 rfl rfl (l:=(.pointer (some ⟨q,0,none⟩))::(.int .i64 (w:Int))::(.int .u64 (can:Int))::(.int .u64 (must:Int))::uu6) rfl ?_
 intro cf cs K hK
 refine rs5 ?_;refine jaQ rfl zq (fun qx=>k_hp (jad ?_));refine jaQ rfl zq (fun qw=>k_hp (jad ?_));refine jaQ rfl zq (fun qc=>k_hp (jad ?_));refine jaQ rfl zq (fun qm=>k_hp (jad ?_));refine D0 ?_;refine rs2 ?_;refine jgq rfl zq ?_;refine D146 ?_;refine jac (h++B4 q qx qw qc qm w can must) rfl Tryz.func148 rfl jaa ?_;refine D5 ?_
 exact ⟨qx,qw,qc,qm,rfl,rfl⟩
theorem f179_c (m:Md Tryz.prog B) {h0:Hp} {b:Tb} {q:Nat} {tv:List Value} (sh:Sheet B h0 b q tv) {qx qm qc:Nat} (rx:Rd B h0 ⟨qx,0,none⟩ (.pointer (some ⟨q,0,none⟩))) {must can:Nat} (rm:Rd B h0 ⟨qm,0,none⟩ (.int .u64 (must:Int))) (rc:Rd B h0 ⟨qc,0,none⟩ (.int .u64 (can:Int))) (hmu:must<4096) (hca:can<4096) {qw w:Nat} (rw:Rd B h0 ⟨qw,0,none⟩ (.int .i64 (w:Int))) (hw:w≤100) {yv:Value} [CellsV yv [yv]] {G:List Bo} {N:Nat} {YI:List Bo→Hp→Prop} {YS:Hp→Prop} (hY:EachO m h0 G N yv YI YS) (hG:G=genM (cdT b) can must (jab b).length w []) (hN:G.length≤N) {R:Hp} (hR:YI [] R):
  FnC m 179 #[yv,.pointer (some ⟨qx,0,none⟩),.pointer (some ⟨qm,0,none⟩),.pointer (some ⟨qc,0,none⟩),.pointer (some ⟨qw,0,none⟩)] (h0++R) fun v h'=>v= .tuple [].toArray∧ ∃R',h'=h0++R'∧(YI G R'∨YS R'):=by
 refine jae Tryz.func179 rfl rfl (l:=yv::(.pointer (some ⟨qx,0,none⟩))::(.pointer (some ⟨qm,0,none⟩))::(.pointer (some ⟨qc,0,none⟩))::(.pointer (some ⟨qw,0,none⟩))::uu7) rfl ?_
 intro cf cs K hK
 refine rs1 ?_;refine jaQ rfl zq (fun qy=>k_hp (jad ?_));refine D1 ?_;refine rs1 ?_
 refine jau rfl zq (fun qn=>k_hp (jad ?_));refine D1 ?_;refine rs2 ?_;refine jgq rfl zq ?_;refine D181 ?_;refine rr4 ?_;refine Zs ?_;refine D58 ?_;refine k_ld rfl zq (rw.keeps SubH.sub) ?_;refine jka (weak179 h0 R _ _) ?_
 have hw2:=f180_c m sh rx rm rc hmu hca hY qy qn (jab b).length w [] [] [] R zS hw (fun y hy=>hG▸hy) (by rw [←hG];simpa using hN) hR
 rw [←hG,List.nil_append] at hw2
 have hcv:=CallV.fn' (first:= #[]) (args:=[boV [],.int .i64 0,.int .i64 (w:Int)]) (cap:=[Value.pointer (some ⟨qx,0,none⟩),Value.pointer (some ⟨qy,0,none⟩),Value.pointer (some ⟨qm,0,none⟩),Value.pointer (some ⟨qn,0,none⟩),Value.pointer (some ⟨qc,0,none⟩)].toArray) jgF zS hw2
 refine jfO rfl zq hcv ?_;clear hcv hw2
 rintro v h' ⟨R2,rfl,hh⟩;refine D9 ?_;refine D1 ?_;refine jdx rfl ?_;refine jac (h0++R2) rfl Tryz.func179 rfl jaa ?_;refine D5 ?_
 exact ⟨rfl,R2,rfl,hh.elim (fun h=> .inl h.2) (fun h=> .inr h.2)⟩
theorem f96_c (m:Md Tryz.prog B) (h:Hp) {b:Tb} {q:Nat} {a1 a2 a3:Value} (sh:Sheet B h b q [.int .i64 b.wrong,a1,a2,a3]) (hk:TbOk b):FnC m 96 #[.pointer (some ⟨q,0,none⟩)] h fun v h'=> ∃nw,h'=h++nw∧OwnS 136 13 v (jaf b).length (encs (jaf b)) nw:=by
 have hwr:=hk.wrong
 refine jae Tryz.func96 rfl rfl (l:=(.pointer (some ⟨q,0,none⟩))::uu19) rfl ?_
 intro cf cs K hK
 refine D162 ?_;refine rs1 ?_
 refine jau rfl zq (fun q3=>k_hp (jad ?_));refine D151 ?_;refine D2 ?_;refine jaq [(0,.pure),(1,.pure),(2,.pure),(3,.pure),(4,.pure),(5,.pure),(6,.read),(7,.keep),(8,.keep)] zK zK (List.Sublist.refl _) ?_;refine Z2 ?_
 refine jal rfl zq ?_;refine Z3 ?_;refine k_ld rfl zq ((sh.tb 0 zS).keeps SubH.sub) ?_;refine jaj (Post:=fun v=>v=_) rfl zq zK (fun H' hH=>f106_c m H' 12 zO) ?_
 rintro v rfl;refine D9 ?_
 refine jaS (Post:=fun v nw=> ∃qx qw qc qm,nw=B4 q qx qw qc qm b.wrong.toNat 4095 0∧v= .func (.func 179) #[] [.pointer (some ⟨qx,0,none⟩),.pointer (some ⟨qm,0,none⟩),.pointer (some ⟨qc,0,none⟩),.pointer (some ⟨qw,0,none⟩)].toArray) rfl zq zK (fun H' hH=>by
  have h1:=f148_c m H' (q:=q) (w:=b.wrong.toNat) (can:=4095) (must:=0)
  rw [show ((b.wrong.toNat:Nat):Int)=b.wrong by omega] at h1
  exact CallF.mono h1 fun v h' ⟨qx,qw,qc,qm,e1,e2⟩=>⟨_,e1,qx,qw,qc,qm,rfl,e2⟩) ?_
 rintro v _ ⟨qx,qw,qc,qm,rfl,rfl⟩;refine D9 ?_;refine jka (Weak.mid h [⟨true,q3,.cells [.slice none 0 0].toArray 110 (0,0)⟩] (B4 q qx qw qc qm b.wrong.toNat 4095 0)) ?_;refine D182 ?_
 refine jid rfl rfl zK (fun q11 q12=>?_);generalize hrec:lrec _ _ _ _ _ _ LoopState.ready=rec0
 have hY:EachO m (h++B4 q qx qw qc qm b.wrong.toNat 4095 0) (jaf b) 12000 (.func (.yield q12) #[] #[]) (fun dn R=> ∃bp bc nw,R=[⟨true,q3,.cells [.slice bp dn.length bc].toArray 110 (0,0)⟩,⟨true,q11,.deferred (some [])⟩,⟨true,q12,rec0⟩]++nw∧OwnS 136 13 (.slice bp dn.length bc) dn.length (encs dn) nw) (fun _=>False):=?hY
 rotate_left
 intro F R dn x hF hx hdn hR
 obtain ⟨bp,bc,nw,rfl,ho⟩:=hR
 subst hrec
 haveI hsF:SubH (h++B4 q qx qw qc qm b.wrong.toNat 4095 0) F:=⟨hF⟩
 refine CallV.yield (rw:=true) (q1:=q11) (st:= .ready) (List.mem_append_right _ (List.mem_append_left _ (List.mem_cons_of_mem _ (List.mem_cons_of_mem _ List.mem_cons_self)))) rfl (by simp;rfl) ?_
 intro cf2 cs2 K2 hK2
 ·refine rr2 ?_;refine jau rfl zq (fun q14=>k_hp (jad ?_));refine jkb rfl zq (jaC x) ?_;refine D1 ?_;apply jeD (F:=F++[⟨true,q3,.cells [.slice bp dn.length bc].toArray 110 (0,0)⟩,⟨true,q11,.deferred (some [])⟩]) (E:=nw++[⟨true,q14,.cells (boL x).toArray 136 (0,0)⟩])
  case hh=>
   simp only [List.append_assoc,List.cons_append,List.nil_append]
   rfl
  generalize hbz:lrec _ _ _ _ _ _ LoopState.busy=rec1
  refine m.weak (h':=F++[⟨true,q3,.cells [.slice bp dn.length bc].toArray 110 (0,0)⟩,⟨true,q11,.deferred (some [])⟩,⟨true,q12,rec1⟩,⟨true,q14,.cells (boL x).toArray 136 (0,0)⟩]++nw) (weak_beg _ _ _ _ _ _) ?_;refine D11 ?_;refine rr5 ?_;refine Z2 ?_
  refine k_bs kdq rfl zq zA zA rfl (fun q17=>k_hp (jad ?_));refine ja3 rfl zq (jaC x) ho kdq zO zO (fun w9 n9 o9=>jad ?_);obtain ⟨p9,c9,rfl,hc9,r9⟩:=jap (B:=B) o9
  have e1:dn.length+1=(dn++[x]).length:=by simp
  have e2:encs dn++boL x=encs (dn++[x]):=by rw [jav,jpl]
  have ho2:=o9
  rw [e2,e1] at ho2
  rw [e1];refine D181 ?_;refine D12 ?_;refine m.weak (h':=F++[⟨true,q3,.cells [.slice p9 (dn++[x]).length c9].toArray 110 (0,0)⟩,⟨true,q11,.deferred (some [])⟩,⟨true,q12,rec1⟩]++n9) jei ?_
  subst hbz
  apply jjT (F:=F++[⟨true,q3,.cells [.slice p9 (dn++[x]).length c9].toArray 110 (0,0)⟩,⟨true,q11,.deferred (some [])⟩]) (E:=n9)
  case hh=>
   simp only [List.append_assoc,List.cons_append,List.nil_append]
   rfl
  rw [show F++[⟨true,q3,.cells [.slice p9 (dn++[x]).length c9].toArray 110 (0,0)⟩,⟨true,q11,.deferred (some [])⟩]++(_::n9)=F++([⟨true,q3,.cells [.slice p9 (dn++[x]).length c9].toArray 110 (0,0)⟩,⟨true,q11,.deferred (some [])⟩,_]++n9) by simp;rfl];exact hK2 _ _ ⟨_,rfl,.inl ⟨rfl,_,_,n9,rfl,ho2⟩⟩
 ·have hl:=f179_c m (sh.keeps (List.sublist_append_left _ _)) B4.x B4.m B4.c zO zO B4.w (by have:=hk.wrong;omega) hY (by rw [jaf,←jaB];exact (genM_all fun i hi=>by
   have:=jbj hk
   rw [jaB] at hi
   rw [show 4095=2^12-1 by rfl,Nat.testBit_two_pow_sub_one];exact decide_eq_true zO).symm) (jbL hk) (R:=[⟨true,q3,.cells [.slice none 0 0].toArray 110 (0,0)⟩,⟨true,q11,.deferred (some [])⟩,⟨true,q12,rec0⟩]) ⟨none,0,[],by simp,OwnS.nil⟩
  rw [show (h++B4 q qx qw qc qm b.wrong.toNat 4095 0)++[⟨true,q3,.cells [.slice none 0 0].toArray 110 (0,0)⟩,⟨true,q11,.deferred (some [])⟩,⟨true,q12,rec0⟩]=(h++B4 q qx qw qc qm b.wrong.toNat 4095 0)++[⟨true,q3,.cells [.slice none 0 0].toArray 110 (0,0)⟩]++[⟨true,q11,.deferred (some [])⟩,⟨true,q12,rec0⟩] by simp] at hl
  refine CallF.mono hl ?_
  rintro v h' ⟨rfl,R',rfl,(⟨bp,bc,nw,rfl,ho⟩|hF)⟩;case inr=>exact hF.elim
  subst hrec
  apply jf6 (F:=(h++B4 q qx qw qc qm b.wrong.toNat 4095 0)++[⟨true,q3,.cells [.slice bp (jaf b).length bc].toArray 110 (0,0)⟩,⟨true,q11,.deferred (some [])⟩]) (E:=nw)
  case hh=>
   simp only [List.append_assoc,List.cons_append,List.nil_append]
   rfl
  case hst=>exact .inl rfl
  refine D12 ?_;refine D167 ?_;refine jdy (F:=(h++B4 q qx qw qc qm b.wrong.toNat 4095 0)++[⟨true,q3,.cells [.slice bp (jaf b).length bc].toArray 110 (0,0)⟩]) (E:=nw) zS ?_;refine jac (h++nw) rfl Tryz.func96 rfl jaa ?_;refine D5 ?_
  exact ⟨nw,rfl,ho⟩
theorem f104_c (m:Md Tryz.prog B) (h:Hp) {b:Tb} {q:Nat} {tv:List Value} (sh:Sheet B h b q tv) {s:Nat} (hs:s<4096):FnC m 104 #[.pointer (some ⟨q,0,none⟩),.int .u64 (s:Int)] h fun v h'=>h'=h∧IsB (patA (cdT b) (patN s (jab b).length)≠[]) v:=by
 refine jae Tryz.func104 rfl rfl (l:=(.pointer (some ⟨q,0,none⟩))::(.int .u64 (s:Int))::uu8) rfl ?_
 intro cf cs K hK
 refine rs1 ?_;refine jau rfl zq (fun q4=>k_hp (jad ?_));refine D151 ?_;refine D196 ?_;refine jcG (Post:=fun v h'=> ∃qx qw qc qm,h'=h++[⟨true,q4,.cells [.bool false].toArray 4 (0,0)⟩]++B4 q qx qw qc qm 12 s s∧v= .func (.func 179) #[] [.pointer (some ⟨qx,0,none⟩),.pointer (some ⟨qm,0,none⟩),.pointer (some ⟨qc,0,none⟩),.pointer (some ⟨qw,0,none⟩)].toArray) rfl zq zK (f148_c m _ (q:=q) (w:=12) (can:=s) (must:=s)) ?_
 rintro v _ ⟨qx,qw,qc,qm,rfl,rfl⟩;refine D9 ?_;refine jka (Weak.mid h [⟨true,q4,.cells [.bool false].toArray 4 (0,0)⟩] (B4 q qx qw qc qm 12 s s)) ?_;refine D182 ?_
 refine jid rfl rfl zK (fun q11 q12=>?_);generalize hrec:lrec _ _ _ _ _ _ LoopState.ready=rec0
 obtain ⟨GS,hGS⟩: ∃GS,GS=genM (cdT b) s s (jab b).length 12 []:=⟨_,rfl⟩
 have hY:EachO m (h++B4 q qx qw qc qm 12 s s) GS (GS.length+1) (.func (.yield q12) #[] #[]) (fun dn R=>dn=[]∧R=[⟨true,q4,.cells [.bool false].toArray 4 (0,0)⟩,⟨true,q11,.deferred (some [])⟩,⟨true,q12,rec0⟩]) (fun R=>GS≠[]∧ ∃fn9 l9 ps9 a9 c9,R=[⟨true,q4,.cells [.bool true].toArray 4 (0,0)⟩,⟨true,q11,.deferred (some [])⟩,⟨true,q12,jm7 fn9 l9 ps9 a9 c9 q11⟩]):=?hY
 rotate_left
 intro F R dn x hF hx hdn hR
 obtain ⟨rfl,rfl⟩:=hR
 subst hrec
 haveI hsF:SubH (h++B4 q qx qw qc qm 12 s s) F:=⟨hF⟩
 refine CallV.yield (rw:=true) (q1:=q11) (st:= .ready) (List.mem_append_right _ (List.mem_cons_of_mem _ (List.mem_cons_of_mem _ List.mem_cons_self))) rfl (by simp;rfl) ?_
 intro cf2 cs2 K2 hK2
 ·refine D7 ?_
  apply jeD (F:=F++[⟨true,q4,.cells [.bool false].toArray 4 (0,0)⟩,⟨true,q11,.deferred (some [])⟩]) (E:=[])
  case hh=>
   simp only [List.append_assoc,List.cons_append,List.nil_append]
   rfl
  generalize hbz:lrec _ _ _ _ _ _ LoopState.busy=rec1
  refine D11 ?_;refine rs1 ?_;refine D181 ?_
  subst hbz
  apply jjR (F:=F++[⟨true,q4,.cells [.bool true].toArray 4 (0,0)⟩,⟨true,q11,.deferred (some [])⟩]) (E:=[])
  case hh=>
   simp only [List.append_assoc,List.cons_append,List.nil_append]
   rfl
  rw [List.append_assoc];exact hK2 _ _ ⟨_,rfl,.inr ⟨rfl,(fun e=>by rw [e] at hx;cases hx),_,_,_,_,_,rfl⟩⟩
 ·have hl:=f179_c m (sh.keeps (List.sublist_append_left _ _)) B4.x B4.m B4.c hs hs B4.w zO hY hGS zO (R:=[⟨true,q4,.cells [.bool false].toArray 4 (0,0)⟩,⟨true,q11,.deferred (some [])⟩,⟨true,q12,rec0⟩]) ⟨rfl,rfl⟩
  rw [show (h++B4 q qx qw qc qm 12 s s)++[⟨true,q4,.cells [.bool false].toArray 4 (0,0)⟩,⟨true,q11,.deferred (some [])⟩,⟨true,q12,rec0⟩]=(h++B4 q qx qw qc qm 12 s s)++[⟨true,q4,.cells [.bool false].toArray 4 (0,0)⟩]++[⟨true,q11,.deferred (some [])⟩,⟨true,q12,rec0⟩] by simp] at hl
  have hG2:GS=patA (cdT b) (patN s (jab b).length):=by
   rw [hGS,←jaB];exact jo4 (by rw [jaB];exact sh.twelve)
  refine CallF.mono hl ?_
  rintro v h' ⟨rfl,R',rfl,(⟨hbo,rfl⟩|⟨hbo,fn9,l9,ps9,a9,c9,rfl⟩)⟩
  ·subst hrec
   apply jf6 (F:=(h++B4 q qx qw qc qm 12 s s)++[⟨true,q4,.cells [.bool false].toArray 4 (0,0)⟩,⟨true,q11,.deferred (some [])⟩]) (E:=[])
   case hh=>
    simp only [List.append_assoc,List.cons_append,List.nil_append]
    rfl
   case hst=>exact .inl rfl
   refine D12 ?_;refine rs1 ?_;refine D181 ?_;refine D4 ?_;refine jdy (F:=(h++B4 q qx qw qc qm 12 s s)++[⟨true,q4,.cells [.bool false].toArray 4 (0,0)⟩]) (E:=[]) zS ?_;refine jac (h) rfl Tryz.func104 rfl jaa ?_;refine D5 ?_
   first|exact ⟨rfl,IsB.yes (hG2▸hbo)⟩|exact ⟨rfl,IsB.no fun e=>e (hG2▸hbo)⟩
  ·apply jiT (F:=(h++B4 q qx qw qc qm 12 s s)++[⟨true,q4,.cells [.bool true].toArray 4 (0,0)⟩,⟨true,q11,.deferred (some [])⟩]) (E:=[])
   case hh=>
    simp only [List.append_assoc,List.cons_append,List.nil_append]
    rfl
   refine D4 ?_;refine jdy (F:=(h++B4 q qx qw qc qm 12 s s)++[⟨true,q4,.cells [.bool true].toArray 4 (0,0)⟩]) (E:=[]) zS ?_;refine jac (h) rfl Tryz.func104 rfl jaa ?_;refine D5 ?_
   first|exact ⟨rfl,IsB.yes (hG2▸hbo)⟩|exact ⟨rfl,IsB.no fun e=>e (hG2▸hbo)⟩
structure RawTb (B:Array Obj) (h:Hp) (b:Tb) (ps:Option Addr) (ns ks:Nat) (pw:Option Addr) (nw cw:Nat) (pb:Option Addr) (nb cb:Nat):Prop where
 s:RdS B h 1 (.slice ps ns ks) ns (encs b.sts)
 sc:ns≤ks
 sn:ns≤1000
 w:RdLn B h (.slice pw nw cw) nw b.waters
 wn:nw≤1000
 u:RdLn B h (.slice pb nb cb) nb b.butts
 un:nb≤1000
 sm:TbSm b
section
variable {h H:Hp} {b:Tb} {ps:Option Addr} {ns ks:Nat} {pw:Option Addr} {nw cw:Nat} {pb:Option Addr} {nb cb:Nat}
theorem RawTb.keeps (r:RawTb B h b ps ns ks pw nw cw pb nb cb) (s:h.Sublist H):RawTb B H b ps ns ks pw nw cw pb nb cb:=
 ⟨r.s.keeps s,r.sc,r.sn,r.w.keeps s,r.wn,r.u.keeps s,r.un,r.sm⟩
theorem RawTb.rd (r:RawTb B h b ps ns ks pw nw cw pb nb cb) (k:TbOk b):RdTb B h b ps ns ks pw nw cw pb nb cb:=rdTb_of r.s r.sc r.w r.u r.sm k
theorem f65_r (m:Md Tryz.prog B) (h:Hp) (r:RawTb B h b ps ns ks pw nw cw pb nb cb):FnC m 65 #[tbV b ps ns ks pw nw cw pb nb cb] h fun v h'=>h'=h∧v= .int .i64 (tbS b):=f65_c m h r.s r.sc r.sn r.sm.sts r.w r.wn r.u r.un r.sm
theorem f95_r (m:Md Tryz.prog B) (h:Hp) (r:RawTb B h b ps ns ks pw nw cw pb nb cb) (k:TbOk b):FnC m 95 #[tbV b ps ns ks pw nw cw pb nb cb] h fun v h'=> ∃new,h'=h++new∧ ∃q,v= .pointer (some ⟨q,0,none⟩)∧Sheet B new b q (tbL b ps ns ks pw nw cw pb nb cb):=
 CallF.mono (f95_c m h (r.rd k)) fun v h' ⟨new,q,e1,e2,e3⟩=>⟨new,e1,q,e2,e3⟩
end
theorem jgM {xs:List Int} (hs:jkL xs 0 xs.length): ∀t,t≤xs.length→Asc (jcq xs t)∧(∀z∈jcq xs t,∃i,i<t∧z=xs.getD i 0)
 |0,_=>⟨List.Pairwise.nil,by simp [jcq]⟩
 |t+1,h=>by
  obtain ⟨h1,h2⟩:=jgM hs t zO
  rw [jcq];by_cases e:t=0∨xs.getD t 0≠xs.getD (t-1) 0
  ·rw [if_pos e];refine ⟨?_,fun z hz=>?_⟩
   ·unfold Asc at h1⊢
    rw [List.pairwise_append];refine ⟨h1,by simp,fun x hx y hy=>?_⟩
    simp only [List.mem_singleton] at hy
    subst hy
    obtain ⟨i,hi,rfl⟩:=h2 x hx
    have e1:xs.getD i 0≤xs.getD (t-1) 0:=by
     by_cases e2:i=t-1
     ·subst e2
      exact Int.le_refl _
     ·exact hs i (t-1) zO zO zO
    have e3:xs.getD (t-1) 0≤xs.getD t 0:=hs (t-1) t zO zO zO
    rcases e with e|e
    ·omega
    ·omega
   ·rcases List.mem_append.1 hz with hz|hz
    ·obtain ⟨i,hi,e⟩:=h2 z hz
     exact ⟨i,by omega,e⟩
    ·simp only [List.mem_singleton] at hz
     exact ⟨t,by omega,hz⟩
  ·rw [if_neg e,List.append_nil];exact ⟨h1,fun z hz=>by obtain ⟨i,hi,e⟩:=h2 z hz;exact ⟨i,by omega,e⟩⟩
theorem jgL {xs:List Int}: ∀t i,i<t→xs.getD i 0∈jcq xs t
 |0,i,h=>by omega
 |t+1,i,h=>by
  rw [jcq,List.mem_append];rcases Nat.lt_or_ge i t with h1|h1
  ·exact .inl (jgL t i h1)
  ·obtain rfl:i=t:=by omega
   by_cases e:i=0∨xs.getD i 0≠xs.getD (i-1) 0
   ·rw [if_pos e];exact .inr zS
   ·have h0:i≠0:=fun x=>e (.inl x)
    have e2:xs.getD i 0=xs.getD (i-1) 0:=Classical.byContradiction fun x=>e (.inr x)
    rw [e2];exact .inl (jgL i (i-1) zO)
theorem rd_has {B:Array Obj} {h:Hp} {q t:Nat} {rw:Bool} {f:Nat×Nat} {v:Value} [x:Has h q rw (.cells [v].toArray t f)]:Rd B h ⟨q,0,none⟩ v:=Rd.held x.mem rfl
theorem jok {v:Value} {n:Nat} {xs:List Int} {new:Hp} (o:OwnS 3 1 v n (ints xs) new) (h:0<n): ∃b c junk,v= .slice (some ⟨b,0,none⟩) n c∧new=[blkC b xs junk]∧xs.length=n∧n+junk.length=c:=by
 unfold blkC
 generalize hg:ints xs=ys at o⊢
 have hy:ys.length=xs.length:=by rw [←hg];simp
 cases o with
 |nil=>omega
 |blk hl hc hn=>exact ⟨_,_,_,rfl,rfl,by omega,by omega⟩
theorem jos {xs:List Int} {z:Int} (hs:jkL xs 0 xs.length):z∈jcq xs xs.length↔z∈xs:=by
 constructor
 ·intro h
  obtain ⟨i,hi,rfl⟩:=(jgM hs _ (Nat.le_refl _)).2 z h
  exact jfd.2 ⟨i,hi,rfl⟩
 ·intro h
  obtain ⟨i,hi,rfl⟩:=jfd.1 h
  exact jgL _ i hi
theorem jms: ∀{xs ys:List Int},Asc xs→Asc ys→(∀z,z∈xs↔z∈ys)→xs=ys:=fun hx hy h=>List.Perm.eq_of_pairwise (fun a b _ _ h1 h2=>by omega) hx hy ((List.perm_ext_iff_of_nodup (jhP hx) (jhP hy)).2 h)
theorem jlR {α:Type}: ∀{l:List α} {n:Nat},l.length=n→jaX (List.replicate n true) l=l
 |[],_,h=>by subst h;rfl
 |a::l,n,h=>by
  obtain ⟨k,rfl⟩: ∃k,n=k+1:=⟨n-1,by simp at h;omega⟩
  rw [List.replicate_succ,jaX,jlR (by simpa using h)]
theorem jof (n:Nat):patN 0 n=(List.replicate n true).map (!·):=by
 rw [patN];refine List.ext_getElem zS fun i h1 h2=>by simp
theorem pat_none {b:Tb}:patA (cdT b) (patN 0 (jab b).length)≠[]↔jb7 (cdT b)=true:=by
 have:=jeo (D:=cdT b) (p:=List.replicate (jab b).length true) (by simp [jaB])
 rw [jof,this,jlR (jaB b)]
def jf2 (B:Array Obj) (b:Tb) (tv:List Value) (s:Int) (nw:Hp) (v:Value):Prop:= ∃qp p n c,v= .tuple [.agg [.pointer qp,.slice p n c].toArray,.int .i64 s].toArray∧
 (s=0→ ∃q,qp=some ⟨q,0,none⟩∧Sheet B nw b q tv∧n=(jaf b).length∧n≤c∧RdS B nw 13 (.slice p n c) n (encs (jaf b)))
theorem jfJ {b:Tb} {tv:List Value} {s:Int} (h:s≠0):jf2 B b tv s [] (.tuple [.agg [.pointer none,.slice none 0 0].toArray,.int .i64 s].toArray):=⟨none,none,0,0,rfl,fun e=>absurd e h⟩
def plN (b:Tb) (c:Ce):Nat:=(jab b).findIdx fun x=>decide (x=c)
theorem jlP {b:Tb} {c:Ce}:plN b c<(jab b).length↔c∈jab b:=by
 rw [plN,List.findIdx_lt_length];simp
theorem jg6 {b:Tb} {c:Ce} (h:c∈jab b):jcA (jab b) c=some (plN b c:Int):=by
 have hh:(jab b).findIdx (fun x=>decide (x=c))<(jab b).length:=jlP.2 h
 rw [jcA,jfo,if_pos hh,Nat.zero_add];rfl
theorem jmV {b:Tb} {c:Ce} (h:c∉jab b):jcA (jab b) c=none:=by
 have hh: ¬(jab b).findIdx (fun x=>decide (x=c))<(jab b).length:=fun e=>h (jlP.1 e)
 rw [jcA,jfo,if_neg hh];rfl
theorem f181_z (m:Md Tryz.prog B) (h:Hp):FnC m 181 #[.slice none 0 0,.int .i64 0,.int .i64 0] h fun v h'=>h'=h:=by
 refine jae Tryz.func181 rfl rfl (l:=(.slice none 0 0)::(.int .i64 0)::(.int .i64 0)::uu46) rfl ?_
 intro cf cs K hK
 refine rs3 ?_;refine D163 ?_;refine D11 ?_;refine jai (fun nn l h'=>nn=0∧(True)∧(∃U:Nat→Value,l=((.slice none 0 0)::(.int .i64 0)::(.int .i64 0)::(U 3)::(U 4)::(U 5)::(.int .i64 1)::vw42 U 7 []))∧h=h') _ ⟨rfl,trivial,exU rfl,rfl⟩ ?_;rintro nn l h' ⟨rfl,htt,⟨U,rfl⟩,rfl⟩ hnext;refine D2 ?_;refine D203 ?_;refine k_lssF rfl zq zO ?_;refine D172 ?_;refine jdx rfl ?_;refine jac (h) rfl Tryz.func181 rfl jaa ?_;refine D5 ?_
 rfl
theorem f150_z (m:Md Tryz.prog B) (h:Hp) (lim:Int):FnC m 150 #[.slice none 0 0,.int .i64 0,.int .i64 0,.int .i64 lim] h fun v h'=>h'=h:=by
 refine jae Tryz.func150 rfl rfl (l:=(.slice none 0 0)::(.int .i64 0)::(.int .i64 0)::(.int .i64 lim)::uu130) rfl ?_
 intro cf cs K hK
 refine D162 ?_;refine D180 ?_
 refine jai (fun nn l h'=>nn=0∧(True)∧(∃U:Nat→Value,l=((.slice none 0 0)::(.int .i64 0)::(.int .i64 0)::(.int .i64 lim)::vw130 U 4 []))∧h=h') _ ⟨rfl,trivial,exU rfl,rfl⟩ ?_;rintro nn l h' ⟨rfl,htt,⟨U,rfl⟩,rfl⟩ hnext;refine D11 ?_;refine D196 ?_;refine D218 ?_;refine joJ rfl zq zO ?_;refine D148 ?_;refine D196 ?_;refine jaj (Post:=fun _=>True) rfl zq zK (fun H' hH=>CallF.mono (f181_z m H') fun v h' e=>⟨e,trivial⟩) ?_
 rintro v _;refine D9 ?_;refine D1 ?_;refine D4 ?_;refine jac (h) rfl Tryz.func150 rfl jaa ?_;refine D5 ?_
 rfl
theorem f99_z (m:Md Tryz.prog B) (h:Hp):FnC m 99 #[.slice none 0 0] h fun v h'=>h'=h:=by
 refine jae Tryz.func99 rfl rfl (l:=(.slice none 0 0)::uu10) rfl ?_
 intro cf cs K hK
 refine rs3 ?_;refine D163 ?_;refine rr6 ?_;refine Z3 ?_;refine jdS rfl zq zK (n':=0) zA ?_;refine jaj (Post:=fun v=> ∃k:Int,v= .int .i64 k∧0≤k∧k≤1000) rfl zq zK (fun H' hH=>f151_c m H' 0 zO) ?_;rintro v ⟨lim,rfl,_⟩;refine D9 ?_;refine jaj (Post:=fun _=>True) rfl zq zK (fun H' hH=>CallF.mono (f150_z m H' lim) fun v h' e=>⟨e,trivial⟩) ?_
 rintro v _;refine D9 ?_;refine D1 ?_;refine jdx rfl ?_;refine jac (h) rfl Tryz.func99 rfl jaa ?_;refine D5 ?_
 rfl
theorem f100_z (m:Md Tryz.prog B) (h:Hp):FnC m 100 #[.slice none 0 0] h fun v h'=>h'=h∧v= .slice none 0 0:=by
 refine jae Tryz.func100 rfl rfl (l:=(.slice none 0 0)::uu60) rfl ?_
 intro cf cs K hK
 refine D161 ?_;refine D203 ?_;refine jl8 rfl zq zO ?_;refine D178 ?_;refine jac (h) rfl Tryz.func100 rfl jaa ?_;refine D5 ?_
 exact ⟨rfl,rfl⟩
theorem f28_c (m:Md Tryz.prog B) (h:Hp) {b:Tb} {ps:Option Addr} {ns ks:Nat} {pw:Option Addr} {nw cw:Nat} {pb:Option Addr} {nb cb:Nat} (ra:RawTb B h b ps ns ks pw nw cw pb nb cb):FnC m 28 #[tbV b ps ns ks pw nw cw pb nb cb] h fun v h'=>h'=h∧v= .tuple [.int .i64 (if tbS b=0 then ((jaf b).length:Int) else 0),.int .i64 (tbS b)].toArray:=by
 refine jae Tryz.func28 rfl rfl (l:=(tbV b ps ns ks pw nw cw pb nb cb)::uu13) rfl ?_
 intro cf cs K hK
 refine rs3 ?_;refine jaQ rfl zq (fun q1=>k_hp (jad ?_));refine Zs ?_;refine D150 ?_;refine D186 ?_;refine D78 ?_
 rintro v rfl;refine D235 ?_
 refine ja4 rfl zq (fun hc=>?_) (fun hc=>?_);refine D148 ?_;refine D186 ?_
 rotate_left
 refine D165 ?_
 have hz0:tbS b=0:=by omega
 have hk:=ja6.1 hz0
 have hbl:=jbL hk
 have h12:=jbj hk
 refine rr6 ?_;refine Zs ?_;refine D36 ?_;rintro v n9 ⟨q9,rfl,sh⟩;refine jaI (jad ?_);refine D53 ?_
 rintro v n8 o8;refine jaI (jad ?_);obtain ⟨p8,c8,rfl,_⟩:=jap (B:=B) o8
 refine Zs ?_
 all_goals
  refine D195 ?_;refine jac (h) rfl Tryz.func28 rfl jaa ?_;refine D5 ?_
 ·exact ⟨rfl,by rw [if_pos hz0,hz0]⟩
 ·exact ⟨rfl,by rw [if_neg zD]⟩
theorem f45_c (m:Md Tryz.prog B) (h:Hp) {b:Tb} {ps:Option Addr} {ns ks:Nat} {pw:Option Addr} {nw cw:Nat} {pb:Option Addr} {nb cb:Nat} (ra:RawTb B h b ps ns ks pw nw cw pb nb cb):FnC m 45 #[tbV b ps ns ks pw nw cw pb nb cb] h fun v h'=>h'=h∧ ∃w,v= .tuple [w,.int .i64 (tbS b)].toArray∧IsB (tbS b=0∧jb7 (cdT b)=true) w:=by
 refine jae Tryz.func45 rfl rfl (l:=(tbV b ps ns ks pw nw cw pb nb cb)::uu12) rfl ?_
 intro cf cs K hK
 refine rs3 ?_;refine jaQ rfl zq (fun q1=>k_hp (jad ?_));refine Zs ?_;refine D150 ?_;refine D186 ?_;refine D78 ?_
 rintro v rfl;refine D235 ?_
 refine ja4 rfl zq (fun hc=>?_) (fun hc=>?_);refine D148 ?_;refine D186 ?_
 rotate_left
 refine D165 ?_
 have hz0:tbS b=0:=by omega
 have hk:=ja6.1 hz0
 have hbl:=jbL hk
 have h12:=jbj hk
 refine rr5 ?_;refine Zs ?_;refine D36 ?_;rintro v n9 ⟨q9,rfl,sh⟩;refine jaI (jad ?_);refine jaj (Post:=fun v=>IsB (patA (cdT b) (patN 0 (jab b).length)≠[]) v) rfl zq zK (fun H' hH=>f104_c m H' (sh.keeps (List.Sublist.trans zX hH)) zO) ?_;rintro v hv9;refine D9 ?_
 all_goals
  refine D195 ?_;refine jac (h) rfl Tryz.func45 rfl jaa ?_;refine D5 ?_
 ·exact ⟨rfl,_,by rw [hz0],hv9.iff (by rw [pat_none];exact ⟨fun e=>⟨hz0,e⟩,fun e=>e.2⟩)⟩
 ·exact ⟨rfl,_,rfl,IsB.no fun e=>absurd e.1 zD⟩
theorem f108_c (m:Md Tryz.prog B) (h:Hp) (v0:Value):FnC m 108 #[v0] h fun v h'=>h'=h∧v= .int .i64 0:=by
 refine jae Tryz.func108 rfl rfl (l:=[v0,undef,undef]) rfl ?_
 intro cf cs K hK
 refine D162 ?_;refine D153 ?_;refine jac (h) rfl Tryz.func108 rfl jaa ?_;refine D5 ?_
 exact ⟨rfl,rfl⟩
theorem f161_c (m:Md Tryz.prog B) (h:Hp) (v0:Value):FnC m 161 #[v0] h fun v h'=>h'=h∧v= .int .i64 0:=by
 refine jae Tryz.func161 rfl rfl (l:=[v0,undef,undef]) rfl ?_
 intro cf cs K hK
 refine D162 ?_;refine D153 ?_;refine jac (h) rfl Tryz.func161 rfl jaa ?_;refine D5 ?_
 exact ⟨rfl,rfl⟩
theorem f97_c (m:Md Tryz.prog B) (h:Hp) (c:Ce):FnC m 97 #[cV c.butt c.line c.st] h fun v h'=> ∃nw,h'=h++nw∧ ∃q,nw=[⟨true,q,.cells (ceL c).toArray 37 (0,0)⟩]∧v= .func (.func 149) #[] [.pointer (some ⟨q,0,none⟩)].toArray:=by
 refine jae Tryz.func97 rfl rfl (l:=[cV c.butt c.line c.st,undef,undef,undef]) rfl ?_
 intro cf cs K hK
 refine rs2 ?_;refine jaQ rfl zq (fun q1=>k_hp (jad ?_));refine D0 ?_;refine rs2 ?_;refine jgq rfl zq ?_;refine D146 ?_;refine jac (h++[⟨true,q1,.cells (ceL c).toArray 37 (0,0)⟩]) rfl Tryz.func97 rfl jaa ?_;refine D5 ?_
 exact ⟨_,rfl,q1,rfl,rfl⟩
theorem f89_c (m:Md Tryz.prog B) (h:Hp) (x y:Int):FnC m 89 #[.int .i64 x,.int .i64 y] h fun v h'=> ∃nw,h'=h++nw∧ ∃q q',nw=[⟨true,q,.cells [.int .i64 x].toArray 3 (0,0)⟩,⟨true,q',.cells [.int .i64 y].toArray 3 (0,0)⟩]∧v= .func (.func 145) #[] [.pointer (some ⟨q,0,none⟩),.pointer (some ⟨q',0,none⟩)].toArray:=by
 refine jae Tryz.func89 rfl rfl (l:=[.int .i64 x,.int .i64 y,undef,undef,undef,undef]) rfl ?_
 intro cf cs K hK
 refine rs3 ?_;refine jaQ rfl zq (fun q2=>k_hp (jad ?_));refine jaQ rfl zq (fun q3=>k_hp (jad ?_));refine D0 ?_;refine rs2 ?_;refine jgq rfl zq ?_;refine D146 ?_;refine jac (h++[⟨true,q2,.cells [.int .i64 x].toArray 3 (0,0)⟩,⟨true,q3,.cells [.int .i64 y].toArray 3 (0,0)⟩]) rfl Tryz.func89 rfl jaa ?_;refine D5 ?_
 exact ⟨_,rfl,q2,q3,rfl,rfl⟩
theorem f149_c (m:Md Tryz.prog B) (h:Hp) {b:Tb} {q:Nat} {tv:List Value} (sh:Sheet B h b q tv) {qc:Nat} {c:Ce} (rq:RdN B h qc 0 (ceL c)):FnC m 149 #[.pointer (some ⟨q,0,none⟩),.pointer (some ⟨qc,0,none⟩)] h fun v h'=>h'=h∧v= .int .i64 (if c∈jab b then 0 else 6):=by
 obtain ⟨mrw,qm,hm1,hm2⟩:=sh.map
 haveI hmh:Has h qm mrw (mapC (jab b)):=⟨hm2⟩
 refine jae Tryz.func149 rfl rfl (l:=(.pointer (some ⟨q,0,none⟩))::(.pointer (some ⟨qc,0,none⟩))::uu15) rfl ?_
 intro cf cs K hK
 refine D161 ?_;refine D2 ?_;refine jaq [(0,.pure),(1,.pure),(2,.pure),(3,.read),(4,.read),(5,.read),(6,.pure),(7,.pure),(8,.pure),(9,.pure),(10,.pure)] zK zK (List.Sublist.refl _) ?_;refine Zs ?_
 refine jal rfl zq ?_;refine Zs ?_;refine k_ld rfl zq hm1 ?_;refine jcU (vs:=ceL c) rfl zq rfl rq ?_
 refine jnb (c:=c) (cs:=jab b) (k:=37) (e:=3) zK rfl zq (jad ?_);refine Z4 ?_;refine D150 ?_
 by_cases hin:c∈jab b
 rw [jg6 hin];refine D206 ?_;refine D38 ?_;refine D149 ?_
 rotate_left
 rw [jmV hin];refine D206 ?_;refine D40 ?_;refine D148 ?_
 all_goals
  refine D153 ?_;refine jac (h) rfl Tryz.func149 rfl jaa ?_;refine D5 ?_
  first|exact ⟨rfl,by rw [if_pos hin]⟩|exact ⟨rfl,by rw [if_neg hin]⟩
theorem f145_c (m:Md Tryz.prog B) (h:Hp) {b:Tb} {ps:Option Addr} {ns ks:Nat} {pw:Option Addr} {nw cw:Nat} {pb:Option Addr} {nb cb:Nat} {q:Nat} (sh:Sheet B h b q (tbL b ps ns ks pw nw cw pb nb cb)) (hsl:b.sts.length=ns) (hn:ns≤1000) {qs qa:Nat} {st x:Int} (r1:Rd B h ⟨qs,0,none⟩ (.int .i64 st)) (r2:Rd B h ⟨qa,0,none⟩ (.int .i64 x)):FnC m 145 #[.pointer (some ⟨q,0,none⟩),.pointer (some ⟨qs,0,none⟩),.pointer (some ⟨qa,0,none⟩)] h fun v h'=>h'=h∧v= .int .i64 (if¬(0≤st∧st≤(ns:Int)-1) then 6 else if¬(0≤x∧x≤959) then 1 else 0):=by
 have hst:Rd B h ⟨q,0+0+0+1,none⟩ (.slice ps ns ks):=sh.tb 1 zS
 refine jae Tryz.func145 rfl rfl (l:=(.pointer (some ⟨q,0,none⟩))::(.pointer (some ⟨qs,0,none⟩))::(.pointer (some ⟨qa,0,none⟩))::uu18) rfl ?_
 intro cf cs K hK
 refine D161 ?_;refine D11 ?_;refine D2 ?_;refine jaq [(1,.pure),(2,.pure),(3,.pure),(4,.pure),(5,.pure),(0,.read),(6,.read),(7,.pure),(8,.pure),(9,.keep),(10,.pure),(11,.pure)] zK zK (List.Sublist.refl _) ?_;refine Zs ?_
 refine jal rfl zq ?_;refine Z3 ?_;refine k_ld rfl zq (r1.keeps SubH.sub) ?_;refine k_ld rfl zq (hst.keeps SubH.sub) ?_;refine Z2 ?_;refine D47 ?_
 rintro v (⟨hc,rfl⟩|⟨hc,rfl⟩)
 ·refine D189 ?_;refine D169 ?_;refine rs4 ?_;refine k_ld rfl zq (r2.keeps SubH.sub) ?_;refine D47 ?_
  rintro v (⟨hc,rfl⟩|⟨hc,rfl⟩);refine D189 ?_;refine D169 ?_;refine D7 ?_;refine D12 ?_
  rotate_left
  refine D192 ?_;refine D204 ?_
  all_goals
   refine D153 ?_;refine jac (h) rfl Tryz.func145 rfl jaa ?_;refine D5 ?_
   exact E7
 ·refine D192 ?_;refine D233 ?_;refine jac (h) rfl Tryz.func145 rfl jaa ?_;refine D5 ?_
  exact E7
theorem f88_c (m:Md Tryz.prog B) (h:Hp) {b:Tb} {ps:Option Addr} {ns ks:Nat} {pw:Option Addr} {nw cw:Nat} {pb:Option Addr} {nb cb:Nat} (ra:RawTb B h b ps ns ks pw nw cw pb nb cb) {fid:Nat} {gc gp:Array Value} {own:Int} (hcall:jbz Tryz.prog fid=true) (hown:TbOk b→ ∀(H':Hp) (q:Nat),h.Sublist H'→Sheet B H' b q (tbL b ps ns ks pw nw cw pb nb cb)→FnC m fid (gc++[Value.pointer (some ⟨q,0,none⟩)].toArray++gp) H' fun v h'=>h'=H'∧v= .int .i64 own):FnC m 88 #[tbV b ps ns ks pw nw cw pb nb cb,.func (.func fid) gc gp] h fun v h'=> ∃nz,h'=h++nz∧jf2 B b (tbL b ps ns ks pw nw cw pb nb cb) (jaZ b own) nz v:=by
 refine jae Tryz.func88 rfl rfl (l:=(tbV b ps ns ks pw nw cw pb nb cb)::(.func (.func fid) gc gp)::uu34) rfl ?_
 intro cf cs K hK
 refine rs3 ?_;refine jaQ rfl zq (fun q2=>k_hp (jad ?_));refine jau rfl zq (fun q4=>k_hp (jad ?_));refine D150 ?_;refine D186 ?_;refine D78 ?_
 rintro v rfl;refine D235 ?_
 refine ja4 rfl zq (fun hc=>?_) (fun hc=>?_)
 ·refine D148 ?_;refine rs4 ?_;refine D58 ?_;refine Zs ?_;refine D201 ?_;refine jac (h) rfl Tryz.func88 rfl jaa ?_;refine D5 ?_
  exact ⟨[],by simp,by rw [openS_b zD];exact jfJ zD⟩
 ·refine D165 ?_
  have hz0:tbS b=0:=by omega
  have hk:=ja6.1 hz0
  have hbl:=jbL hk
  have h12:=jbj hk
  refine rr5 ?_;refine Zs ?_;refine D36 ?_;rintro v n9 ⟨q9,rfl,sh⟩;refine jaI (jad ?_);refine D58 ?_
  refine jau rfl zq (fun q7=>k_hp (jad ?_));refine D22 ?_;refine D151 ?_;refine rs5 ?_;refine Z3 ?_;refine jfi (Post:=fun v=>v=_) rfl zq hcall (fun H' hH=>hown hk H' q9 (sq hH) (sh.keeps (List.Sublist.trans (List.Sublist.trans (List.sublist_append_right _ _) (List.sublist_append_left _ _)) hH))) ?_
  rintro v rfl;refine D235 ?_
  refine ja4 rfl zq (fun hc=>?_) (fun hc=>?_)
  ·refine D148 ?_;refine rs4 ?_;refine D58 ?_;refine Zs ?_;refine D201 ?_;refine jac (h) rfl Tryz.func88 rfl jaa ?_;refine D5 ?_
   exact ⟨[],by simp,by rw [openS_o hz0 zD];exact jfJ zD⟩
  ·refine D165 ?_;refine D241 ?_;refine D53 ?_
   rintro v n8 o8;refine jaI (jad ?_);obtain ⟨p8,c8,rfl,hc8,r8⟩:=jap (B:=B) o8
   refine Zs ?_;refine D181 ?_;refine D196 ?_
   refine jaM rfl zq (fun hc=>?_) (fun hc=>?_)
   ·refine D148 ?_;refine rs3 ?_;refine D58 ?_;refine D201 ?_;refine jac (h) rfl Tryz.func88 rfl jaa ?_;refine D5 ?_
    exact ⟨[],by simp,by rw [openS_9 hz0 zO (List.length_eq_zero_iff.1 zO)];exact jfJ zA⟩
   ·refine D149 ?_;refine D186 ?_;refine D201 ?_;refine jac (h++n9++n8) rfl Tryz.func88 rfl jaa ?_;refine D5 ?_
    have e:jaZ b own=0:=openS_0 hz0 zO (fun e=>hc (by rw [e];rfl))
    exact ⟨n9++n8,by rw [List.append_assoc],_,_,_,_,by rw [e],fun _=>⟨q9,rfl,sh.keeps (List.sublist_append_left _ _),rfl,hc8,r8.keeps (List.sublist_append_right _ _)⟩⟩
def ownC (b:Tb) (c:Ce):Int:=if c∈jab b then 0 else 6
def outK (L:List Bo) (k j:Nat):List Int:=(L.take j).filterMap fun x=>xA x k
theorem jol {L:List Bo} {k j:Nat} (hj:j<L.length) {v:Int} (h:xA (L.getD j []) k=some v):outK L k (j+1)=outK L k j++[v]:=by
 rw [outK,List.take_add_one,List.getElem?_eq_getElem hj,Option.toList_some,List.filterMap_append];rw [List.getD_eq_getElem?_getD,List.getElem?_eq_getElem hj] at h
 have h':xA L[j] k=some v:=h
 have e:[L[j]].filterMap (fun x=>xA x k)=[v]:=by simp only [List.filterMap_cons,h',List.filterMap_nil]
 rw [e];rfl
theorem jom {L:List Bo} {k j:Nat} (hj:j<L.length) (h:xA (L.getD j []) k=none):outK L k (j+1)=outK L k j:=by
 rw [outK,List.take_add_one,List.getElem?_eq_getElem hj,Option.toList_some,List.filterMap_append];rw [List.getD_eq_getElem?_getD,List.getElem?_eq_getElem hj] at h
 have h':xA L[j] k=none:=h
 have e:[L[j]].filterMap (fun x=>xA x k)=[]:=by simp only [List.filterMap_cons,h',List.filterMap_nil]
 rw [e,List.append_nil];rfl
theorem outK_le (L:List Bo) (k j:Nat):(outK L k j).length≤j:=by
 have h1:=List.length_filterMap_le (fun x:Bo=>xA x k) (L.take j)
 have h2:=List.length_take_le j L
 rw [outK];omega
theorem jlY {L:List Bo} {k:Nat} {z:Int}:z∈outK L k L.length↔ ∃x∈L,xA x k=some z:=by
 rw [outK,List.take_length,List.mem_filterMap]
theorem asc_meaS (s:Str):Asc (meaS s):=by
 rw [meaS];split
 ·rw [meaP];unfold Asc
  rw [List.pairwise_map];exact ((List.pairwise_lt_range).filter _).imp fun h=>by omega
 ·exact List.Pairwise.nil
theorem asc_canS {b:Tb} {L:List Bo} {k:Nat} (h:k<(jab b).length):Asc (canS (cdT b) L k):=by
 unfold Asc canS
 rw [jas b h];exact (asc_meaS _).filter _
theorem jlZ {b:Tb} {k:Nat} {z:Int} (L:List Bo) (hL: ∀x∈L,okA (cdT b) x=true):z∈canS (cdT b) L k↔ ∃x∈L,xA x k=some z:=by
 rw [canS,List.mem_filter,List.any_eq_true];simp only [decide_eq_true_eq]
 exact ⟨fun h=>h.2,fun ⟨x,hx,h⟩=>⟨(jhf.1 (hL x hx)).2.1 k z h,x,hx,h⟩⟩
theorem jhK {b:Tb}: ∀x∈jaf b,okA (cdT b) x=true:=fun x hx=>(ja8.1 hx).1
theorem jcd {b:Tb} {x:Bo} (h:x∈jaf b):x.length=(jab b).length:=by rw [←jaB];exact jm8 h
theorem bo_at {h:Hp} {q e:Nat} {rw:Bool} {f:Nat×Nat} {x:Bo} [hx:Has h q rw (.cells (boL x).toArray e f)] (i:Nat) (hi:i<12):Rd B h ⟨q,1+(i:Int).toNat*1,none⟩ (.int .i64 ((xA x i).getD 0)):=by
 have:=bt_at (B:=B) (h:=h) (q:=q) (e:=e) (rw:=rw) (f:=f) (s:=jbA x) (ms:=padM x) (x:=hx) i (by rw [jbg];exact hi)
 rw [jeT hi] at this
 exact this
theorem jgi {x:Bo} {k:Nat} (h:k<x.length):(jbA x).testBit k=(xA x k).isNone:=by
 rw [jcn];cases xA x k<;>simp [h]
def jc1 (L:List Bo) (k j:Nat):Nat:=(L.take j).countP fun x=>(xA x k).isNone
theorem jgH {L:List Bo} {k j:Nat} (hj:j<L.length):jc1 L k (j+1)=jc1 L k j+if (xA (L.getD j []) k).isNone then 1 else 0:=by
 rw [jc1,List.take_add_one,List.getElem?_eq_getElem hj,Option.toList_some,List.countP_append,List.getD_eq_getElem?_getD,List.getElem?_eq_getElem hj,List.countP_singleton];rfl
theorem jjq (L:List Bo) (k j:Nat):jc1 L k j≤j:=by
 have h1:=List.countP_le_length (p:=fun x:Bo=>(xA x k).isNone) (l:=L.take j)
 have h2:=List.length_take_le j L
 rw [jc1];omega
theorem jh5 (L:List Bo) (k:Nat):jc1 L k L.length=jlq L k:=by rw [jc1,List.take_length];rfl
def canL (b:Tb) (c:Ce):List Int:=if jaZ b (ownC b c)=0 then canS (cdT b) (jaf b) (plN b c) else []
theorem jmr:jbz Tryz.prog 149=true:=by kernel_rfl
theorem jlL {h:Hp} {q:Nat} {c:Ce} [x:Has h q true (.cells (ceL c).toArray 37 (0,0))]:RdN B h q 0 (ceL c):=fun j hj=>by
 rw [Nat.zero_add];refine Rd.held x.mem ?_
 rw [List.getElem?_toArray,List.getElem?_eq_getElem hj,List.getD_eq_getElem?_getD,List.getElem?_eq_getElem hj];rfl
theorem RdN.keepsN {h H:Hp} {b o:Nat} {vs:List Value} (r:RdN B h b o vs) (k:h.Sublist H):RdN B H b o vs:=fun j hj=>(r j hj).keeps k
theorem f30_c (m:Md Tryz.prog B) (h:Hp) {b:Tb} {ps:Option Addr} {ns ks:Nat} {pw:Option Addr} {nw cw:Nat} {pb:Option Addr} {nb cb:Nat} (ra:RawTb B h b ps ns ks pw nw cw pb nb cb) (c:Ce):FnC m 30 #[tbV b ps ns ks pw nw cw pb nb cb,cV c.butt c.line c.st] h fun v h'=>h'=h∧v= .tuple [.int .i64 (if jaZ b (ownC b c)=0 then jiK (jlq (jaf b) (plN b c)) (jaf b).length else 0),.int .i64 (jaZ b (ownC b c))].toArray:=by
 refine jae Tryz.func30 rfl rfl (l:=(tbV b ps ns ks pw nw cw pb nb cb)::(cV c.butt c.line c.st)::uu47) rfl ?_
 intro cf cs K hK
 refine rs4 ?_;refine jaQ rfl zq (fun q2=>k_hp (jad ?_));refine jaQ rfl zq (fun q3=>k_hp (jad ?_));refine Zs ?_;refine D150 ?_;refine jcj [0,1,2,3,4,5,6,7,8,9] zK zK (List.Sublist.refl _) ?_
 refine DrawT.split 2 7 zA (DrawT.split 3 7 zA ?_ ?_) ?_
 refine D111 ?_;refine Z2 ?_;refine D25 ?_
 rintro v nz ⟨qs,rfl,rfl⟩;refine jaI (jad ?_);refine D21 ?_
 rintro v n8 ⟨qp,p8,m8,c8,rfl,hz⟩;refine jaI (jad ?_);refine Z3 ?_
 refine jau rfl zq (fun q6=>k_hp (jad ?_));rotate_left
 refine D112 ?_;refine Z2 ?_;refine D25 ?_
 rintro v nz ⟨qs,rfl,rfl⟩;refine jaI (jad ?_);refine jau rfl zq (fun q6=>k_hp (jad ?_));refine D21 ?_
 rintro v n8 ⟨qp,p8,m8,c8,rfl,hz⟩;refine jaI (jad ?_);refine Z3 ?_
 rotate_left
 refine D113 ?_;refine Z2 ?_
 refine jau rfl zq (fun q6=>k_hp (jad ?_));refine D25 ?_
 rintro v nz ⟨qs,rfl,rfl⟩;refine jaI (jad ?_);refine D21 ?_
 rintro v n8 ⟨qp,p8,m8,c8,rfl,hz⟩;refine jaI (jad ?_);refine Z3 ?_
 all_goals
  refine D22 ?_;refine D218 ?_
  refine ja4 rfl zq (fun hc=>?_) (fun hc=>?_)
  ·refine D148 ?_;refine D203 ?_;refine D146 ?_;refine jac (h) rfl Tryz.func30 rfl jaa ?_;refine D5 ?_
   exact ⟨rfl,by rw [if_neg zD]⟩
  ·refine D165 ?_
   have hz0:jaZ b (ownC b c)=0:=by first|assumption|omega
   obtain ⟨q9,rfl,sh,rfl,hc8,rdB⟩:=hz hz0
   obtain ⟨hzb,hzo,hzn⟩:=jdh hz0
   have hk:=ja6.1 hzb
   have hbl:=jbL hk
   have h12:=jbj hk
   have hin:c∈jab b:=Classical.byContradiction fun e=>by rw [ownC,if_neg e] at hzo;cases hzo
   have hpl:=jlP.2 hin
   obtain ⟨kk,hkk⟩: ∃kk,kk=plN b c:=⟨_,rfl⟩
   rw [←hkk] at hpl
   obtain ⟨mrw,qm,hm1,hm2⟩:=sh.map
   haveI hmh:Has n8 qm mrw (mapC (jab b)):=⟨hm2⟩
   refine rr1 ?_;refine D150 ?_;refine rs4 ?_;refine Z4 ?_;refine D182 ?_;refine D50 ?_;refine jai (fun nn l h'=> ∃(j:Nat),nn=(jaf b).length-j∧(j≤(jaf b).length)∧(∃U:Nat→Value,l=((tbV b ps ns ks pw nw cw pb nb cb)::(cV c.butt c.line c.st)::(U 2)::(.pointer (some ⟨q3,0,none⟩))::(U 4)::(U 5)::(.pointer (some ⟨q6,0,none⟩))::(U 7)::(.int .i64 (jc1 (jaf b) kk j:Int))::vw13 U 9 ((.slice p8 (jaf b).length c8)::(.int .i64 ((jaf b).length:Int))::(.int .i64 (j:Int))::vw24 U 25 [])))∧h++[⟨true,q2,.cells (tbL b ps ns ks pw nw cw pb nb cb).toArray 25 (0,0)⟩,⟨true,q3,.cells (ceL c).toArray 37 (0,0)⟩]++[⟨true,qs,.cells (ceL c).toArray 37 (0,0)⟩]++n8++[⟨true,q6,.cells [.pointer (some ⟨q9,0,none⟩),.slice p8 (jaf b).length c8].toArray 112 (0,0)⟩]=h') _ ⟨0,rfl,by omega,exU rfl,rfl⟩ ?_;rintro nn l h' ⟨j,rfl,hj,⟨U,rfl⟩,rfl⟩ hnext;have hwk:=jjq (jaf b) kk j
   refine rs1 ?_;refine jan rfl zq (fun hc=>?_) (fun hc=>?_)
   ·refine D191 ?_
    obtain ⟨rb,ro,hrp⟩:=rdB.ptr zO
    have rdB':=rdB
    rw [hrp] at rdB'
    have hxm:(jaf b).getD j []∈jaf b:=by rw [List.getD_eq_getElem?_getD,List.getElem?_eq_getElem zO];exact List.getElem_mem _
    have hxl:=jcd hxm
    refine rr4 ?_;refine D90 ?_;refine D110 ?_;obtain ⟨x,hx⟩: ∃x,x=(jaf b).getD j []:=⟨_,rfl⟩
    rw [←hx] at hxm hxl⊢
    have hxb:=jce (x:=x) zO
    refine jau rfl zq (fun q10=>k_hp (jad ?_));refine jkb rfl zq (jaC x) ?_;refine D151 ?_;refine jaq [(0,.pure),(2,.pure),(1,.read),(3,.read),(4,.pure),(5,.pure),(6,.read),(7,.read),(8,.read),(9,.keep)] zK zK (List.Sublist.refl _) ?_;refine Z4 ?_;refine jal rfl zq ?_;refine Zs ?_;refine k_ld rfl zq (hm1.keeps SubH.sub) ?_;refine Zs ?_;refine jkd (c:=c) (cs:=jab b) (k:=37) (e:=3) zK rfl zq ?_
    refine jaj (Post:=fun v=>IsB _ v) rfl zq zK (fun H' hH=>by
      rw [jg6 hin,←hkk];exact f98_b m H' (jbA x) kk hxb zO) ?_
    rintro v (⟨hc,rfl⟩|⟨hc,rfl⟩);refine D9 ?_;refine D148 ?_;refine D164 ?_
    rotate_left
    refine D9 ?_;refine D149 ?_
    all_goals
     refine D159 ?_
    ·have hws:jc1 (jaf b) kk (j+1)=jc1 (jaf b) kk j:=by
      rw [jgH zO,←hx,←jgi zO,if_neg hc];rfl
     rw [←hws];exact m.weak jaa (hnext _ _ _ zO ⟨j+1,rfl,by omega,exU rfl,rfl⟩)
    ·have hws:jc1 (jaf b) kk (j+1)=jc1 (jaf b) kk j+1:=by
      rw [jgH zO,←hx,←jgi zO,hc];rfl
     rw [show (jc1 (jaf b) kk j:Int)+1=((jc1 (jaf b) kk (j+1):Nat):Int) by rw [hws];rfl];exact m.weak jaa (hnext _ _ _ zO ⟨j+1,rfl,by omega,exU rfl,rfl⟩)
   ·refine D175 ?_;refine D2 ?_;refine D2 ?_
    have hjn:j=(jaf b).length:=by omega
    rw [hjn,jh5];have hwa:=jjq (jaf b) kk (jaf b).length
    rw [jh5] at hwa
    refine rr1 ?_;refine D243 ?_;refine rs2 ?_;refine jaM rfl zq (fun hc=>?_) (fun hc=>?_)
    ·refine D204 ?_;refine D167 ?_;refine jac (h) rfl Tryz.func30 rfl jaa ?_;refine D5 ?_
     refine ⟨rfl,?_⟩
     rw [if_pos hz0,hz0,←hkk];first
      |rw [jiK,if_pos zO]
      |rw [jiK,if_neg zO,if_pos zO]
      |rw [jiK,if_neg zO,if_neg zO]
    ·refine D169 ?_;refine rs5 ?_;refine Z3 ?_
     refine jaM rfl zq (fun hc=>?_) (fun hc=>?_);refine D204 ?_
     rotate_left
     refine D169 ?_;refine D7 ?_;refine D12 ?_
     all_goals
      refine D167 ?_;refine jac (h) rfl Tryz.func30 rfl jaa ?_;refine D5 ?_
      refine ⟨rfl,?_⟩
      rw [if_pos hz0,hz0,←hkk];first
       |rw [jiK,if_pos zO]
       |rw [jiK,if_neg zO,if_pos zO]
       |rw [jiK,if_neg zO,if_neg zO]
theorem f150_s (m:Md Tryz.prog B):PdqC m 12:=by
 intro h bk n c xs junk lim hl hn hk0 hk1
 refine jae Tryz.func150 rfl rfl (l:=(.slice (some ⟨bk,0,none⟩) n c)::(.int .i64 0)::(.int .i64 (n:Int))::(.int .i64 lim)::uu130) rfl ?_
 intro cf cs K hK
 refine D162 ?_;refine D180 ?_
 refine jai (fun nn l h'=> ∃(k:Nat),nn=k+1∧(k=0)∧(∃U:Nat→Value,l=((.slice (some ⟨bk,0,none⟩) n c)::(.int .i64 0)::(.int .i64 (n:Int))::(.int .i64 lim)::vw130 U 4 []))∧h++[blkC bk xs junk]=h') _ ⟨0,rfl,rfl,exU rfl,rfl⟩ ?_;rintro nn l h' ⟨k,rfl,hk,⟨U,rfl⟩,rfl⟩ hnext;refine D11 ?_;refine D196 ?_;refine D218 ?_
 refine jeF rfl zq (fun hc=>?_) (fun hc=>?_)
 ·refine D148 ?_;refine D196 ?_;refine jcG rfl zq zK (f181_c m h hl zO 0 n zO (Nat.le_refl _)) ?_
  rintro v h' ⟨rfl,ys,rfl,hsw,hso⟩;refine D9 ?_;refine D1 ?_;refine D4 ?_;refine jac (h++[blkC bk ys junk]) rfl Tryz.func150 rfl jaa ?_;refine D5 ?_
  exact ⟨rfl,ys,rfl,hsw,hso⟩
 ·exfalso
  omega
theorem f29_n (m:Md Tryz.prog B) (h:Hp) {N:Nat} (hP:PdqC m N) (hN:N≤60000) {b:Tb} {ps:Option Addr} {ns ks:Nat} {pw:Option Addr} {nw cw:Nat} {pb:Option Addr} {nb cb:Nat} (ra:RawTb B h b ps ns ks pw nw cw pb nb cb) (c:Ce) (hbN:tbS b=0→(jaf b).length≤N):FnC m 29 #[tbV b ps ns ks pw nw cw pb nb cb,cV c.butt c.line c.st] h fun v h'=> ∃new,h'=h++new∧ ∃w,v= .tuple [w,.int .i64 (jaZ b (ownC b c))].toArray∧RdI B new w (canL b c):=by
 refine jae Tryz.func29 rfl rfl (l:=(tbV b ps ns ks pw nw cw pb nb cb)::(cV c.butt c.line c.st)::uu51) rfl ?_
 intro cf cs K hK
 refine rs4 ?_;refine jaQ rfl zq (fun q2=>k_hp (jad ?_));refine jaQ rfl zq (fun q3=>k_hp (jad ?_));refine Zs ?_;refine D150 ?_;refine jcj [0,1,2,3,4,5,6,7,8,9] zK zK (List.Sublist.refl _) ?_
 refine DrawT.split 2 7 zA (DrawT.split 3 7 zA ?_ ?_) ?_
 refine D111 ?_;refine Z2 ?_;refine D25 ?_
 rintro v nz ⟨qs,rfl,rfl⟩;refine jaI (jad ?_);refine D21 ?_
 rintro v n8 ⟨qp,p8,m8,c8,rfl,hz⟩;refine jaI (jad ?_);refine Z3 ?_
 refine jau rfl zq (fun q6=>k_hp (jad ?_));rotate_left
 refine D112 ?_;refine Z2 ?_;refine D25 ?_
 rintro v nz ⟨qs,rfl,rfl⟩;refine jaI (jad ?_);refine jau rfl zq (fun q6=>k_hp (jad ?_));refine D21 ?_
 rintro v n8 ⟨qp,p8,m8,c8,rfl,hz⟩;refine jaI (jad ?_);refine Z3 ?_
 rotate_left
 refine D113 ?_;refine Z2 ?_
 refine jau rfl zq (fun q6=>k_hp (jad ?_));refine D25 ?_
 rintro v nz ⟨qs,rfl,rfl⟩;refine jaI (jad ?_);refine D21 ?_
 rintro v n8 ⟨qp,p8,m8,c8,rfl,hz⟩;refine jaI (jad ?_);refine Z3 ?_
 all_goals
  refine D22 ?_;refine D218 ?_
  refine ja4 rfl zq (fun hc=>?_) (fun hc=>?_)
  ·refine D148 ?_;refine D203 ?_;refine D146 ?_;refine jac (h) rfl Tryz.func29 rfl jaa ?_;refine D5 ?_
   exact ⟨[],by simp,_,rfl,by rw [canL,if_neg zD];exact ⟨none,0,rfl,⟨none,0,rfl,rfl,.inl ⟨rfl,rfl⟩⟩⟩⟩
  ·refine D165 ?_
   have hz0:jaZ b (ownC b c)=0:=by first|assumption|omega
   obtain ⟨q9,rfl,sh,rfl,hc8,rdB⟩:=hz hz0
   obtain ⟨hzb,hzo,hzn⟩:=jdh hz0
   have hk:=ja6.1 hzb
   have hbl:=jbL hk
   have h12:=jbj hk
   have hin:c∈jab b:=Classical.byContradiction fun e=>by rw [ownC,if_neg e] at hzo;cases hzo
   have hpl:=jlP.2 hin
   obtain ⟨kk,hkk⟩: ∃kk,kk=plN b c:=⟨_,rfl⟩
   rw [←hkk] at hpl
   obtain ⟨mrw,qm,hm1,hm2⟩:=sh.map
   haveI hmh:Has n8 qm mrw (mapC (jab b)):=⟨hm2⟩
   refine jaq [(0,.pure),(1,.read),(2,.pure),(3,.pure),(4,.read),(5,.read),(6,.read),(7,.pure)] zK zK (List.Sublist.refl _) ?_;refine Z2 ?_;refine jal rfl zq ?_;refine Zs ?_;refine k_ld rfl zq (hm1.keeps (by first|exact SubH.sub|exact List.sublist_append_right _ _)) ?_;refine Zs ?_;refine jkd (c:=c) (cs:=jab b) (k:=37) (e:=3) zK rfl zq ?_
   rw [jg6 hin,←hkk,Option.getD_some];refine D0 ?_;refine D161 ?_;refine rs4 ?_;refine Z4 ?_;refine D182 ?_;refine D50 ?_
   refine jai (fun nn l h'=> ∃(j:Nat) (wp:Option Addr) (wc:Nat) (M:Hp),nn=(jaf b).length-j∧(j≤(jaf b).length)∧(OwnS 3 1 (.slice wp (outK (jaf b) kk j).length wc) (outK (jaf b) kk j).length (ints (outK (jaf b) kk j)) M)∧((outK (jaf b) kk j)=[]→wp=none∧wc=0∧M=[])∧(∃U:Nat→Value,l=((tbV b ps ns ks pw nw cw pb nb cb)::(cV c.butt c.line c.st)::(U 2)::(.pointer (some ⟨q3,0,none⟩))::(U 4)::(U 5)::(.pointer (some ⟨q6,0,none⟩))::(U 7)::(.int .i64 (kk:Int))::(.slice wp (outK (jaf b) kk j).length wc)::vw20 U 10 ((.slice p8 (jaf b).length c8)::(.int .i64 ((jaf b).length:Int))::(.int .i64 (j:Int))::vw20 U 33 [])))∧h++[⟨true,q2,.cells (tbL b ps ns ks pw nw cw pb nb cb).toArray 25 (0,0)⟩,⟨true,q3,.cells (ceL c).toArray 37 (0,0)⟩]++[⟨true,qs,.cells (ceL c).toArray 37 (0,0)⟩]++n8++[⟨true,q6,.cells [.pointer (some ⟨q9,0,none⟩),.slice p8 (jaf b).length c8].toArray 112 (0,0)⟩]++M=h') _ ⟨0,none,0,[],rfl,by omega,OwnS.nil,fun _=>⟨rfl,rfl,rfl⟩,exU rfl,(by rw [List.append_nil])⟩ ?_;rintro nn l h' ⟨j,wp,wc,M,rfl,hj,how,hze,⟨U,rfl⟩,rfl⟩ hnext;have hol:=outK_le (jaf b) kk j
   refine rs1 ?_;refine jan rfl zq (fun hc=>?_) (fun hc=>?_)
   ·refine D191 ?_
    obtain ⟨rb,ro,hrp⟩:=rdB.ptr zO
    have rdB':=rdB
    rw [hrp] at rdB'
    have hxm:(jaf b).getD j []∈jaf b:=by rw [List.getD_eq_getElem?_getD,List.getElem?_eq_getElem zO];exact List.getElem_mem _
    have hxl:=jcd hxm
    refine rr4 ?_;refine D90 ?_;refine D110 ?_;obtain ⟨x,hx⟩: ∃x,x=(jaf b).getD j []:=⟨_,rfl⟩
    rw [←hx] at hxm hxl⊢
    have hxb:=jce (x:=x) zO
    refine jau rfl zq (fun q11=>k_hp (jad ?_));refine jkb rfl zq (jaC x) ?_;refine D1 ?_;refine rs5 ?_;refine Z3 ?_;refine jaj (Post:=fun v=>IsB _ v) rfl zq zK (fun H' hH=>f98_b m H' (jbA x) kk hxb zO) ?_;rintro v (⟨hc,rfl⟩|⟨hc,rfl⟩)
    ·refine D189 ?_;refine D225 ?_
     have hks:=jom (L:=jaf b) (k:=kk) (j:=j) zO (by
      have e:=hc
      rw [jgi zO,Option.isNone_iff_eq_none] at e
      rw [←hx];exact e)
     rw [←hks];refine m.weak (h':=h++[⟨true,q2,.cells (tbL b ps ns ks pw nw cw pb nb cb).toArray 25 (0,0)⟩,⟨true,q3,.cells (ceL c).toArray 37 (0,0)⟩]++[⟨true,qs,.cells (ceL c).toArray 37 (0,0)⟩]++n8++[⟨true,q6,.cells [.pointer (some ⟨q9,0,none⟩),.slice p8 (jaf b).length c8].toArray 112 (0,0)⟩]++M) jei ?_
     exact hnext _ _ _ zO ⟨j+1,wp,wc,M,rfl,by omega,by rw [hks];exact how,by rw [hks];exact hze,exU rfl,rfl⟩
    ·refine D192 ?_;refine D148 ?_;refine rr8 ?_;refine Z4 ?_;refine k_ld rfl zq (bo_at kk zO) ?_
     refine k_bs kdq rfl zq zA zA rfl (fun q46=>k_hp (jad ?_));refine ja3 rfl zq rfl how kdq zO zO (fun w47 n47 o47=>jad ?_);obtain ⟨p47,c47,rfl,hc47,r47⟩:=jap (B:=B) o47
     refine D0 ?_;refine D159 ?_
     have hxs:xA x kk=some ((xA x kk).getD 0):=by
      cases e:xA x kk with
      |none=>exact absurd (by rw [jgi zO,e];rfl) hc
      |some v=>rfl
     have hks:=jol (L:=jaf b) (k:=kk) (j:=j) zO (hx▸hxs)
     have hkl:(outK (jaf b) kk (j+1)).length=(outK (jaf b) kk j).length+1:=by rw [hks];simp
     rw [←hkl];refine m.weak (h':=h++[⟨true,q2,.cells (tbL b ps ns ks pw nw cw pb nb cb).toArray 25 (0,0)⟩,⟨true,q3,.cells (ceL c).toArray 37 (0,0)⟩]++[⟨true,qs,.cells (ceL c).toArray 37 (0,0)⟩]++n8++[⟨true,q6,.cells [.pointer (some ⟨q9,0,none⟩),.slice p8 (jaf b).length c8].toArray 112 (0,0)⟩]++n47) jei ?_
     exact hnext _ _ _ zO ⟨j+1,p47,c47,n47,rfl,by omega,by rw [hkl,hks,jbh,←hx];exact o47,fun e=>by rw [hks] at e;simp at e,exU rfl,rfl⟩
   ·refine D175 ?_;refine D2 ?_
    have hbN2:=hbN hzb
    obtain rfl:j=(jaf b).length:=by omega
    by_cases h0:outK (jaf b) kk (jaf b).length=[]
    ·obtain ⟨rfl,rfl,rfl⟩:=hze h0
     rw [show (outK (jaf b) kk (jaf b).length).length=0 by rw [h0];rfl];refine D206 ?_;refine jaj (Post:=fun _=>True) rfl zq zK (fun H' hH=>CallF.mono (f99_z m H') fun v h' e=>⟨e,trivial⟩) ?_
     rintro v _;refine D9 ?_;refine D1 ?_;refine D221 ?_;refine jaj (Post:=fun v=>v= .slice none 0 0) rfl zq zK (fun H' hH=>f100_z m H') ?_
     rintro v rfl;refine D9 ?_;refine D195 ?_;refine jac (h) rfl Tryz.func29 rfl jaa ?_;refine D5 ?_
     have hcl:canL b c=canS (cdT b) (jaf b) kk:=by rw [canL,if_pos hz0,←hkk]
     have hce:canS (cdT b) (jaf b) kk=[]:=by
      rw [List.eq_nil_iff_forall_not_mem];intro z hzz
      rw [jlZ _ jhK,←jlY,h0] at hzz
      cases hzz
     exact ⟨[],by simp,_,by rw [hz0],by rw [hcl,hce];exact ⟨none,0,rfl,⟨none,0,rfl,rfl,.inl ⟨rfl,rfl⟩⟩⟩⟩
    ·obtain ⟨bk,c9,junk,hw9,rfl,hbk1,hbk2⟩:=jok how (List.length_pos_iff.2 h0)
     cases hw9
     refine D206 ?_;refine jcG rfl zq zK (f99_c m _ hP hN hbk1 zO) ?_
     rintro v h' ⟨rfl,ys,rfl,hsw,hso⟩;refine D9 ?_
     have hyl:=hsw.length
     refine D1 ?_;refine D221 ?_;refine jcG rfl zq zK (f100_c m _ (show ys.length=_ by omega) hbk2 zO) ?_
     rintro v h' ⟨n11,rfl,k11,hk',ho'⟩;refine D9 ?_;refine D195 ?_;refine jac (h++n11) rfl Tryz.func29 rfl jaa ?_;refine D5 ?_
     have hcl:canL b c=canS (cdT b) (jaf b) kk:=by rw [canL,if_pos hz0,←hkk]
     have hyn:ys.length=(outK (jaf b) kk (jaf b).length).length:=by omega
     rw [←hyn] at hso ho' hk'
     subst hk'
     have hye:jcq ys ys.length=canS (cdT b) (jaf b) kk:=jms (jgM hso _ (Nat.le_refl _)).1 (asc_canS hpl) fun z=>by
      rw [jos hso,jlZ _ jhK,←jlY];exact (hsw.perm zO).mem_iff
     rw [hye] at ho'
     obtain ⟨p11,c11,rfl,_,r11⟩:=jap (B:=B) ho'
     exact ⟨n11,rfl,_,by rw [hz0],by rw [hcl];exact ⟨p11,c11,rfl,r11⟩⟩
theorem f29_s (m:Md Tryz.prog B) (h:Hp) {b:Tb} {ps:Option Addr} {ns ks:Nat} {pw:Option Addr} {nw cw:Nat} {pb:Option Addr} {nb cb:Nat} (ra:RawTb B h b ps ns ks pw nw cw pb nb cb) (c:Ce) (hb:(jaf b).length≤12):FnC m 29 #[tbV b ps ns ks pw nw cw pb nb cb,cV c.butt c.line c.st] h fun v h'=> ∃new,h'=h++new∧ ∃w,v= .tuple [w,.int .i64 (jaZ b (ownC b c))].toArray∧RdI B new w (canL b c):=f29_n m h (f150_s m) zA ra c fun _=>hb
end Go.Proofs
