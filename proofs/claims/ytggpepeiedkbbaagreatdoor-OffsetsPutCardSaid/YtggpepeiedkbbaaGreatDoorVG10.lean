/- A part of the proof of a law. Condition of each theorem: as its statement says. -/
import Derived.Test.YtggpepeiedkbbaaGreatDoorVG9
import Derived.SevenTiedAt
import Derived.LaidOnce
import Derived.LaidSub
import Derived.Test.YtggpepeiedkbbaaGreatDoorCards
import Derived.Test.YtggpepeiedkbbaaGreatDoorTie
set_option linter.all false
variable {B:Array Go.Obj} {p ps pw pb:Option Go.Addr} {n ns ks nw cw nb cb i k:Nat} {lns:List Go.Lo.Ln} {H h:Go.Lo.Hp} {b:Go.Lo.Tb} {lw lb:List Go.Lo.Lp} {ty t u:Go.TypeId} {W:Go.World}
set_option maxHeartbeats 4000000
set_option maxRecDepth 100000
set_option synthInstance.maxHeartbeats 1000000
set_option synthInstance.maxSize 100000
namespace Go.Proofs
open Go.Lo
open Go.Conc (G)
section
variable [LaidO B]
def exT:Tb:=⟨1,[[97],[98]],[⟨64,[[49,45,50,45,51],[49,45,63,45,48]]⟩,⟨128,[[49,45,54,45,48],[49,45,52,45,52]]⟩],[⟨96,[[48,45,53,45,48],[48,45,57,45,48]]⟩]⟩
theorem f87_c (m:Md Tryz.prog B) (h:Hp):FnC m 87 #[] h fun v h'=> ∃nw,h'=h++nw∧ ∃ps pw pb,v=tbV exT ps 2 2 pw 2 2 pb 1 1∧RawTb B nw exT ps 2 2 pw 2 2 pb 1 1:=by
 refine jaf Tryz.func87 rfl rfl (l:=uu11) rfl ?_
 intro cf cs K hK
 refine Z2 ?_
 refine jax rfl zq (fun q0=>jau (jae ?_));refine Z3 ?_
 refine jdk kdq rfl zq zA zA rfl (fun q1=>jau (jae ?_));refine jdk kdq rfl zq zA zA rfl (fun q2=>jau (jae ?_));refine D37 ?_
 refine jdk kdq rfl zq zA zA rfl (fun q4=>jau (jae ?_));refine D37 ?_
 refine jdk kdq rfl zq zA zA rfl (fun q6=>jau (jae ?_));refine jdk kdq rfl zq zA zA rfl (fun q7=>jau (jae ?_));refine D37 ?_
 refine jdk kdq rfl zq zA zA rfl (fun q9=>jau (jae ?_));refine D37 ?_;refine D6 ?_;refine Z2 ?_;refine jad (h++[⟨true,q1,.cells ([str [97],str [98]]:List Value).toArray 9 (0,0)⟩,⟨true,q2,.cells ([str [49,45,50,45,51],str [49,45,63,45,48]]:List Value).toArray 9 (0,0)⟩,⟨true,q4,.cells ([str [49,45,54,45,48],str [49,45,52,45,52]]:List Value).toArray 9 (0,0)⟩,⟨true,q6,.cells ([.int .i64 64,.slice (some ⟨q2,0,none⟩) 2 2,.int .i64 128,.slice (some ⟨q4,0,none⟩) 2 2]:List Value).toArray 121 (0,0)⟩,⟨true,q7,.cells ([str [48,45,53,45,48],str [48,45,57,45,48]]:List Value).toArray 9 (0,0)⟩,⟨true,q9,.cells ([.int .i64 96,.slice (some ⟨q7,0,none⟩) 2 2]:List Value).toArray 121 (0,0)⟩]) rfl Tryz.func87 rfl jab ?_;refine Zs ?_
 refine ⟨_,rfl,_,_,_,rfl,⟨jgF (ys:=jaC exT.sts) (x:=⟨List.mem_cons_self⟩) rfl,by decide,by decide,⟨[⟨⟨64,[[49,45,50,45,51],[49,45,63,45,48]]⟩,some ⟨q2,0,none⟩,2⟩,⟨⟨128,[[49,45,54,45,48],[49,45,52,45,52]]⟩,some ⟨q4,0,none⟩,2⟩],rfl,jgF (ys:=jaC ([⟨⟨64,[[49,45,50,45,51],[49,45,63,45,48]]⟩,some ⟨q2,0,none⟩,2⟩,⟨⟨128,[[49,45,54,45,48],[49,45,52,45,52]]⟩,some ⟨q4,0,none⟩,2⟩]:List Lp)) (x:=⟨by right;right;right;left⟩) rfl,fun x hx=>?_⟩,by decide,⟨[⟨⟨96,[[48,45,53,45,48],[48,45,57,45,48]]⟩,some ⟨q7,0,none⟩,2⟩],rfl,jgF (ys:=jaC ([⟨⟨96,[[48,45,53,45,48],[48,45,57,45,48]]⟩,some ⟨q7,0,none⟩,2⟩]:List Lp)) (x:=⟨by right;right;right;right;right;left⟩) rfl,fun x hx=>?_⟩,by decide,⟨by decide,by decide,by decide⟩⟩⟩
 ·rcases List.mem_cons.1 hx with rfl|hx
  ·exact ⟨Nat.le_refl _,fun _=>jgF (ys:=jaC ([[49,45,50,45,51],[49,45,63,45,48]]:List Str)) (x:=⟨by right;left⟩) rfl⟩
  ·obtain rfl:=List.mem_singleton.1 hx
   exact ⟨Nat.le_refl _,fun _=>jgF (ys:=jaC ([[49,45,54,45,48],[49,45,52,45,52]]:List Str)) (x:=⟨by right;right;left⟩) rfl⟩
 ·obtain rfl:=List.mem_singleton.1 hx
  exact ⟨Nat.le_refl _,fun _=>jgF (ys:=jaC ([[48,45,53,45,48],[48,45,57,45,48]]:List Str)) (x:=⟨by right;right;right;right;left⟩) rfl⟩
end
section
variable [LaidO B]
theorem hhrd {c:Nat} {M:Hp} (o:HalfO (.slice p n c) n lns M) (s:M.Sublist H):RdLn B H (.slice p n c) n lns:=by
 obtain ⟨p',c',e,r⟩:=o.rd (B:=B)
 cases e
 exact r.keeps s
theorem f94_l (m:Md Tryz.prog B) (hs:h.Sublist H) (rlw:RdS B h 2 (.slice pw nw cw) nw (jaC lw)) (rlb:RdS B h 2 (.slice pb nb cb) nb (jaC lb)) {bt:Bool} {li st:Int} (h0:0≤li) (h1:li<(if bt then lb else lw).length):FnC m 94 #[tbV b ps ns ks pw nw cw pb nb cb,cV bt li st] H fun v h'=>h'=H∧v=lpV ((if bt then lb else lw).getD li.toNat default):=by
 refine jaf Tryz.func94 rfl rfl (l:=(tbV b ps ns ks pw nw cw pb nb cb)::(cV bt li st)::uu17) rfl ?_
 intro cf cs K hK
 refine Z2 ?_
 refine jaX rfl zq (fun q2=>jau (jae ?_));refine jaX rfl zq (fun q3=>jau (jae ?_));refine jax rfl zq (fun q4=>jau (jae ?_));refine Z7 ?_
 refine jcS (fun hc=>?_) (fun hc=>?_);first|replace hc:=of_decide_eq_true hc|replace hc:=of_decide_eq_false hc|skip
 refine Zs ?_
 subst hc
 have hlt:li<lb.length:=h1
 have hll:=rlb.elen zA
 obtain ⟨z_b,z_o,hzp⟩:=rlb.ptr zO
 have rlg:=rlb.keeps hs
 rw [hzp] at rlg
 refine Z5 ?_;refine D78 ?_;refine jc5 (vs:=lpL (lb.getD li.toNat default)) rfl zq rfl (rlg.eat li.toNat zO zO) ?_
 rotate_left
 first|replace hc:=of_decide_eq_true hc|replace hc:=of_decide_eq_false hc|skip
 refine Z2 ?_
 subst hc
 have hlt:li<lw.length:=h1
 have hll:=rlw.elen zA
 obtain ⟨z_b,z_o,hzp⟩:=rlw.ptr zO
 have rlg:=rlw.keeps hs
 rw [hzp] at rlg
 refine Z5 ?_;refine D78 ?_;refine jc5 (vs:=lpL (lw.getD li.toNat default)) rfl zq rfl (rlg.eat li.toNat zO zO) ?_
 all_goals
  refine D6 ?_;refine Z2 ?_;refine jad (H) rfl Tryz.func94 rfl jab ?_;refine Zs ?_
  exact ⟨rfl,rfl⟩
theorem f33_c (m:Md Tryz.prog B) (h:Hp) (rlw:RdS B h 2 (.slice pw nw cw) nw (jaC lw)) (rlb:RdS B h 2 (.slice pb nb cb) nb (jaC lb)) (hnw:nw≤1000) (hnb:nb≤1000) (hfw: ∀x∈lw,x.ln.figs.length≤x.c∧RdS B h 1 (.slice x.p x.ln.figs.length x.c) x.ln.figs.length (jaC x.ln.figs)) (hfb: ∀x∈lb,x.ln.figs.length≤x.c∧RdS B h 1 (.slice x.p x.ln.figs.length x.c) x.ln.figs.length (jaC x.ln.figs)) (hsmw: ∀l∈lw.map (·.ln),l.figs.length≤1000) (hsmb: ∀l∈lb.map (·.ln),l.figs.length≤1000) (bt:Bool) (li st:Int) (f:Str) (hli0:0≤li) (hli1:li<((if bt then lb else lw).length:Int)) (hst0:0≤st) (hst1:st<(((if bt then lb else lw).getD li.toNat default).ln.figs.length:Int)):FnC m 33 #[tbV b ps ns ks pw nw cw pb nb cb,cV bt li st,str f] h fun v h'=> ∃nz pw' cw' pb' cb',h'=h++nz∧v=tbV b ps ns ks pw' nw cw' pb' nb cb'∧RdLn B nz (.slice pw' nw cw') nw (if bt then lw.map (·.ln) else jex (lw.map (·.ln)) li.toNat st.toNat f)∧RdLn B nz (.slice pb' nb cb') nb (if bt then jex (lb.map (·.ln)) li.toNat st.toNat f else lb.map (·.ln)):=by
 have hlw:=rlw.elen zA
 have hlb:=rlb.elen zA
 refine jaf Tryz.func33 rfl rfl (l:=(tbV b ps ns ks pw nw cw pb nb cb)::(cV bt li st)::(str f)::uu73) rfl ?_
 intro cf cs K hK
 refine Z2 ?_
 refine jaX rfl zq (fun q3=>jau (jae ?_));refine jaX rfl zq (fun q4=>jau (jae ?_));refine jax rfl zq (fun q6=>jau (jae ?_));refine Z4 ?_
 refine jax rfl zq (fun q7=>jau (jae ?_));refine D6 ?_;refine Z4 ?_;refine D9 ?_;refine Zs ?_;refine D9 ?_;refine Z7 ?_
 refine jai (fun nn l h'=> ∃(i:Nat) (p1:Option Addr) (c1:Nat) (xw:List Lp) (W0 FM0:Hp),nn=nw-i∧(i≤nw)∧(xw.map (·.ln)=(lw.map (·.ln)).take i)∧(OwnS 121 2 (.slice p1 i c1) i (jaC xw) W0)∧(OwnF xw FM0)∧(∃U:Nat→Value,l=((tbV b ps ns ks pw nw cw pb nb cb)::(cV bt li st)::(str f)::(.pointer (some ⟨q3,0,none⟩))::(.pointer (some ⟨q4,0,none⟩))::(U 5)::(.pointer (some ⟨q6,0,none⟩))::(.pointer (some ⟨q7,0,none⟩))::(.int .i64 (i:Int))::vw67 U 9 []))∧h++[⟨true,q3,.cells (tbL b ps ns ks pw nw cw pb nb cb).toArray 25 (0,0)⟩,⟨true,q4,.cells [.bool bt,.int .i64 li,.int .i64 st].toArray 37 (0,0)⟩,⟨true,q6,.cells [.int .i64 0,.slice none 0 0,.slice none 0 0,.slice none 0 0].toArray 25 (0,0)⟩,⟨true,q7,.cells [.int .i64 b.wrong,.slice ps ns ks,.slice p1 i c1,.slice none 0 0].toArray 25 (0,0)⟩]++W0++FM0=h') _ ⟨0,none,0,[],[],[],rfl,by omega,rfl,OwnS.nil,OwnF.nil,exU rfl,zS⟩ ?_;rintro nn l h' ⟨i,p1,c1,xw,W0,FM0,rfl,hi,hmap0,how0,hof0,⟨U,rfl⟩,rfl⟩ hnext1;refine Z7 ?_
 refine jao rfl zq (fun hc=>?_) (fun hc=>?_)
 ·refine Z5 ?_
  obtain ⟨z_b,z_o,hzp⟩:=rlw.ptr zO
  have rl2:=rlw
  rw [hzp] at rl2
  obtain ⟨hxc,rdf⟩:=hfw _ (jah (l:=lw) (i:=i) zO)
  obtain ⟨x,hx⟩: ∃x,x=lw.getD i default:=⟨_,rfl⟩
  rw [←hx] at hxc rdf
  have hxm:x∈lw:=hx▸jah zO
  have hxl:x.ln.figs.length≤1000:=by
   have:=hsmw x.ln (List.mem_map.2 ⟨x,hxm,rfl⟩)
   exact this
  refine jb3 (S:=h++[⟨true,q3,.cells (tbL b ps ns ks pw nw cw pb nb cb).toArray 25 (0,0)⟩,⟨true,q4,.cells [.bool bt,.int .i64 li,.int .i64 st].toArray 37 (0,0)⟩,⟨true,q6,.cells [.int .i64 0,.slice none 0 0,.slice none 0 0,.slice none 0 0].toArray 25 (0,0)⟩,⟨true,q7,.cells [.int .i64 b.wrong,.slice ps ns ks,.slice p1 i c1,.slice none 0 0].toArray 25 (0,0)⟩]) [0,1,2,3,4,5,6,7,8,9,10,11,12,13,14,15,16,17,18,19,20] zK zK SubH.sub ?_;refine D35 ?_;refine Z7 ?_;refine D78 ?_;refine Zs ?_;refine jaW (v:= .int .i64 x.ln.lat) rfl zq (hx▸rl2.fat i 0 zO zO rfl) ?_;refine Zs ?_;refine D78 ?_;refine Zs ?_;refine jaW (v:= .slice x.p x.ln.figs.length x.c) rfl zq (hx▸rl2.fat i 1 zO zO rfl) ?_;refine jtR kdq rfl zq (fun q28=>jau (jae ?_));refine jqc rfl zq (OwnS.zero (q:=q28)) rdf.up (fun u hu=>jfh _ u hu) kdq zO zO (fun w35 n35 o35=>jae ?_);replace o35:OwnS 9 1 w35 x.ln.figs.length (jaC x.ln.figs) n35:=by simpa using o35
  obtain ⟨p35,c35,rfl,hc35,r35⟩:=jav (B:=B) o35
  refine D37 ?_
  refine jdk kdq rfl zq zA zA rfl (fun q37=>jau (jae ?_));refine jbL rfl zq rfl how0 kdq zO zO (fun w38 n38 o38=>jae ?_);replace o38:OwnS 121 2 w38 (i+1) (jaC (xw++[⟨x.ln,p35,c35⟩])) n38:=by rw [jbB];exact o38
  obtain ⟨p38,c38,rfl,_⟩:=o38.len
  refine Zs ?_;refine D9 ?_;refine Z7 ?_;refine m.weak (h':=h++[⟨true,q3,.cells (tbL b ps ns ks pw nw cw pb nb cb).toArray 25 (0,0)⟩,⟨true,q4,.cells [.bool bt,.int .i64 li,.int .i64 st].toArray 37 (0,0)⟩,⟨true,q6,.cells [.int .i64 0,.slice none 0 0,.slice none 0 0,.slice none 0 0].toArray 25 (0,0)⟩,⟨true,q7,.cells [.int .i64 b.wrong,.slice ps ns ks,.slice p38 (i+1) c38,.slice none 0 0].toArray 25 (0,0)⟩]++n38++(FM0++n35)) jd7 ?_
  exact hnext1 _ _ _ zO ⟨i+1,_,_,xw++[⟨x.ln,p35,c35⟩],n38,FM0++n35,rfl,by omega,by rw [List.map_append,hmap0,List.take_add_one,List.getElem?_eq_getElem zI];simp only [List.getElem_map,Option.toList_some,List.map_cons,List.map_nil];rw [hx,List.getD_eq_getElem?_getD,List.getElem?_eq_getElem zO];rfl,o38,.snoc hof0 o35,exU rfl,rfl⟩
 ·refine Z5 ?_
  obtain rfl:nw=i:=by omega
  refine Z4 ?_
  refine jai (fun nn l h'=> ∃(i:Nat) (p2:Option Addr) (c2:Nat) (xs:List Lp) (W FM:Hp),nn=nb-i∧(i≤nb)∧(xs.map (·.ln)=(lb.map (·.ln)).take i)∧(OwnS 121 2 (.slice p2 i c2) i (jaC xs) W)∧(OwnF xs FM)∧(∃U:Nat→Value,l=((tbV b ps ns ks pw nw cw pb nb cb)::(cV bt li st)::(str f)::(.pointer (some ⟨q3,0,none⟩))::(.pointer (some ⟨q4,0,none⟩))::(U 5)::(.pointer (some ⟨q6,0,none⟩))::(.pointer (some ⟨q7,0,none⟩))::(U 8)::(.int .i64 (i:Int))::vw66 U 10 []))∧h++[⟨true,q3,.cells (tbL b ps ns ks pw nw cw pb nb cb).toArray 25 (0,0)⟩,⟨true,q4,.cells [.bool bt,.int .i64 li,.int .i64 st].toArray 37 (0,0)⟩,⟨true,q6,.cells [.int .i64 0,.slice none 0 0,.slice none 0 0,.slice none 0 0].toArray 25 (0,0)⟩,⟨true,q7,.cells [.int .i64 b.wrong,.slice ps ns ks,.slice p1 nw c1,.slice p2 i c2].toArray 25 (0,0)⟩]++W0++FM0++W++FM=h') _ ⟨0,none,0,[],[],[],rfl,by omega,rfl,OwnS.nil,OwnF.nil,exU rfl,zS⟩ ?_;rintro nn l h' ⟨i,p2,c2,xs,W,FM,rfl,hi2,hmap,how,hof,⟨U,rfl⟩,rfl⟩ hnext2;refine Z7 ?_
  refine jao rfl zq (fun hc=>?_) (fun hc=>?_)
  ·refine Z5 ?_
   obtain ⟨z_b,z_o,hzp⟩:=rlb.ptr zO
   have rl2:=rlb
   rw [hzp] at rl2
   obtain ⟨hxc,rdf⟩:=hfb _ (jah (l:=lb) (i:=i) zO)
   obtain ⟨x,hx⟩: ∃x,x=lb.getD i default:=⟨_,rfl⟩
   rw [←hx] at hxc rdf
   have hxm:x∈lb:=hx▸jah zO
   have hxl:x.ln.figs.length≤1000:=by
    have:=hsmb x.ln (List.mem_map.2 ⟨x,hxm,rfl⟩)
    exact this
   refine jb3 (S:=h++[⟨true,q3,.cells (tbL b ps ns ks pw nw cw pb nb cb).toArray 25 (0,0)⟩,⟨true,q4,.cells [.bool bt,.int .i64 li,.int .i64 st].toArray 37 (0,0)⟩,⟨true,q6,.cells [.int .i64 0,.slice none 0 0,.slice none 0 0,.slice none 0 0].toArray 25 (0,0)⟩,⟨true,q7,.cells [.int .i64 b.wrong,.slice ps ns ks,.slice p1 nw c1,.slice p2 i c2].toArray 25 (0,0)⟩]) [0,1,2,3,4,5,6,7,8,9,10,11,12,13,14,15,16,17,18,19,20] zK zK SubH.sub ?_;refine D35 ?_;refine Z7 ?_;refine D78 ?_;refine Zs ?_;refine jaW (v:= .int .i64 x.ln.lat) rfl zq (hx▸rl2.fat i 0 zO zO rfl) ?_;refine Zs ?_;refine D78 ?_;refine Zs ?_;refine jaW (v:= .slice x.p x.ln.figs.length x.c) rfl zq (hx▸rl2.fat i 1 zO zO rfl) ?_;refine jtR kdq rfl zq (fun q55=>jau (jae ?_));refine jqc rfl zq (OwnS.zero (q:=q55)) rdf.up (fun u hu=>jfh _ u hu) kdq zO zO (fun w35 n35 o35=>jae ?_);replace o35:OwnS 9 1 w35 x.ln.figs.length (jaC x.ln.figs) n35:=by simpa using o35
   obtain ⟨p35,c35,rfl,hc35,r35⟩:=jav (B:=B) o35
   refine D37 ?_
   refine jdk kdq rfl zq zA zA rfl (fun q64=>jau (jae ?_));refine jbL rfl zq rfl how kdq zO zO (fun w38 n38 o38=>jae ?_);replace o38:OwnS 121 2 w38 (i+1) (jaC (xs++[⟨x.ln,p35,c35⟩])) n38:=by rw [jbB];exact o38
   obtain ⟨p38,c38,rfl,_⟩:=o38.len
   refine Zs ?_;refine D9 ?_;refine Z7 ?_;refine m.weak (h':=h++[⟨true,q3,.cells (tbL b ps ns ks pw nw cw pb nb cb).toArray 25 (0,0)⟩,⟨true,q4,.cells [.bool bt,.int .i64 li,.int .i64 st].toArray 37 (0,0)⟩,⟨true,q6,.cells [.int .i64 0,.slice none 0 0,.slice none 0 0,.slice none 0 0].toArray 25 (0,0)⟩,⟨true,q7,.cells [.int .i64 b.wrong,.slice ps ns ks,.slice p1 nw c1,.slice p38 (i+1) c38].toArray 25 (0,0)⟩]++W0++FM0++n38++(FM++n35)) jd7 ?_
   exact hnext2 _ _ _ zO ⟨i+1,_,_,xs++[⟨x.ln,p35,c35⟩],n38,FM++n35,rfl,by omega,by rw [List.map_append,hmap,List.take_add_one,List.getElem?_eq_getElem zI];simp only [List.getElem_map,Option.toList_some,List.map_cons,List.map_nil];rw [hx,List.getD_eq_getElem?_getD,List.getElem?_eq_getElem zO];rfl,o38,.snoc hof o35,exU rfl,rfl⟩
  ·refine Z4 ?_
   obtain rfl:nb=i:=by omega
   rw [List.take_of_length_le zI] at hmap hmap0
   have hxwl:xw.length=nw:=by have:=congrArg List.length hmap0;simp only [List.length_map] at this;omega
   have hxsl:xs.length=nb:=by have:=congrArg List.length hmap;simp only [List.length_map] at this;omega
   cases bt
   replace hli1:li<(lw.length:Int):=by simpa using hli1
   replace hst1:st<((lw.getD li.toNat default).ln.figs.length:Int):=by simpa using hst1
   obtain ⟨sj,hsj⟩:=Int.eq_ofNat_of_zero_le hst0
   obtain ⟨M1f,Fb,M2f,rfl,hofb,hset⟩:=hof0.at (show li.toNat<xw.length by omega)
   obtain ⟨y,hy⟩: ∃y,y=xw.getD li.toNat default:=⟨_,rfl⟩
   rw [←hy] at hofb
   have hyf:st<y.ln.figs.length:=by
    have h1:=hst1
    have h2:(lw.map (·.ln)).getD li.toNat default=y.ln:=by rw [←hmap0,ja1 _ _ zO,←hy]
    rw [←h2,ja1 _ _ zO];exact h1
   rotate_left
   replace hli1:li<(lb.length:Int):=by simpa using hli1
   replace hst1:st<((lb.getD li.toNat default).ln.figs.length:Int):=by simpa using hst1
   obtain ⟨sj,hsj⟩:=Int.eq_ofNat_of_zero_le hst0
   obtain ⟨M1f,Fb,M2f,rfl,hofb,hset⟩:=hof.at (show li.toNat<xs.length by omega)
   obtain ⟨y,hy⟩: ∃y,y=xs.getD li.toNat default:=⟨_,rfl⟩
   rw [←hy] at hofb
   have hyf:st<y.ln.figs.length:=by
    have h1:=hst1
    have h2:(lb.map (·.ln)).getD li.toNat default=y.ln:=by rw [←hmap,ja1 _ _ zO,←hy]
    rw [←h2,ja1 _ _ zO];exact h1
   all_goals
    obtain ⟨bf,fc,junkf,hfv,rfl,hfl,hfc,hfn⟩:=jc2 hofb zO
    injection hfv with hyp _ hyc
    haveI hsf:=jhH (ss:=y.ln.figs) (junk:=junkf) (j:=st) (i:=sj) hsj zO f
    have hrw:=how0.rd (B:=B) (List.Sublist.refl _)
    have hrb:=how.rd (B:=B) (List.Sublist.refl _)
    refine jar [Zp 4,Zp 6,Zr 0,Zr 1,Zr 5,Zk 2,Zp 3,Zp 7,Zf 8] zK zK (List.Sublist.refl _) ?_;refine Z5 ?_
   ·refine jag (Post:=fun v=>v=lpV y) rfl zq zK (fun H' hH=>by
     have h1:=f94_l m (h:=h++[⟨true,q3,.cells (tbL b ps ns ks pw nw cw pb nb cb).toArray 25 (0,0)⟩,⟨true,q4,.cells [.bool true,.int .i64 li,.int .i64 st].toArray 37 (0,0)⟩,⟨true,q6,.cells [.int .i64 0,.slice none 0 0,.slice none 0 0,.slice none 0 0].toArray 25 (0,0)⟩,⟨true,q7,.cells [.int .i64 b.wrong,.slice ps ns ks,.slice p1 nw c1,.slice p2 nb c2].toArray 25 (0,0)⟩]++W0++FM0++W++(M1f++[⟨true,bf,.cells (jaC y.ln.figs++junkf).toArray 9 (0,0)⟩]++M2f)) (H:=H') (by exact hH) (b:=b) (ps:=ps) (ns:=ns) (ks:=ks) (rlw:=hrw.up) (rlb:=hrb.up) (bt:=true) (li:=li) (st:=st) hli0 (by show li<(xs.length:Int);omega)
     rw [hy];exact h1) ?_
    rintro v rfl;refine Zs ?_;refine k_fld rfl zq ?_;refine D119 ?_;refine D9 ?_;refine Z2 ?_
    have hy2:OwnS 9 1 (.slice y.p (y.ln.figs.set sj f).length y.c) (y.ln.figs.set sj f).length (jaC (y.ln.figs.set sj f)) [⟨true,bf,.cells (jaC (y.ln.figs.set sj f)++junkf).toArray 9 (0,0)⟩]:=by
     rw [hyp,hyc];exact E56
    have hnew:=hset ⟨⟨y.ln.lat,y.ln.figs.set sj f⟩,y.p,y.c⟩ _ hy2
    have hH1:HalfO (.slice p2 nb c2) nb (jex (lb.map (·.ln)) li.toNat st.toNat f) (W++(M1f++[⟨true,bf,.cells (jaC (y.ln.figs.set sj f)++junkf).toArray 9 (0,0)⟩]++M2f)):=by
     refine ⟨_,_,_,_,_,rfl,?_,?_,hnew,rfl⟩
     ·have:=jiL hmap (show li.toNat<xs.length by omega) (k:=sj) f y.p y.c
      rw [←hy] at this
      rw [show st.toNat=sj by omega];exact this
     ·rw [jdZ zO (by rw [←hy];simp [lpL])];exact how
    have hH2:HalfO (.slice p1 nw c1) nw (lw.map (·.ln)) (W0++FM0):=⟨xw,_,_,_,_,rfl,hmap0,how0,hof0,rfl⟩
    refine Z2 ?_;refine D6 ?_;refine Z2 ?_;refine jad (h++W0++FM0++W++(M1f++[⟨true,bf,.cells (jaC (y.ln.figs.set sj f)++junkf).toArray 9 (0,0)⟩]++M2f)) rfl Tryz.func33 rfl jab ?_;refine Zs ?_
    exact ⟨W0++FM0++W++(M1f++[⟨true,bf,.cells (jaC (y.ln.figs.set sj f)++junkf).toArray 9 (0,0)⟩]++M2f),p1,c1,p2,c2,by simp only [List.append_assoc],rfl,hhrd hH2 (by exact (List.sublist_append_left _ _).trans (List.sublist_append_left _ _)),hhrd hH1 (by rw [List.append_assoc (W0++_)];exact List.sublist_append_right _ _)⟩
   ·refine jag (Post:=fun v=>v=lpV y) rfl zq zK (fun H' hH=>by
     have h1:=f94_l m (h:=h++[⟨true,q3,.cells (tbL b ps ns ks pw nw cw pb nb cb).toArray 25 (0,0)⟩,⟨true,q4,.cells [.bool false,.int .i64 li,.int .i64 st].toArray 37 (0,0)⟩,⟨true,q6,.cells [.int .i64 0,.slice none 0 0,.slice none 0 0,.slice none 0 0].toArray 25 (0,0)⟩,⟨true,q7,.cells [.int .i64 b.wrong,.slice ps ns ks,.slice p1 nw c1,.slice p2 nb c2].toArray 25 (0,0)⟩]++W0++(M1f++[⟨true,bf,.cells (jaC y.ln.figs++junkf).toArray 9 (0,0)⟩]++M2f)++W++FM) (H:=H') (by exact hH) (b:=b) (ps:=ps) (ns:=ns) (ks:=ks) (rlw:=hrw.up) (rlb:=hrb.up) (bt:=false) (li:=li) (st:=st) hli0 (by show li<(xw.length:Int);omega)
     rw [hy];exact h1) ?_
    rintro v rfl;refine Zs ?_;refine k_fld rfl zq ?_;refine D119 ?_;refine D9 ?_;refine Z2 ?_
    have hy2:OwnS 9 1 (.slice y.p (y.ln.figs.set sj f).length y.c) (y.ln.figs.set sj f).length (jaC (y.ln.figs.set sj f)) [⟨true,bf,.cells (jaC (y.ln.figs.set sj f)++junkf).toArray 9 (0,0)⟩]:=by
     rw [hyp,hyc];exact E56
    have hnew:=hset ⟨⟨y.ln.lat,y.ln.figs.set sj f⟩,y.p,y.c⟩ _ hy2
    have hH1:HalfO (.slice p1 nw c1) nw (jex (lw.map (·.ln)) li.toNat st.toNat f) (W0++(M1f++[⟨true,bf,.cells (jaC (y.ln.figs.set sj f)++junkf).toArray 9 (0,0)⟩]++M2f)):=by
     refine ⟨_,_,_,_,_,rfl,?_,?_,hnew,rfl⟩
     ·have:=jiL hmap0 (show li.toNat<xw.length by omega) (k:=sj) f y.p y.c
      rw [←hy] at this
      rw [show st.toNat=sj by omega];exact this
     ·rw [jdZ zO (by rw [←hy];simp [lpL])];exact how0
    have hH2:HalfO (.slice p2 nb c2) nb (lb.map (·.ln)) (W++FM):=⟨xs,_,_,_,_,rfl,hmap,how,hof,rfl⟩
    refine Z2 ?_;refine D6 ?_;refine Z2 ?_;refine jad (h++W0++(M1f++[⟨true,bf,.cells (jaC (y.ln.figs.set sj f)++junkf).toArray 9 (0,0)⟩]++M2f)++W++FM) rfl Tryz.func33 rfl jab ?_;refine Zs ?_
    exact ⟨W0++(M1f++[⟨true,bf,.cells (jaC (y.ln.figs.set sj f)++junkf).toArray 9 (0,0)⟩]++M2f)++W++FM,p1,c1,p2,c2,by simp only [List.append_assoc],rfl,hhrd hH1 (by exact (List.sublist_append_left _ _).trans (List.sublist_append_left _ _)),hhrd hH2 (by rw [List.append_assoc (W0++_)];exact List.sublist_append_right _ _)⟩
end
theorem jp7 {p:Nat→Bool} {g:List Int} (ha:Asc g) (hx: ∀x∈g,0≤x∧x<(n:Int)) (h1:p (jbS g)=true) (h2:((List.range (2^n)).all fun mm=>!p mm||!ltW (jb6 mm n) g)=true):jcA (fun l=>p (jbS l)=true) n g:=by
 refine ⟨ha,hx,h1,fun xs ha' hx' hp hf=>?_⟩
 obtain ⟨mm,hmm,rfl⟩:=jtD ha' hx'
 have h3:=List.all_eq_true.1 h2 mm (List.mem_range.2 hmm)
 have hp':p (jbS (jb6 mm n))=true:=hp
 rw [jdl hmm] at hp'
 rw [hp',jjF.2 hf] at h3
 cases h3
def exN:Tb:={exT with wrong:=0}
def exC:Tb:=jat exN ⟨false,0,1⟩ [49,45,50,45,48]
theorem ex_ok:tbS exT=0:=by kernel_rfl
theorem exN_ok:tbS exN=0:=by kernel_rfl
theorem jld:tbS exC=0:=by kernel_rfl
theorem jqo:(jac exT).length=11:=by kernel_rfl
theorem jn7:(jac exN).length=1:=by kernel_rfl
theorem jul:(jac exC).length=0:=by kernel_rfl
theorem ex_sound:jbJ (cdT exT)=true:=by kernel_rfl
theorem juj:jbJ (cdT exC)=false:=by kernel_rfl
theorem exC_few:jcA (fun l=>jn3 exC (jbS l)=true) 6 [1]:=jp7 (by simp [Asc]) zA zK zK
theorem juk:jcA (fun l=>jc4 exC (jbS l)=true) 6 [1,5]:=jp7 (by simp [Asc]) zA zK zK
def fiC:Ce:=⟨false,0,1⟩
def buC:Ce:=⟨true,0,1⟩
theorem jfg:jaJ exT 0=0∧jaJ exN 0=0∧jaJ exT (jdv exT fiC)=0∧jaJ exN (jdv exN fiC)=0∧jaJ exT (jdv exT buC)=0∧jaJ exN (jdv exN buC)=0:=by
 refine ⟨?_,?_,?_,?_,?_,?_⟩<;>kernel_rfl
theorem exT_can:jeu exT fiC=[96,104,112,120,128]:=by kernel_rfl
theorem exN_can:jeu exN fiC=[96]:=by kernel_rfl
theorem jug:jeH (jaU (jac exT) (plN exT buC)) (jac exT).length=0:=by kernel_rfl
theorem juh:jeH (jaU (jac exN) (plN exN buC)) (jac exN).length=2:=by kernel_rfl
theorem ex_fig:jce 115=[49,45,50,45,51]:=by kernel_rfl
theorem jj2:ja6 [49,45,63,45,48]=true∧jfs (jbl [49,45,63,45,48])=96∧jiA (jbl [49,45,63,45,48])=184∧(jbl [49,45,63,45,48]).length=12:=by
 refine ⟨?_,?_,?_,?_⟩<;>kernel_rfl
theorem jo6:jaE exN false 1 96=(96,132):=by kernel_rfl
theorem jrK:jaE exN true 1 100=(72,128):=by kernel_rfl
theorem jui:jaJ exN (jfJ exN 1 96)=0∧jaJ exN (jfJ exN 1 100)=0:=by
 refine ⟨?_,?_⟩<;>kernel_rfl
theorem jo5:(askR exT).2=6∧(askR exT).1.isSome=true∧cOfA exT (askR exT).1=fiC:=by
 refine ⟨?_,?_,?_⟩<;>kernel_rfl
def exR:Tb:=jat exT fiC (jcJ (jeC exT fiC [49,45,48,45,63]))
def exP:Tb:=jat exT buC [48,45,56,45,48]
theorem jn5:jgE exT fiC [49,45,48,45,63]=0∧tbS exR=0∧(jac exR).length=7:=by
 refine ⟨?_,?_,?_⟩<;>kernel_rfl
theorem jn6:putS exT buC [48,45,56,45,48]=0∧tbS exP=0∧(jac exP).length=38:=by
 refine ⟨?_,?_,?_⟩<;>kernel_rfl
section
variable [LaidO B]
theorem RdLn.ro {v:Value} (r:RdLn B h v n lns):RdLn B (Lo.ro h) v n lns:=by
 obtain ⟨lps,e,r1,r2⟩:=r
 exact ⟨lps,e,r1.ro,fun x hx=>⟨(r2 x hx).1,fun hp=>((r2 x hx).2 hp).ro⟩⟩
theorem RawTb.ro (r:RawTb B h b ps ns ks pw nw cw pb nb cb):RawTb B (Lo.ro h) b ps ns ks pw nw cw pb nb cb:=
 ⟨r.s.ro,r.sc,r.sn,RdLn.ro r.w,r.wn,RdLn.ro r.u,r.un,r.sm⟩
theorem jkr (a:Hp):ro (ro a)=ro a:=by simp [ro]
theorem jez (w:Bool) (q:Nat) (o:Obj) (a:Hp):ro (⟨w,q,o⟩::a)=⟨false,q,o⟩::ro a:=rfl
theorem jgq:ro []=[]:=rfl
theorem exN_raw (r:RawTb B h exT ps 2 2 pw 2 2 pb 1 1):RawTb B h exN ps 2 2 pw 2 2 pb 1 1:=⟨r.s,r.sc,r.sn,r.w,r.wn,r.u,r.un,⟨r.sm.sts,r.sm.wat,r.sm.but⟩⟩
section
variable {P:Program} {m:Md P B} {ops:Array Oper} {l l':List Value} {S h h' H:Hp} {C:List Value→Hp→Prop} {kd:Kd} {r:List (Nat×Kd)} {d:Option Tmp} {pos:String} {af:Array Edge} {g:Option (Nat×Bool)}
omit [LaidO B] in
theorem jjK {x y:Operand} {a b a' b':Int} (ho:ops[i]?=some ⟨d,.binOp .eql t x y u,ty,pos,af,g⟩) (hw:Wt ops l g) [kh:KHeap kd S h H] [ex:OpV l x (.agg [.int .i64 a,.int .i64 b].toArray)] [ey:OpV l y (.agg [.int .i64 a',.int .i64 b'].toArray)] [KeyT P t]
  (hg:P.eqGuardType P.depth t=false) (e:a=a'∧b=b') [pf:PutV l d (.bool true) l'] (q:RegK m S ops r l' h C):RegK m S ops ((i,kd)::r) l h C:=by
 have he:=jnh (P:=P) (B:=B) (h:=H) 9998 (t:=t) a b a' b'
 have e2:(a==a'&&b==b')=true:=by simp [e]
 rw [e2] at he
 exact jk7 ho hw hg he q
omit [LaidO B] in
theorem k_eqlCT {x y:Operand} {a b a' b':Int} {c c':Bool} (ho:ops[i]?=some ⟨d,.binOp .eql t x y u,ty,pos,af,g⟩) (hw:Wt ops l g) [kh:KHeap kd S h H] [ex:OpV l x (.agg [.bool c,.int .i64 a,.int .i64 b].toArray)] [ey:OpV l y (.agg [.bool c',.int .i64 a',.int .i64 b'].toArray)] [KeyCT P t]
  (hg:P.eqGuardType P.depth t=false) (e:c=c'∧a=a'∧b=b') [pf:PutV l d (.bool true) l'] (q:RegK m S ops r l' h C):RegK m S ops ((i,kd)::r) l h C:=by
 have he:=jjr (P:=P) (B:=B) (h:=H) 9997 (t:=t) c c' a b a' b'
 have e2:(c==c'&&(a==a'&&b==b'))=true:=by simp [e]
 rw [e2] at he
 exact jk7 ho hw hg he q
end
instance:KeyT Tryz.prog 29:=⟨by kernel_rfl⟩
theorem exC_sm:TbSm exC:=⟨by decide,by decide,by decide⟩
theorem f33_x (m:Md Tryz.prog B) (h:Hp) (r:RawTb B h exN ps 2 2 pw 2 2 pb 1 1):FnC m 33 #[tbV exN ps 2 2 pw 2 2 pb 1 1,cV false 0 1,str [49,45,50,45,48]] h fun v h'=> ∃nz,h'=h++nz∧ ∃pw' cw' pb' cb',v=tbV exN ps 2 2 pw' 2 cw' pb' 1 cb'∧RdLn B nz (.slice pw' 2 cw') 2 exC.waters∧RdLn B nz (.slice pb' 1 cb') 1 exC.butts:=by
 obtain ⟨lw,hlw,rlw,hfw⟩:=r.w
 obtain ⟨lb,hlb,rlb,hfb⟩:=r.u
 have hl:lw.length=2:=rlw.elen zA
 have h2:(lw.map (·.ln)).getD 0 default=(lw.getD 0 default).ln:=ja1 _ _ zO
 have h3:(lw.getD 0 default).ln.figs.length=2:=by rw [←h2,hlw];rfl
 have hfw':=fun x hx=>(⟨(hfw x hx).1,(hfw x hx).2 ((by decide: ∀l∈exN.waters,0<l.figs.length) x.ln (hlw▸List.mem_map.2 ⟨x,hx,rfl⟩))⟩:x.ln.figs.length≤x.c∧RdS B h 1 (.slice x.p x.ln.figs.length x.c) x.ln.figs.length (jaC x.ln.figs))
 have hfb':=fun x hx=>(⟨(hfb x hx).1,(hfb x hx).2 ((by decide: ∀l∈exN.butts,0<l.figs.length) x.ln (hlb▸List.mem_map.2 ⟨x,hx,rfl⟩))⟩:x.ln.figs.length≤x.c∧RdS B h 1 (.slice x.p x.ln.figs.length x.c) x.ln.figs.length (jaC x.ln.figs))
 refine CallF.mono (f33_c m h (b:=exN) rlw rlb zO zO hfw' hfb' (by rw [hlw];decide) (by rw [hlb];decide) false 0 1 [49,45,50,45,48] zO zN zO (by simp;simp at h3;omega)) ?_
 rintro v h' ⟨nz,pw',cw',pb',cb',e1,e2,e3,e4⟩;refine ⟨nz,e1,pw',cw',pb',cb',e2,?_,?_⟩
 ·rw [hlw] at e3
  exact e3
 ·rw [hlb] at e4
  exact e4
theorem f20_c (h:Hp):FnC (Md.starC Tryz.prog B) 20 #[] h fun v h'=> ∃nw,h'=ro h++nw∧v= .bool true:=by
 refine jaf Tryz.func20 rfl rfl (l:=uu320) rfl ?_
 intro cf cs K hK
 refine Z6 ?_;refine D71 ?_
 rintro v nA ⟨pA1,pA2,pA3,rfl,raA⟩;refine jaH (jae ?_);refine D71 ?_
 rintro v nB ⟨pB1,pB2,pB3,rfl,raB⟩;refine jaH (jae ?_);have raN:=exN_raw raB
 refine jax rfl zq (fun q1=>jau (jae ?_));refine jax rfl zq (fun q2=>jau (jae ?_));refine D6 ?_;refine D6 ?_;refine Z4 ?_;refine D9 ?_;refine Z3 ?_;refine D37 ?_;refine D37 ?_
 refine jax rfl zq (fun q3=>jau (jae ?_));refine jax rfl zq (fun q4=>jau (jae ?_));refine D6 ?_;refine D6 ?_;refine Z5 ?_;refine jaD rfl zq zK (Post:=fun v nw=> ∃pw' cw' pb' cb',v=tbV exN pB1 2 2 pw' 2 cw' pb' 1 cb'∧RdLn B nw (.slice pw' 2 cw') 2 exC.waters∧RdLn B nw (.slice pb' 1 cb') 1 exC.butts) (fun H' hH=>f33_x _ H' (raN.keeps (sq hH))) ?_
 rintro v nC ⟨pC2,cC2,pC3,cC3,rfl,wC,uC⟩;refine jaH (jae ?_);have raC: ∀H',nB.Sublist H'→nC.Sublist H'→RawTb B H' exC pB1 2 2 pC2 2 cC2 pC3 1 cC3:=fun H' s1 s2=>⟨raB.s.keeps s1,raB.sc,raB.sn,wC.keeps s2,by omega,uC.keeps s2,by omega,exC_sm⟩
 refine jax rfl zq (fun q5=>jau (jae ?_));refine jhx ?_;refine jag (Post:=fun v=>v= .tuple [.int .i64 96,.int .i64 184,.int .i64 12,.int .i64 0].toArray) rfl zq zK (fun H' hH=>by have:=f62_c (Md.starC Tryz.prog B) H' [49,45,63,45,48] zA;rw [if_pos jj2.1,if_pos jj2.1,if_pos jj2.1,if_pos jj2.1,jj2.2.1,jj2.2.2.1,jj2.2.2.2] at this;exact this) ?_
 rintro v rfl;refine Z4 ?_;refine jnJ rfl zq ?_;refine k_ext3 rfl zq ?_;refine Z7 ?_;refine jag (Post:=fun v=>v= .tuple [str [49,45,50,45,51],.int .i64 0].toArray) rfl zq zK (fun H' hH=>by have:=f59_c (Md.starC Tryz.prog B) H' 115;rw [if_pos zA,if_pos zA,show (115:Int).toNat=115 from rfl,ex_fig] at this;exact this) ?_
 rintro v rfl;refine Z10 ?_;refine jag (Post:=fun v=>v= .tuple [.int .i64 11,.int .i64 0].toArray) rfl zq zK (fun H' hH=>by have:=f28_c (Md.starC Tryz.prog B) H' (b:=exT) (raA.keeps (sq hH));rw [if_pos ex_ok,jqo,ex_ok] at this;exact this) ?_
 rintro v rfl;refine Z10 ?_;refine jag (Post:=fun v=>v= .tuple [.int .i64 1,.int .i64 0].toArray) rfl zq zK (fun H' hH=>by have:=f28_c (Md.starC Tryz.prog B) H' (b:=exN) (raN.keeps (sq hH));rw [if_pos exN_ok,jn7,exN_ok] at this;exact this) ?_
 rintro v rfl;refine Z10 ?_;refine jag (Post:=fun v=>v= .tuple [.int .i64 0,.int .i64 0].toArray) rfl zq zK (fun H' hH=>by have:=f28_c (Md.starC Tryz.prog B) H' (b:=exC) (raC H' (sq hH) (sq hH));rw [if_pos jld,jul,jld] at this;exact this) ?_
 rintro v rfl;refine Z11 ?_;refine jaD rfl zq zK (Post:=fun v nw=> ∃w,v= .tuple [w,.int .i64 (jaJ exT (jdv exT fiC))].toArray∧RdI B nw w (jeu exT fiC)) (fun H' hH=>f29_s _ H' (b:=exT) (raA.keeps (sq hH)) fiC (by rw [jqo];decide)) ?_
 rintro v nD ⟨w,rfl,hw⟩;refine jaH (jae ?_);rw [exT_can] at hw
 rw [jfg.2.2.1];obtain ⟨pcT,ccT,rfl,rcT⟩:=hw
 refine Z10 ?_;refine jaD rfl zq zK (Post:=fun v nw=> ∃w,v= .tuple [w,.int .i64 (jaJ exN (jdv exN fiC))].toArray∧RdI B nw w (jeu exN fiC)) (fun H' hH=>f29_s _ H' (b:=exN) (raN.keeps (sq hH)) fiC (by rw [jn7];decide)) ?_
 rintro v nE ⟨w,rfl,hw⟩;refine jaH (jae ?_);rw [exN_can] at hw
 rw [jfg.2.2.2.1];obtain ⟨pcN,ccN,rfl,rcN⟩:=hw
 refine Z10 ?_;refine jag (Post:=fun v=>v= .tuple [.int .i64 0,.int .i64 0].toArray) rfl zq zK (fun H' hH=>by have:=f30_c (Md.starC Tryz.prog B) H' (b:=exT) (raA.keeps (sq hH)) buC;rw [if_pos jfg.2.2.2.2.1,jug,jfg.2.2.2.2.1] at this;exact this) ?_
 rintro v rfl;refine Z11 ?_;refine jag (Post:=fun v=>v= .tuple [.int .i64 2,.int .i64 0].toArray) rfl zq zK (fun H' hH=>by have:=f30_c (Md.starC Tryz.prog B) H' (b:=exN) (raN.keeps (sq hH)) buC;rw [if_pos jfg.2.2.2.2.2,juh,jfg.2.2.2.2.2] at this;exact this) ?_
 rintro v rfl;refine Z10 ?_;refine jag (Post:=fun v=> ∃w,v= .tuple [w,.int .i64 (tbS exT)].toArray∧IsB (tbS exT=0∧jbJ (cdT exT)=true) w) rfl zq zK (fun H' hH=>f45_c _ H' (b:=exT) (raA.keeps (sq hH))) ?_
 rintro v ⟨w45,rfl,hw45⟩;obtain rfl:=jhg hw45 ⟨ex_ok,ex_sound⟩
 rw [ex_ok];refine Z10 ?_;refine ja7 rfl zq zK (f40_c _ (raC _ SubH.sub SubH.sub)) ?_
 rintro v h' ⟨nF,w40,g40,rfl,rfl,rg40,_,hl40⟩;refine Zs ?_
 obtain rfl:=jk5 (hl40 jld) exC_few
 rw [jld];obtain ⟨p40,c40,rfl,r40⟩:=rg40
 have raCr: ∀H',(ro nB).Sublist H'→(ro nC).Sublist H'→RawTb B H' exC pB1 2 2 pC2 2 cC2 pC3 1 cC3:=fun H' s1 s2=>⟨raB.s.ro.keeps s1,raB.sc,raB.sn,(RdLn.ro wC).keeps s2,by omega,(RdLn.ro uC).keeps s2,by omega,exC_sm⟩
 simp only [jfp,jkr,jez,jgq]
 simp only [jfp,jkr,jez,jgq] at r40
 refine Z9 ?_;refine ja7 rfl zq zK (f41_c _ (raCr _ SubH.sub SubH.sub)) ?_
 rintro v h' ⟨nG,w41,g41,rfl,rfl,rg41,_,_,hl41⟩;refine Zs ?_
 obtain rfl:=jk5 (hl41 jld (by rw [juj];decide)) juk
 rw [jld];obtain ⟨p41,c41,rfl,r41⟩:=rg41
 have raAr:=raA.ro
 have raNr:=raN.ro
 have r40r:=r40.ro
 have rcTr:=rcT.ro
 have rcNr:=rcN.ro
 simp only [jfp,jkr,jez,jgq]
 simp only [jfp,jkr,jez,jgq] at r41 r40r
 refine Z9 ?_;refine jag (Post:=fun v=>v= .tuple [.agg [.int .i64 96,.int .i64 132].toArray,.int .i64 0].toArray) rfl zq zK (fun H' hH=>by have:=f21_c (Md.starC Tryz.prog B) H' (b:=exN) (raNr.keeps (sq hH)) 1 96;rw [jo6,jui.1] at this;exact this) ?_
 rintro v rfl;refine Z4 ?_
 refine jax rfl zq (fun q32=>jau (jae ?_));refine D6 ?_;refine Z5 ?_;refine jag (Post:=fun v=>v= .tuple [.agg [.int .i64 72,.int .i64 128].toArray,.int .i64 0].toArray) rfl zq zK (fun H' hH=>by have:=f23_c (Md.starC Tryz.prog B) H' (b:=exN) (raNr.keeps (sq hH)) 1 100;rw [jrK,jui.2] at this;exact this) ?_
 rintro v rfl;refine Z4 ?_
 refine jax rfl zq (fun q34=>jau (jae ?_));refine jhx ?_;refine D57 ?_;refine Zs ?_;refine jag (Post:=fun v=>v= .tuple [.agg [.bool false,.int .i64 0,.int .i64 1].toArray,.int .i64 6,.bool true,.int .i64 0].toArray) rfl zq zK (fun H' hH=>by have:=f50_c (Md.starC Tryz.prog B) H' (b:=exT) (raAr.keeps (sq hH));rw [jo5.2.2,jo5.1,jo5.2.1,jfg.1] at this;exact this) ?_
 rintro v rfl;refine Z4 ?_;refine jnJ rfl zq ?_;refine k_ext3 rfl zq ?_
 refine jax rfl zq (fun q36=>jau (jae ?_));refine D6 ?_;refine Z8 ?_;refine jaD rfl zq zK (Post:=fun v nw=>jrX B (jgE exT fiC [49,45,48,45,63]) exR nw v) (fun H' hH=>f53_c _ H' (b:=exT) (raAr.keeps (sq hH)) fiC [49,45,48,45,63] zA) ?_
 rintro v nH ⟨x0,y1,z1,w1,y2,z2,w2,y3,z3,w3,rfl,_,hz⟩;refine jaH (jae ?_);obtain ⟨psexR,nsexR,ksexR,pwexR,nwexR,cwexR,pbexR,nbexR,cbexR,eexR,raexR⟩:=hz jn5.1
 rw [eexR,jn5.1];refine Z3 ?_
 refine jax rfl zq (fun q40=>jau (jae ?_));refine D6 ?_;refine Z5 ?_;refine jag (Post:=fun v=>v= .tuple [.int .i64 7,.int .i64 0].toArray) rfl zq zK (fun H' hH=>by have:=f28_c (Md.starC Tryz.prog B) H' (b:=exR) (raexR.keeps (sq hH));rw [if_pos jn5.2.1,jn5.2.2,jn5.2.1] at this;exact this) ?_
 rintro v rfl;refine Z11 ?_;refine jaD rfl zq zK (Post:=fun v nw=>jrX B (putS exT buC [48,45,56,45,48]) exP nw v) (fun H' hH=>f60_c _ H' (b:=exT) (raAr.keeps (sq hH)) buC [48,45,56,45,48] zA) ?_
 rintro v nP ⟨x0,y1,z1,w1,y2,z2,w2,y3,z3,w3,rfl,_,hz⟩;refine jaH (jae ?_);obtain ⟨psexP,nsexP,ksexP,pwexP,nwexP,cwexP,pbexP,nbexP,cbexP,eexP,raexP⟩:=hz jn6.1
 rw [eexP,jn6.1];refine Z3 ?_
 refine jax rfl zq (fun q44=>jau (jae ?_));refine D6 ?_;refine Z5 ?_;refine jag (Post:=fun v=>v= .tuple [.int .i64 38,.int .i64 0].toArray) rfl zq zK (fun H' hH=>by have:=f28_c (Md.starC Tryz.prog B) H' (b:=exP) (raexP.keeps (sq hH));rw [if_pos jn6.2.1,jn6.2.2,jn6.2.1] at this;exact this) ?_
 rintro v rfl;refine Z9 ?_;refine jaK [Zf 0,Zf 1,Zf 2,Zf 3,Zf 4,Zf 5,Zf 6,Zf 7,Zf 8,Zf 9,Zf 10,Zf 11,Zf 12,Zf 13,Zf 14,Zf 15,Zf 16,Zf 17,Zf 18,Zf 19,Zf 20,Zf 21,Zf 22,Zf 23,Zf 24,Zf 25,Zf 26,Zf 27,Zf 28,Zf 29,Zf 30,Zf 31,Zf 32,Zf 33,Zf 34,Zf 35,Zf 36,Zf 37,Zf 38,Zf 39,Zf 40,Zf 41,Zf 42,Zf 43,Zf 44,Zf 45,Zf 46,Zf 47,Zf 48,Zf 49,Zf 50,Zf 51,Zf 52,Zf 53,Zf 54,Zf 55,Zf 56,Zf 57,Zf 58,Zf 59,Zf 60,Zf 61,Zf 62,Zf 63,Zf 64,Zf 65,Zf 66,Zf 67,Zf 68,Zf 69,Zf 70,Zf 71,Zf 72,Zf 73] zK zK ?_;refine Zs ?_;refine ja5 rfl zq zA ?_;refine Z2 ?_;refine D136 ?_;refine D136 ?_;refine D136 ?_;refine D136 ?_;refine D136 ?_;refine D136 ?_;refine D136 ?_;refine D136 ?_;refine D121 ?_;refine D19 ?_;refine Z6 ?_;refine jaK [Zf 0,Zf 1,Zf 2,Zf 3,Zf 4,Zf 5,Zf 6,Zf 7,Zf 8,Zf 9,Zf 10,Zf 11,Zf 12,Zf 13,Zf 14,Zf 15,Zf 16,Zf 17,Zf 18,Zf 19,Zf 20,Zf 21,Zf 22,Zf 23,Zf 24,Zf 25,Zf 26,Zf 27,Zf 28,Zf 29,Zf 30,Zf 31,Zf 32,Zf 33,Zf 34,Zf 35,Zf 36,Zf 37] zK zK ?_;refine Zs ?_;refine ja5 rfl zq zA ?_;refine Z2 ?_;refine D136 ?_;refine jdL rfl rfl rfl ?_;refine Z3 ?_;refine D136 ?_;refine D121 ?_
 refine jdk kdq rfl rfl zA zA rfl (fun q261=>jau (jae ?_));have rd261:RdS B [⟨true,q261,.cells [.int .i64 96,.int .i64 104,.int .i64 112,.int .i64 120,.int .i64 128].toArray 3 (0,0)⟩] 1 (.slice (some ⟨q261,0,none⟩) 5 5) 5 (jaI [96,104,112,120,128]):=(OwnS.full (t:=3) (q:=q261) (cs:=jaI [96,104,112,120,128]) rfl).rd (List.Sublist.refl _)
 refine jag (Post:=fun v=>IsB _ v) rfl rfl zK (fun H' hH=>f61_c _ H' (rcTr.keeps (sq hH)) zA (rd261.keeps (sq hH))) ?_;rintro v (⟨hc,rfl⟩|⟨hc,rfl⟩)
 ·refine Z5 ?_
  refine jdk kdq rfl rfl zA zA rfl (fun q267=>jau (jae ?_));have rd267:RdS B [⟨true,q267,.cells [.int .i64 96].toArray 3 (0,0)⟩] 1 (.slice (some ⟨q267,0,none⟩) 1 1) 1 (jaI [96]):=(OwnS.full (t:=3) (q:=q267) (cs:=jaI [96]) rfl).rd (List.Sublist.refl _)
  refine jag (Post:=fun v=>IsB _ v) rfl rfl zK (fun H' hH=>f61_c _ H' (rcNr.keeps (sq hH)) zA (rd267.keeps (sq hH))) ?_;rintro v (⟨hc,rfl⟩|⟨hc,rfl⟩)
  ·refine Z7 ?_;refine jaK [Zf 0,Zf 1,Zf 2,Zf 3,Zf 4,Zf 5,Zf 6,Zf 7,Zf 8,Zf 9,Zf 10,Zf 11,Zf 12,Zf 13,Zf 14,Zf 15,Zf 16,Zf 17,Zf 18,Zf 19,Zf 20,Zf 21,Zf 22,Zf 23,Zf 24,Zf 25,Zf 26,Zf 27,Zf 28,Zf 29,Zf 30,Zf 31,Zf 32,Zf 33,Zf 34,Zf 35,Zf 36,Zf 37,Zf 38,Zf 39,Zf 40,Zf 41,Zf 42,Zf 43,Zf 44,Zf 45,Zf 46,Zf 47,Zf 48,Zf 49] zK zK ?_;refine Zs ?_;refine jbn rfl zq zA ?_;refine Z2 ?_;refine jbn rfl rfl zA ?_;refine Z6 ?_
   refine jdk kdq rfl rfl zA zA rfl (fun q282=>jau (jae ?_));have rd282:RdS B [⟨true,q282,.cells [.int .i64 1].toArray 3 (0,0)⟩] 1 (.slice (some ⟨q282,0,none⟩) 1 1) 1 (jaI [1]):=(OwnS.full (t:=3) (q:=q282) (cs:=jaI [1]) rfl).rd (List.Sublist.refl _)
   refine jag (Post:=fun v=>IsB _ v) rfl rfl zK (fun H' hH=>f61_c _ H' (r40r.keeps (sq hH)) zA (rd282.keeps (sq hH))) ?_;rintro v (⟨hc,rfl⟩|⟨hc,rfl⟩)
   ·refine Z4 ?_
    refine jdk kdq rfl rfl zA zA rfl (fun q287=>jau (jae ?_));have rd287:RdS B [⟨true,q287,.cells [.int .i64 1,.int .i64 5].toArray 3 (0,0)⟩] 1 (.slice (some ⟨q287,0,none⟩) 2 2) 2 (jaI [1,5]):=(OwnS.full (t:=3) (q:=q287) (cs:=jaI [1,5]) rfl).rd (List.Sublist.refl _)
    refine jag (Post:=fun v=>IsB _ v) rfl rfl zK (fun H' hH=>f61_c _ H' (r41.keeps (sq hH)) zA (rd287.keeps (sq hH))) ?_;rintro v (⟨hc,rfl⟩|⟨hc,rfl⟩)
    ·refine Z4 ?_;refine jnL rfl rfl ?_;refine jjK rfl rfl zK zA ?_;refine Z3 ?_;refine jnL rfl rfl ?_;refine jjK rfl rfl zK zA ?_;refine Z4 ?_;refine k_eqlCT rfl rfl zK zA ?_;refine Z3 ?_;refine jbn rfl rfl zA ?_;refine Z6 ?_;refine jbn rfl rfl zA ?_;refine Z3 ?_;refine jbn rfl rfl zA ?_;refine Z4 ?_;refine jad (ro h) rfl Tryz.func20 rfl jab ?_;refine Zs ?_
     exact ⟨[],by simp,rfl⟩
    ·refine Zs ?_
     exact absurd rfl hc
   ·refine Zs ?_
    exact absurd rfl hc
  ·refine Zs ?_
   exact absurd rfl hc
 ·refine Zs ?_
  exact absurd rfl hc
end
end Go.Proofs
namespace Go.Proofs
open Go.Lo
section
theorem jkb {j:Nat} (hi:i<(jaa b).length) (hj:j<(jaa b).length) (e:(jaa b).getD i default=(jaa b).getD j default):i=j:=by
 rw [List.getD_eq_getElem?_getD,List.getElem?_eq_getElem hi,List.getD_eq_getElem?_getD,List.getElem?_eq_getElem hj] at e
 simp only [Option.getD_some] at e
 have u:=List.pairwise_iff_getElem.1 (jbu b)
 rcases Nat.lt_trichotomy i j with h|h|h
 ·exact absurd e (u i j hi hj h)
 ·exact h
 ·exact absurd e.symm (u j i hj hi h)
end
theorem jbF (b:Tb) (c:Ce) (f:Str):(jat b c f).sts=b.sts∧(jat b c f).wrong=b.wrong:=by unfold jat;split<;>exact ⟨rfl,rfl⟩
end Go.Proofs
namespace Go.Proofs
open Go.Lo
open Go.Conc (G)
section
variable [LaidO B]
section
variable {S h h' H:Hp}
end
theorem jgr (hk:k<(jaa b).length):plN b ((jaa b).getD k default)=k:=by
 have hm:(jaa b).getD k default∈jaa b:=jah hk
 exact jkb (jkY.2 hm) hk (plN_get hm)
theorem jg6 (hk:k<(jaa b).length):jdv b ((jaa b).getD k default)=0:=by
 rw [jdv,if_pos (jah hk)]
section
theorem jjs (rds:RdS B h 1 (.slice ps ns ks) ns (jaC b.sts)) (hcs:ns≤ks) (rdw:RdLn B h (.slice pw nw cw) nw b.waters) (rdb:RdLn B h (.slice pb nb cb) nb b.butts) (hg: ¬jqz b):RawTb B h b ps ns ks pw nw cw pb nb cb:=by
 have hml:=rds.elen zA
 have hwl:=jaV rdw
 have hbl:=jaV rdb
 have h1:ns≤20:=Nat.le_of_not_lt fun x=>hg (.inl zO)
 have h2:nw≤20:=Nat.le_of_not_lt fun x=>hg (.inr (.inl zO))
 have h3:nb≤20:=Nat.le_of_not_lt fun x=>hg (.inr (.inr (.inl zO)))
 exact ⟨rds,hcs,by omega,rdw,by omega,rdb,by omega,jpC hg⟩
end
end
end Go.Proofs
namespace Go.Proofs.YtggpepeiedkbbaaGreatDoor
open Go Go.Lo Go.ChangeShapes Go.WideShapes Go.ChangeAt Go.RowKit Go.Conc
theorem jmO (Lk:Looks) {p:Pinned} {s:OpenSpec} {k:StoodClaim8} {ks:List StandKind} (kinds:List LaidKind) (tests:Bool) (h:Claim7.holdsNew p (.plain s) {stood:=k,kinds:=ks}) (hw:k.row.wfByText s=true):
  Claim7.holdsNew p (.plain s) {stood:=k,kinds:=ks,goes:=true,laidByText:=true,laidKinds:=kinds,laidTests:=tests,laidLooks:=Lk}:=by
 obtain ⟨_,rest⟩:=h
 exact ⟨hw,rest⟩
theorem jgN (Lk:Looks) {p:Pinned} {s:OpenSpec} {c:OpenClaim} (kinds:List LaidKind) (tests:Bool) (har:Bool×String) (lk:Bool)
  (hc:c.holds p s) (hw:c.wfByText s=true) (htie:c.laidByTextAt Lk p kinds tests)
  (hst:c.start= .entering) (hnb:c.noBlocks=false∧c.again=false) (hm:p.checked.prog.mainIs=some (har.1,har.2.toList)) (hn:(!har.1&&har.2.isEmpty&&!lk)=false)
  (hl: ∀f fn,p.checked.prog.funcNamed c.func=some f→p.checked.prog.funcs[f]?=some fn→lk=p.checked.prog.looks []∧ ∀(j:Nat) t,fn.params[j]?=some t→p.checked.prog.wantsStandIn t=false)
  (hg:true=c.goesBy p.checked.prog):
  Claim7.holds p (.plain s) {stood:={row:=c,standIns:=[],harness:=har,looks:=lk},kinds:=[],alts:=[],goes:=true,laidByText:=true,laidKinds:=kinds,laidTests:=tests,laidLooks:=Lk}:=by
 have h6: ∀r:OpenClaim,Claim7.isSixth {stood:={row:=r,standIns:=[],harness:=har,looks:=lk},kinds:=[]}=false:=fun r=>by simpa [Claim7.isSixth] using hn
 exact ⟨jmO Lk kinds tests (Claim7.new_of_sixth hc har lk hst hnb hm (h6 c) hl) hw,(fun D hD=>by cases hD),htie,(fun h=>by cases h),hg⟩
theorem own:ownKnob Tryz.prog.godebug=none:=by kernel_rfl
theorem jbA:laidOutB Tryz.prog=true:=by kernel_rfl
theorem jfb:laidOutB Tryz.pinned.checked.prog=true:=jbA
def laidL:List (String×DataW Unit):=[("math/bits.deBruijn32tab",Rows.laid_math_bits_deBruijn32tab),("math/bits.deBruijn64tab",Rows.laid_math_bits_deBruijn64tab),("internal/strconv.uint64pow10",Rows.laid_internal_strconv_uint64pow10),("ribband/offsets.mosts",Rows.laid_ribband_offsets_mosts),("ribband/offsets.halves",Rows.laid_ribband_offsets_halves)]
theorem jfi (os:Os) (args:Array Value):laidMetH Tryz.prog laidL ((World.doorLaid Tryz.prog 36 os).forCall (fun _ _=>0) ⟨#[],args,[]⟩).memory:=by
 have d:((DataW.laidRun Tryz.prog ((World.doorLaid Tryz.prog 36 os).forCall (fun _ _=>0) ⟨#[],args,[]⟩).memory 8 ((laidL.filter fun x=>x.2.handleName?.isNone).map (·.1))).bind fun x=>
   if nodupBits 65 x.2 0&&laidRowsB Tryz.prog ((World.doorLaid Tryz.prog 36 os).forCall (fun _ _=>0) ⟨#[],args,[]⟩).memory x.2&&(laidL.filter fun x=>x.2.handleName?.isSome&&x.2.funcsIn?.isNone).all (handleAtB Tryz.prog ((World.doorLaid Tryz.prog 36 os).forCall (fun _ _=>0) ⟨#[],args,[]⟩).memory)
   then (funcsRun Tryz.prog ((World.doorLaid Tryz.prog 36 os).forCall (fun _ _=>0) ⟨#[],args,[]⟩).memory 8 ((funcsListed laidL).map (·.1))).map fun y=>(x.1,y) else none)=some (laidL.filter fun x=>x.2.handleName?.isNone,(funcsListed laidL).map (·.2.funcsOut)):=by kernel_rfl
 simp only [Option.bind_eq_some_iff] at d
 obtain ⟨x,hx,d⟩:=d
 split at d
 ·rename_i hb
  simp only [Bool.and_eq_true] at hb
  simp only [Option.map_eq_some_iff,Prod.mk.injEq] at d
  obtain ⟨y,hy,e1,e2⟩:=d
  exact laidMetH_of_parts3 (fuel:=8) (laidMet_of_run (ps:=x.2) 8 (by rw [hx,←e1]) (decide_eq_true (nodupBits_sound hb.1.1).1) hb.1.2) hb.2 (by rw [hy,e2])
 ·cases d
theorem str_lit {s:ByteArray} {l:List UInt8} (h:s.data.toList=l):Value.string s=str l:=by subst h;exact jsr s
theorem jt0 (h:laidMetH Tryz.prog laidL W): ∃t f,W.heap[0]?=some (.cells [str [119,97,116,101,114],.bool false,.func (.func 261) #[] #[],str [98,117,116,116],.bool true,.func (.func 262) #[] #[]].toArray t f):=by
 obtain ⟨g,t,cs,fuel,p,hg,ht,hv,hd⟩:=h.funcs (n:= "ribband/offsets.halves") (List.mem_cons_of_mem _ (List.mem_cons_of_mem _ (List.mem_cons_of_mem _ (List.mem_cons_of_mem _ (List.mem_cons_self ..)))))
 obtain rfl:=Option.some.inj ((show Tryz.prog.globalNamed "ribband/offsets.halves" =some 0 by kernel_rfl).symm.trans hg)
 obtain rfl:=Option.some.inj ((show (Tryz.prog.globals[0]?).map (·.type)=some 185 by kernel_rfl).symm.trans ht)
 have hu: Tryz.prog.underlying 185=some (.array 2 184):=by kernel_rfl
 obtain ⟨fs,hs,hfs⟩: ∃fs,Tryz.prog.underlying 184=some (.struct fs)∧fs.toList.map (fun f=>(f.offset,f.type))=[(0,9),(1,4),(2,182)]:=⟨_,Tryz.underlying184,by kernel_rfl⟩
 have c3: Tryz.prog.cellsOf 184=3:=by kernel_rfl
 have k9: Tryz.prog.cellsOf 9=1:=by kernel_rfl
 have k4: Tryz.prog.cellsOf 4=1:=by kernel_rfl
 have kf: Tryz.prog.cellsOf 182=1:=by kernel_rfl
 have u9: Tryz.prog.underlying 9=some .string:=by kernel_rfl
 have u4: Tryz.prog.underlying 4=some .bool:=by kernel_rfl
 obtain ⟨qs,rs,va,hfun⟩: ∃qs rs va,Tryz.prog.underlying 182=some (.func qs rs va):=⟨_,_,_,Tryz.underlying182⟩
 obtain ⟨f0,f1,f2,rfl⟩: ∃f0 f1 f2,fs= #[f0,f1,f2]:=by
  obtain ⟨fl⟩:=fs
  have hlen:fl.length=3:=by simpa using congrArg List.length hfs
  match fl,hlen with
  |[f0,f1,f2],_=>exact ⟨_,_,_,rfl⟩
 simp only [List.map_cons,List.map_nil,List.cons.injEq,Prod.mk.injEq,and_true] at hfs
 obtain ⟨⟨o0,t0⟩,⟨o1,t1⟩,o2,t2⟩:=hfs
 obtain ⟨xs,m,_,ex,hl,hxl,hx⟩:=DataW.trod_array hu hd
 have hl6:cs.toList.length=6:=hl.trans zK
 obtain ⟨cl⟩:=cs
 obtain ⟨c0,c1,c2,d0,d1,d2,rfl⟩: ∃c0 c1 c2 d0 d1 d2,cl=[c0,c1,c2,d0,d1,d2]:=by
  match cl,hl6 with
  |[c0,c1,c2,d0,d1,d2],_=>exact ⟨_,_,_,_,_,_,rfl⟩
 obtain ⟨y0,y1,rfl⟩: ∃y0 y1,xs=[y0,y1]:=by
  match xs,hxl with
  |[y0,y1],_=>exact ⟨_,_,rfl⟩
 have e2: ∃a b:List UInt8,(Rows.laid_ribband_offsets_halves:DataW Unit)= .iface "func table" (.agg [.agg [.lit (.string [119,97,116,101,114]),.lit (.bool false),.iface "func" (.lit (.string a))],.agg [.lit (.string [98,117,116,116]),.lit (.bool true),.iface "func" (.lit (.string b))]])∧
   ((List.range Tryz.prog.funcs.size).filter fun f=>(Tryz.prog.funcs[f]?).any (·.name.toUTF8.data.toList==a))=[261]∧((List.range Tryz.prog.funcs.size).filter fun f=>(Tryz.prog.funcs[f]?).any (·.name.toUTF8.data.toList==b))=[262]∧a≠[]∧b≠[]∧
   [y0.1,y1.1]=[.agg [.lit (.string [119,97,116,101,114]),.lit (.bool false),.held a],.agg [.lit (.string [98,117,116,116]),.lit (.bool true),.held b]]:=by
  refine ⟨_,_,rfl,by kernel_rfl,by kernel_rfl,by simp,by simp,?_⟩
  have:=congrArg Prod.fst ex
  simp only [DataW.funcsOut,DataW.funcsOutAll,List.map_cons,List.map_nil] at this
  injection this with this
  exact this.symm
 obtain ⟨a,b,_,fa,fb,na,nb,e3⟩:=e2
 simp only [List.cons.injEq,and_true] at e3
 obtain ⟨z0,z1⟩:=e3
 have key: ∀(u0 u1 u2:Value) (y:DataW (List UInt8)×List MemPlace) (s:List UInt8) (bb:Bool) (l:List UInt8) (fn:FuncId),DataW.trod (funcToken Tryz.prog) Tryz.prog W 0 (fun _=>true) true m 184 [u0,u1,u2]=some y→y.1= .agg [.lit (.string s),.lit (.bool bb),.held l]→l≠[]→((List.range Tryz.prog.funcs.size).filter fun f=>(Tryz.prog.funcs[f]?).any (·.name.toUTF8.data.toList==l))=[fn]→u0=str s∧u1= .bool bb∧u2= .func (.func fn) #[] #[]:=by
  intro u0 u1 u2 y s bb l fn h1 h2 h3 h4
  obtain ⟨ys,k,_,ey,_,hyl,hy⟩:=DataW.trod_struct hs h1
  obtain ⟨w0,w1,w2,rfl⟩: ∃w0 w1 w2,ys=[w0,w1,w2]:=by
   match ys,hyl with
   |[w0,w1,w2],_=>exact ⟨_,_,_,rfl⟩
  have g0:=hy 0 f0 rfl
  have g1:=hy 1 f1 rfl
  have g2:=hy 2 f2 rfl
  rw [t0,o0,k9] at g0
  rw [t1,o1,k4] at g1
  rw [t2,o2,kf] at g2
  obtain ⟨s0,q0,x0,_⟩:=DataW.trod_string u9 g0
  obtain ⟨b0,q1,x1⟩:=DataW.trod_bool u4 g1
  subst ey
  simp only [List.map_cons,List.map_nil,DataW.agg.injEq,List.cons.injEq,and_true] at h2
  obtain ⟨e0,e1,e2⟩:=h2
  rw [x0] at e0
  rw [x1] at e1
  have q0':=List.head_eq_of_cons_eq (show [u0]=[Value.string s0] from q0)
  have q1':=List.head_eq_of_cons_eq (show [u1]=[Value.bool b0] from q1)
  refine ⟨by rw [q0'];exact str_lit (by simpa using e0),by rw [q1'];congr 1;simpa using e1,?_⟩
  obtain ⟨w21,w22⟩:=w2
  obtain rfl:w21= .held l:=e2
  cases l with
  |nil=>exact absurd rfl h3
  |cons b0 r0=>exact func_of_trod hfun h4 g2
 have g0:=hx 0 zO
 have g1:=hx 1 zO
 rw [c3] at g0 g1
 obtain ⟨rfl,rfl,rfl⟩:=key c0 c1 c2 y0 _ _ a 261 g0 z0 na fa
 obtain ⟨rfl,rfl,rfl⟩:=key d0 d1 d2 y1 _ _ b 262 g1 z1 nb fb
 unfold World.var? at hv
 rw [hg] at hv
 simp only [Option.bind_some] at hv
 split at hv
 ·rename_i cs t f hb
  obtain rfl:=Option.some.inj hv
  exact ⟨t,f,hb⟩
 ·cases hv
theorem mosts_of (h:laidMetH Tryz.prog laidL W): ∃t f,W.heap[1]?=some (.cells [.int .i64 9,.int .i64 11,.int .i64 7].toArray t f):=by
 obtain ⟨ps,hl,_,_⟩:=(laidMetH_iff.1 h).1
 have e:(laidL.filter fun x=>x.2.handleName?.isNone)=[("math/bits.deBruijn32tab",Rows.laid_math_bits_deBruijn32tab),("math/bits.deBruijn64tab",Rows.laid_math_bits_deBruijn64tab),("internal/strconv.uint64pow10",Rows.laid_internal_strconv_uint64pow10),("ribband/offsets.mosts",Rows.laid_ribband_offsets_mosts)]:=by kernel_rfl
 rw [e] at hl
 obtain ⟨_,_,_,_,_,_,_,_,_,_,hl,_⟩:=hl
 obtain ⟨_,_,_,_,_,_,_,_,_,_,hl,_⟩:=hl
 obtain ⟨_,_,_,_,_,_,_,_,_,_,hl,_⟩:=hl
 obtain ⟨g,t,cs,fuel,p,q,hg,ht,hv,hd,_,_⟩:=hl
 obtain rfl:=Option.some.inj ((show Tryz.prog.globalNamed "ribband/offsets.mosts" =some 1 by kernel_rfl).symm.trans hg)
 obtain rfl:=Option.some.inj ((show (Tryz.prog.globals[1]?).map (·.type)=some 145 by kernel_rfl).symm.trans ht)
 have hu: Tryz.prog.underlying 145=some (.array 3 3):=by kernel_rfl
 have h3: Tryz.prog.underlying 3=some (.int .i64):=by kernel_rfl
 have c3: Tryz.prog.cellsOf 3=1:=by kernel_rfl
 obtain ⟨xs,m,_,ex,hl3,hxl,hx⟩:=DataW.trod_array hu hd
 have hl3:cs.toList.length=3:=hl3.trans zK
 obtain ⟨cl⟩:=cs
 obtain ⟨c0,c1,c2,rfl⟩: ∃c0 c1 c2,cl=[c0,c1,c2]:=by
  match cl,hl3 with
  |[c0,c1,c2],_=>exact ⟨_,_,_,rfl⟩
 obtain ⟨y0,y1,y2,rfl⟩: ∃y0 y1 y2,xs=[y0,y1,y2]:=by
  match xs,hxl with
  |[y0,y1,y2],_=>exact ⟨_,_,_,rfl⟩
 have g0:=hx 0 zO
 have g1:=hx 1 zO
 have g2:=hx 2 zO
 rw [c3] at g0 g1 g2
 obtain ⟨n0,q0,x0,_⟩:=DataW.trod_int h3 g0
 obtain ⟨n1,q1,x1,_⟩:=DataW.trod_int h3 g1
 obtain ⟨n2,q2,x2,_⟩:=DataW.trod_int h3 g2
 obtain rfl:=List.head_eq_of_cons_eq (show [c0]=[Value.int .i64 n0] from q0)
 obtain rfl:=List.head_eq_of_cons_eq (show [c1]=[Value.int .i64 n1] from q1)
 obtain rfl:=List.head_eq_of_cons_eq (show [c2]=[Value.int .i64 n2] from q2)
 have ex1:=congrArg Prod.fst ex
 have ex2:(DataW.agg [.lit (.int .i64 9),.lit (.int .i64 11),.lit (.int .i64 7)]:DataW Unit)= .agg [y0.1,y1.1,y2.1]:=ex1
 rw [x0,x1,x2] at ex2
 simp only [DataW.agg.injEq,List.cons.injEq,DataW.lit.injEq,Lit.int.injEq,true_and,and_true] at ex2
 obtain ⟨rfl,rfl,rfl⟩:=ex2
 unfold World.var? at hv
 rw [hg] at hv
 simp only [Option.bind_some] at hv
 split at hv
 ·rename_i cs t f hb
  obtain rfl:=Option.some.inj hv
  exact ⟨t,f,hb⟩
 ·cases hv
theorem jgK (h:laidMetH Tryz.prog laidL W):LaidO W.heap:=⟨jt0 h,mosts_of h⟩
theorem je5: Tryz.pinned.checked.prog.mainIs=some (true, "efa58da0d05803ae4d87aecc1d7dc94e05dff7fe0015b2fcbfa254297eea66aa".toList):=by kernel_rfl
theorem jeh:false= Tryz.pinned.checked.prog.looks []:=by kernel_rfl
end Go.Proofs.YtggpepeiedkbbaaGreatDoor
