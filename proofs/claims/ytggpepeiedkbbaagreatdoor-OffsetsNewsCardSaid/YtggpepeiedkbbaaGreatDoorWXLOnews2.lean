/- A part of the proof of a law. Condition of each theorem: as its statement says. -/
import Derived.Test.YtggpepeiedkbbaaGreatDoorWXLOnews1
set_option linter.all false
variable {B:Array Go.Obj} {p o:List Int} {b:Go.Lo.Tb} {ps pw pb:Option Go.Addr} {ns ks nw cw nb cb:Nat} {h:Go.Lo.Hp}
set_option maxHeartbeats 4000000
set_option maxRecDepth 100000
set_option synthInstance.maxHeartbeats 1000000
set_option synthInstance.maxSize 100000
namespace Go.Proofs
open Go.Lo
open Go.Conc (G)
section
variable [LaidO B]
section
variable {k:Nat} (hk:k<3)
include hk
theorem jpO (h1:o.getD k 0≠ -1) (h2:o.getD k 0≠(jaT p o).getD k 0):jaT o p≠jaT p o:=fun e=>by
 have e2:=jfg (p:=o) (o:=p) hk
 rw [e,if_neg h1] at e2
 exact h2 e2.symm
theorem jjA (h:o.getD k 0= -1∨o.getD k 0=(jaT p o).getD k 0):(jaT o p).getD k 0=(jaT p o).getD k 0:=by
 rw [jfg (p:=o) (o:=p) hk];by_cases e:o.getD k 0= -1
 ·rw [if_pos e,jfg hk];split
  ·rename_i e2
   rw [e2,e]
  ·rfl
 ·rw [if_neg e];exact h.resolve_left e
theorem jqC {x y:Int} (hx1: -1≤x) (hx2:x≤mosts.getD k 0) (hy1: -1≤y) (hy2:y≤mosts.getD k 0) (h:jaD x=jaD y):x=y:=by
 rw [←(jd7 hk hx1 hx2).2.1,h,(jd7 hk hy1 hy2).2.1]
end
theorem with_all (h: ∀j,j<3→(jaT o p).getD j 0=(jaT p o).getD j 0):jaT o p=jaT p o:=Ga (by rw [jdz,jdz]) fun j h1 h2=>by
 have:=h j (by rw [jdz] at h1;exact h1)
 rwa [gC,gC,gD h1,gD h2] at this
theorem f56_g (m:Md Tryz.prog B) (h:Hp) {s t:Str} (hs:ja2 s=true) (ht:ja2 t=true) (ls:s.length≤100000) (lt:t.length≤100000):FnC m 56 #[str s,str t] h fun v h'=>h'=h∧v=if jaT (jan t) (jan s)=jaT (jan s) (jan t) then .tuple [str (jbM (jaT (jan s) (jan t))),.bool true].toArray else .tuple [str [],.bool false].toArray:=by
 obtain ⟨cl1,ce1,po1⟩:=jgF hs
 obtain ⟨cl2,ce2,po2⟩:=jgF ht
 obtain ⟨p,hp⟩: ∃p,p=jan s:=⟨_,rfl⟩
 obtain ⟨o,ho⟩: ∃o,o=jan t:=⟨_,rfl⟩
 rw [←hp] at ce1 po1⊢
 rw [←ho] at ce2 po2⊢
 refine jae Tryz.func56 rfl rfl (l:=(str s)::(str t)::uu56) rfl ?_
 intro cf cs K hK
 refine Z8 ?_;refine jax rfl zq zK (Post:=fun w new=>OwnS 9 1 w 3 (jaC (List.map jaD p)) new) (fun H' hH=>by have:=f63_c m H' s ls 45;rw [cl1,ce1] at this;exact this) ?_
 rintro w n1 o1;refine jaz (jad ?_);obtain ⟨qx,cx,jx,rfl,rfl,_,hjx,hcx⟩:=jcx o1 zA
 rw [jbs,gN,gN,po1.len] at hjx
 refine Zs ?_;refine jax rfl zq zK (Post:=fun w new=>OwnS 9 1 w 3 (jaC (List.map jaD o)) new) (fun H' hH=>by have:=f63_c m H' t lt 45;rw [cl2,ce2] at this;exact this) ?_
 rintro w n2 o2;refine jaz (jad ?_);obtain ⟨py,cy,rfl,hcy,ry⟩:=jas (B:=B) o2
 obtain ⟨by_,oy_,rfl⟩:=ry.ptr zA
 refine Z9 ?_
 refine jag (fun nn l h'=> ∃(k:Nat),nn=3-k∧(k≤3)∧(∀j,j<k→(jaT o p).getD j 0=(jaT p o).getD j 0)∧(∃U:Nat→Value,l=((str s)::(str t)::vw4 U 2 ((.slice (some ⟨qx,0,none⟩) 3 cx)::(.slice (some ⟨by_,oy_,none⟩) 3 cy)::(.int .i64 (k:Int))::vw49 U 9 [])))∧h++[⟨true,qx,.cells (jaC (XK p o k)++jx).toArray 9 (0,0)⟩]++n2=h') _ ⟨0,rfl,by omega,fun j hj=>by omega,exU rfl,(by rw [xk_zero po1.len])⟩ ?_;rintro nn l h' ⟨k,rfl,hk,hag,⟨U,rfl⟩,rfl⟩ hnext;refine Z4 ?_
 refine jam rfl zq (fun hc=>?_) (fun hc=>?_)
 ·refine Z7 ?_
  have hk3:k<3:=by omega
  have hx1:=po1.lo k
  have hx2:=po1.hi k hk3
  have hy1:=po2.lo k
  have hy2:=po2.hi k hk3
  have hmo:=(jdo hk3).2
  have hpx:=jn2 (x:=p.getD k 0) hx1 zO
  have hpy:=jn2 (x:=o.getD k 0) hy1 zO
  have hwb: -1≤(jaT p o).getD k 0∧(jaT p o).getD k 0≤mosts.getD k 0:=by rw [jfg hk3];split<;>exact ⟨by assumption,by assumption⟩
  have ox:OwnS 9 1 (.slice (some ⟨qx,0,none⟩) 3 cx) 3 (jaC (XK p o (k))) [⟨true,qx,.cells (jaC (XK p o (k))++jx).toArray 9 (0,0)⟩]:=OwnS.blk (by rw [jbs,gN,jf6]) (by rw [jbs,gN,jf6];exact hjx) hcx
  have rx:=ox.rd (B:=B) (gE _)
  have hxk:=jmM (p:=p) (o:=o) (k:=k) hk3
  rw [if_neg zO] at hxk
  have hyk:=piece_at (o:=o) (k:=k) (by rw [po2.len];exact hk3)
  have hxn:=jmM (p:=p) (o:=o) (k:=k+1) hk3
  rw [if_pos zO] at hxn
  refine Z3 ?_;refine D8 ?_;refine jaN (v:=str (jaD (p.getD k 0))) rfl zq (by rw [←hxk];exact rx.sat k rfl hk3) ?_
  by_cases hx:jaD (p.getD k 0)=[63]
  refine jg3 rfl zq hx ?_;refine Z7 ?_;refine D8 ?_;refine jaN (v:=str (jaD (o.getD k 0))) rfl zq (by rw [←hyk];exact ry.sat k rfl hk3) ?_;refine D8 ?_;haveI:=seg_x (p:=p) (o:=o) (jx:=jx) hk3 (hpx.1 hx)
  refine D19 ?_;refine Zs ?_
  rotate_left
  refine jg4 rfl zq hx ?_;rw [←xk_no (o:=o) hk3 (fun e=>hx (hpx.2 e))];refine Z3 ?_
  all_goals
   refine Zs ?_
   have ox:OwnS 9 1 (.slice (some ⟨qx,0,none⟩) 3 cx) 3 (jaC (XK p o (k+1))) [⟨true,qx,.cells (jaC (XK p o (k+1))++jx).toArray 9 (0,0)⟩]:=OwnS.blk (by rw [jbs,gN,jf6]) (by rw [jbs,gN,jf6];exact hjx) hcx
   have rx2:=ox.rd (B:=B) (gE _)
   refine jaq [Zp 0,Zp 1,Zp 2,Zr 3,Zp 4,Zp 5,Zp 6,Zp 7,Zp 8,Zp 10,Zp 11,Zp 12,Zr 9,Zr 13,Zp 14,Zp 15] zK zK (gE _) ?_;refine Z2 ?_;refine D8 ?_;refine jaN (v:=str (jaD (o.getD k 0))) rfl zq (by rw [←hyk];exact ry.sat k rfl hk3) ?_;by_cases hy:jaD (o.getD k 0)=[63]
   ·refine jez rfl zq hy ?_;refine Z20 ?_;exact m.weak jab (hnext _ _ _ zO ⟨k+1,rfl,by omega,fun j hj=>by
     by_cases e:j<k
     ·exact hag j e
     ·obtain rfl:j=k:=by omega
      exact jjA hk3 (.inl (hpy.1 hy)),exU rfl,rfl⟩)
   ·refine jfY rfl zq hy ?_;refine Z3 ?_;refine D93 ?_;refine Z2 ?_;refine D93 ?_;refine jaN (v:=str (jaD (o.getD k 0))) rfl rfl (by rw [←hyk];exact ry.sat k rfl hk3) ?_;refine jaN (v:=str (jaD ((jaT p o).getD k 0))) rfl rfl (by rw [←hxn];exact rx2.sat k rfl hk3) ?_;by_cases heq:jaD (o.getD k 0)=jaD ((jaT p o).getD k 0)
    ·refine jez rfl rfl heq ?_;refine Z10 ?_;exact m.weak jab (hnext _ _ _ zO ⟨k+1,rfl,by omega,fun j hj=>by
      by_cases e:j<k
      ·exact hag j e
      ·obtain rfl:j=k:=by omega
       exact jjA hk3 (.inr (jqC hk3 hy1 hy2 hwb.1 hwb.2 heq)),exU rfl,rfl⟩)
    ·refine jfY rfl rfl heq ?_;refine Z9 ?_;refine jac (h) rfl Tryz.func56 rfl jab ?_;refine Zs ?_;exact ⟨rfl,by rw [if_neg (jpO hk3 (fun e=>hy (hpy.2 e)) (fun e=>heq (by rw [←e])))]⟩
 ·refine Z4 ?_
  obtain rfl:k=3:=by omega
  have ox:OwnS 9 1 (.slice (some ⟨qx,0,none⟩) 3 cx) 3 (jaC (XK p o (3))) [⟨true,qx,.cells (jaC (XK p o (3))++jx).toArray 9 (0,0)⟩]:=OwnS.blk (by rw [jbs,gN,jf6]) (by rw [jbs,gN,jf6];exact hjx) hcx
  have rx:=ox.rd (B:=B) (gE _)
  have g0:=jmM (p:=p) (o:=o) (k:=3) (j:=0) zA
  have g1:=jmM (p:=p) (o:=o) (k:=3) (j:=1) zA
  have g2:=jmM (p:=p) (o:=o) (k:=3) (j:=2) zA
  rw [if_pos zA] at g0 g1 g2
  refine jaq [Zp 0,Zp 1,Zp 4,Zp 5,Zp 9,Zp 10,Zr 2,Zp 3,Zr 6,Zp 7,Zp 8,Zr 11,Zp 12,Zp 13,Zp 14] zK zK (gE _) ?_;refine Zs ?_;refine D8 ?_;refine Zs ?_;refine D8 ?_;refine Zs ?_;refine D8 ?_;refine jaN (v:=str (jaD ((jaT p o).getD 0 0))) rfl zq (by rw [←g0];exact rx.sat 0 rfl zA) ?_;refine joi rfl zq (by have:=jbv ((jaT p o).getD 0 0);have:=jbv ((jaT p o).getD 1 0);have:=jbv ((jaT p o).getD 2 0);simp only [gH,gV,Gp];omega) ?_;refine jaN (v:=str (jaD ((jaT p o).getD 1 0))) rfl zq (by rw [←g1];exact rx.sat 1 rfl zA) ?_;refine joi rfl zq (by have:=jbv ((jaT p o).getD 0 0);have:=jbv ((jaT p o).getD 1 0);have:=jbv ((jaT p o).getD 2 0);simp only [gH,gV,Gp];omega) ?_;refine joi rfl zq (by have:=jbv ((jaT p o).getD 0 0);have:=jbv ((jaT p o).getD 1 0);have:=jbv ((jaT p o).getD 2 0);simp only [gH,gV,Gp];omega) ?_;refine jaN (v:=str (jaD ((jaT p o).getD 2 0))) rfl zq (by rw [←g2];exact rx.sat 2 rfl zA) ?_;refine joi rfl zq (by have:=jbv ((jaT p o).getD 0 0);have:=jbv ((jaT p o).getD 1 0);have:=jbv ((jaT p o).getD 2 0);simp only [gH,gV,Gp];omega) ?_;refine Z4 ?_;refine jac (h) rfl Tryz.func56 rfl jab ?_;refine Zs ?_;exact ⟨rfl,by rw [if_pos (with_all hag),jp1]⟩
theorem f132_c (m:Md Tryz.prog B) (h:Hp) (ra:RawTb B h b ps ns ks pw nw cw pb nb cb) (c:Ce) (f:Str) (hf:f.length≤100000):FnC m 132 #[tbV b ps ns ks pw nw cw pb nb cb,cV c.butt c.line c.st,str f] h fun v h'=>h'=h∧v= .int .i64 (jeL b c f):=by
 refine jae Tryz.func132 rfl rfl (l:=(tbV b ps ns ks pw nw cw pb nb cb)::(cV c.butt c.line c.st)::(str f)::uu23) rfl ?_
 intro cf cs K hK
 refine Z2 ?_
 refine jaA rfl zq (fun q1=>jao (jad ?_));refine jaA rfl zq (fun q2=>jao (jad ?_));refine Z6 ?_;refine jaf (Post:=fun v=>v= .int .i64 (tbS b)) rfl zq zK (fun H' hH=>f66_r m H' (ra.keeps (sq hH))) ?_
 rintro v rfl;refine Z6 ?_
 refine jaI rfl zq (fun hc=>?_) (fun hc=>?_)
 ·refine Z8 ?_;refine jac (h) rfl Tryz.func132 rfl jab ?_;refine Zs ?_
  exact ⟨rfl,by rw [jeL,if_pos zD]⟩
 ·refine Z5 ?_
  have hz:tbS b=0:=by omega
  refine Z3 ?_;refine jaf (Post:=fun v=>IsB _ v) rfl zq zK (fun H' hH=>f134_c m H' (ra.keeps (sq hH)) c) ?_
  rintro v (⟨hc,rfl⟩|⟨hc,rfl⟩)
  ·refine Zs ?_
   have hin:=hc
   refine Z8 ?_;refine jax rfl zq zK (Post:=fun v new=> ∃w,OwnS 3 1 w (lisP f).length (jav (lisP f)) new∧v= .tuple [w,.bool (ja2 f)].toArray) (fun H' hH=>f55p_c m H' f hf) ?_
   rintro v nP ⟨w,oP,rfl⟩;refine jaz (jad ?_);refine Z7 ?_
   cases hfo:ja2 f
   refine Z5 ?_
   rotate_left
   refine Z6 ?_
   all_goals
    refine Z5 ?_;refine jac (h) rfl Tryz.func132 rfl jab ?_;refine Zs ?_
    exact ⟨rfl,by first
     |rw [jeL,if_neg (fun e=>e hz),if_pos (fun e=>hin ⟨hz,e⟩)]
     |rw [jeL,if_neg (fun e=>e hz),if_neg (fun e=>e hin.2),if_pos hfo]
     |rw [jeL,if_neg (fun e=>e hz),if_neg (fun e=>e hin.2),if_neg (by rw [hfo];decide)]⟩
  ·refine Zs ?_
   have hin:=hc
   refine Z8 ?_;refine jac (h) rfl Tryz.func132 rfl jab ?_;refine Zs ?_
   exact ⟨rfl,by first
    |rw [jeL,if_neg (fun e=>e hz),if_pos (fun e=>hin ⟨hz,e⟩)]
    |rw [jeL,if_neg (fun e=>e hz),if_neg (fun e=>e hin.2),if_pos hfo]
    |rw [jeL,if_neg (fun e=>e hz),if_neg (fun e=>e hin.2),if_neg (by rw [hfo];decide)]⟩
theorem f133_c (m:Md Tryz.prog B) (h:Hp) (ra:RawTb B h b ps ns ks pw nw cw pb nb cb) (ok:TbOk b):FnC m 133 #[tbV b ps ns ks pw nw cw pb nb cb] h fun v h'=>h'=h∧v=if jah b=[] then .tuple [.agg zeroL.toArray,.int .i64 9].toArray else .tuple [tbV b ps ns ks pw nw cw pb nb cb,.int .i64 0].toArray:=by
 refine jae Tryz.func133 rfl rfl (l:=(tbV b ps ns ks pw nw cw pb nb cb)::uu9) rfl ?_
 intro cf cs K hK
 refine Z2 ?_
 refine jaA rfl zq (fun q1=>jao (jad ?_));refine jay rfl zq (fun q2=>jao (jad ?_));refine Z6 ?_;refine jax rfl zq zK (Post:=fun v new=>RdB B [] new v (jar b)) (fun H' hH=>f141_c m H' (ra.keeps (sq hH)) ok) ?_
 rintro v nB ⟨pB,cB,bs,rfl,hB⟩;refine jaz (jad ?_);have hbl:=boatsR_len ok
 refine Zs ?_
 refine jaE rfl zq (fun hc=>?_) (fun hc=>?_);refine Z4 ?_;refine D30 ?_
 rotate_left
 refine Z6 ?_
 all_goals
  refine jdP ?_;refine jac (h) rfl Tryz.func133 rfl jab ?_;refine Zs ?_
 ·exact ⟨rfl,by rw [if_neg (fun e=>by rw [e] at hbl;have:(jar b).length=0:=hbl;omega)]⟩
 ·exact ⟨rfl,by rw [if_pos (GB.1 zO)]⟩
end
section
variable [LaidO B]
section
variable {c:Ce} {f:Str} (ef:jeL b c f=0)
include ef
theorem readS_eq:jd0 b c f=jaT (jan (jbU b c)) (jan f)∧jeq b c f=if jaT (jan f) (jan (jbU b c))≠jaT (jan (jbU b c)) (jan f) then 9 else jaH (jbl b c (jbM (jaT (jan (jbU b c)) (jan f)))) 0:=by
 have hw:joJ b c f=jan (jbU b c):=by rw [joJ,if_pos ef]
 have hn:jpb b c f=jan f:=by rw [jpb,if_pos ef]
 have hb:jd0 b c f=jaT (jan (jbU b c)) (jan f):=by rw [jd0,hw,hn]
 exact ⟨hb,by rw [jeq,if_neg (fun e=>e ef),hw,hn,hb]⟩
theorem putS_eq:jlT b c f=jaH (jbl b c f) 0:=by rw [jlT,if_neg (fun e=>e ef)]
theorem read_tb:TbOk (jbl b c (jbM (jaT (jan (jbU b c)) (jan f)))):=by
 obtain ⟨hz,hm,hf⟩:=je7 ef
 have ok:=jbf.1 hz
 have p1:=(jgF (jrC ok hm)).2.2
 have p2:=(jgF hf).2.2
 obtain ⟨t1,t2⟩:=joN (jkg p1 p2)
 exact jqm ok (jbS hm).1 (by rw [jbu,t1];rfl) (by
  have h1:=smu_with (o:=jan f) p1.len
  have h2:=ok.smu
  rw [jdM,t2];have:jdM (jbU b c)=(jan (jbU b c)).countP fun x=>decide (x= -1):=rfl
  omega)
end
theorem f73_c (m:Md Tryz.prog B) (H:Hp) (ra:RawTb B h b ps ns ks pw nw cw pb nb cb) (hs:h.Sublist H) (c:Ce) (f:Str) (hf:f.length≤100000):FnC m 73 #[tbV b ps ns ks pw nw cw pb nb cb,cV c.butt c.line c.st,str f] H fun v h'=> ∃new,h'=H++new∧ ∀H2,h.Sublist H2→new.Sublist H2→jmE B (jeq b c f) (jbl b c (jbM (jd0 b c f))) H2 v:=by
 refine jae Tryz.func73 rfl rfl (l:=(tbV b ps ns ks pw nw cw pb nb cb)::(cV c.butt c.line c.st)::(str f)::uu40) rfl ?_
 intro cf cs K hK
 refine Z2 ?_
 refine jaA rfl zq (fun q1=>jao (jad ?_));refine jaA rfl zq (fun q2=>jao (jad ?_));refine jay rfl zq (fun q6=>jao (jad ?_));refine Z8 ?_;refine jaf (Post:=fun v=>v= .int .i64 (jeL b c f)) rfl zq zK (fun H' hH=>f132_c m H' (ra.keeps (hs.trans (sq hH))) c f hf) ?_
 rintro v rfl;refine Z6 ?_
 refine jaI rfl zq (fun hc=>?_) (fun hc=>?_)
 ·refine Z4 ?_;refine D30 ?_;refine Zs ?_;refine jdP ?_;refine jac (H) rfl Tryz.func73 rfl jab ?_;refine Zs ?_
  exact ⟨[],by simp,fun H2 _ _=>by
   have e1:jeq b c f=jeL b c f:=by rw [jeq,if_pos zD]
   rw [e1];exact E89⟩
 ·refine Z4 ?_
  have ef:jeL b c f=0:=by omega
  obtain ⟨hz,hm,hfo⟩:=je7 ef
  have ok:=jbf.1 hz
  have rd:=(ra.keeps hs).rd ok
  have hht:=(jbS hm).1
  obtain ⟨hbp,hrs⟩:=readS_eq ef
  have hX:=read_tb ef
  obtain ⟨gg,hgg⟩: ∃gg,gg=jaT (jan (jbU b c)) (jan f):=⟨_,rfl⟩
  rw [←hgg] at hbp hrs hX
  have hgl:(jbM gg).length≤100000:=GI (jnH (by rw [hgg];exact jdz _ _)) zA
  refine Z3 ?_;refine jaf (Post:=fun v=>v= .tuple [str (jbU b c),.bool true].toArray) rfl zq zK (fun H' hH=>by have:=f27_c m H' (rd.keeps (sq hH)) (bt:=c.butt) (li:=c.line) (st:=c.st);rw [show jcn b ⟨c.butt,c.line,c.st⟩=true from hht,if_pos rfl] at this;exact this) ?_
  rintro v rfl;refine Z8 ?_
  by_cases hcf:jaT (jan f) (jan (jbU b c))=gg
  rw [if_neg (fun e=>e hcf)] at hrs
  refine Z3 ?_;refine jaf (Post:=fun v=>v= .tuple [str (jbM gg),.bool true].toArray) rfl zq zK (fun H' hH=>by have:=f56_g m H' (jrC ok hm) hfo (jos ra.sm ok hht) hf;rw [←hgg,if_pos hcf] at this;exact this) ?_
  rotate_left
  rw [if_pos hcf] at hrs
  refine Z3 ?_;refine jaf (Post:=fun v=>v= .tuple [str [],.bool false].toArray) rfl zq zK (fun H' hH=>by have:=f56_g m H' (jrC ok hm) hfo (jos ra.sm ok hht) hf;rw [←hgg,if_neg hcf] at this;exact this) ?_
  all_goals
   rintro v rfl;refine Z11 ?_
  ·refine Z5 ?_;refine D30 ?_;refine jdP ?_;refine jac (H) rfl Tryz.func73 rfl jab ?_;refine Zs ?_
   exact ⟨[],by simp,fun H2 _ _=>by
    have e1:jeq b c f=9:=hrs
    rw [e1];exact E89⟩
  ·refine Z5 ?_
   by_cases hbo:jah (jbl b c (jbM gg))=[]
   all_goals
    refine Z4 ?_;refine jax rfl zq zK (Post:=fun v nz=> ∃pw' cw' pb' cb',v=tbV (jbl b c (jbM gg)) ps ns ks pw' nw cw' pb' nb cb'∧RdLn B nz (.slice pw' nw cw') nw (jbl b c (jbM gg)).waters∧RdLn B nz (.slice pb' nb cb') nb (jbl b c (jbM gg)).butts) (fun H' hH=>f33_r m H' (ra.keeps (hs.trans (sq hH))) ok hht (jbM gg) hgl) ?_
    rintro v nzW ⟨pwW,cwW,pbW,cbW,rfl,ewW,ebW⟩;refine jaz (jad ?_)
   ·refine jaf (Post:=fun v=>v= .tuple [.agg zeroL.toArray,.int .i64 9].toArray) rfl zq zK (fun H' hH=>by have:=f133_c m H' (jer ra ra.sm hgl ewW ebW (hs.trans (sq hH)) (sq hH)) hX;rw [if_pos hbo] at this;exact this) ?_;rintro v rfl;refine Z3 ?_;refine jdP ?_;refine jac (H) rfl Tryz.func73 rfl jab ?_;refine Zs ?_
    exact ⟨[],by simp,fun H2 _ _=>by
     have e1:jeq b c f=9:=by rw [hrs,jm3 (jbf.2 hX) rfl hbo]
     rw [e1];exact E89⟩
   ·refine jaf (Post:=fun v=>v= .tuple [tbV (jbl b c (jbM gg)) ps ns ks pwW nw cwW pbW nb cbW,.int .i64 0].toArray) rfl zq zK (fun H' hH=>by have:=f133_c m H' (jer ra ra.sm hgl ewW ebW (hs.trans (sq hH)) (sq hH)) hX;rw [if_neg hbo] at this;exact this) ?_;rintro v rfl;refine Z3 ?_;refine jdP ?_;refine jac (H++nzW) rfl Tryz.func73 rfl jab ?_;refine Zs ?_
    have e0:jeq b c f=0:=by rw [hrs,jm4 (jbf.2 hX) rfl hbo]
    rw [hbp];exact ⟨nzW,rfl,fun H2 s1 s2=>⟨_,_,_,_,_,_,_,_,_,_,by rw [e0],fun e=>absurd e0 e,fun _=>⟨_,_,_,_,_,_,_,_,_,rfl,jer ra ra.sm hgl ewW ebW s1 s2⟩⟩⟩
theorem f74_c (m:Md Tryz.prog B) (H:Hp) (ra:RawTb B h b ps ns ks pw nw cw pb nb cb) (hs:h.Sublist H) (c:Ce) (f:Str) (hf:f.length≤100000):FnC m 74 #[tbV b ps ns ks pw nw cw pb nb cb,cV c.butt c.line c.st,str f] H fun v h'=> ∃new,h'=H++new∧ ∀H2,h.Sublist H2→new.Sublist H2→jmE B (jlT b c f) (jbl b c f) H2 v:=by
 refine jae Tryz.func74 rfl rfl (l:=(tbV b ps ns ks pw nw cw pb nb cb)::(cV c.butt c.line c.st)::(str f)::uu30) rfl ?_
 intro cf cs K hK
 refine Z2 ?_
 refine jaA rfl zq (fun q1=>jao (jad ?_));refine jaA rfl zq (fun q2=>jao (jad ?_));refine jay rfl zq (fun q6=>jao (jad ?_));refine Z8 ?_;refine jaf (Post:=fun v=>v= .int .i64 (jeL b c f)) rfl zq zK (fun H' hH=>f132_c m H' (ra.keeps (hs.trans (sq hH))) c f hf) ?_
 rintro v rfl;refine Z6 ?_
 refine jaI rfl zq (fun hc=>?_) (fun hc=>?_)
 ·refine Z4 ?_;refine D30 ?_;refine Zs ?_;refine jdP ?_;refine jac (H) rfl Tryz.func74 rfl jab ?_;refine Zs ?_
  exact ⟨[],by simp,fun H2 _ _=>by
   have e1:jlT b c f=jeL b c f:=by rw [jlT,if_pos zD]
   rw [e1];exact E89⟩
 ·refine Z4 ?_
  have ef:jeL b c f=0:=by omega
  obtain ⟨hz,hm,hfo⟩:=je7 ef
  have ok:=jbf.1 hz
  have rd:=(ra.keeps hs).rd ok
  have hht:=(jbS hm).1
  have hps:=putS_eq ef
  refine Z4 ?_;refine jax rfl zq zK (Post:=fun v nz=> ∃pw' cw' pb' cb',v=tbV (jbl b c f) ps ns ks pw' nw cw' pb' nb cb'∧RdLn B nz (.slice pw' nw cw') nw (jbl b c f).waters∧RdLn B nz (.slice pb' nb cb') nb (jbl b c f).butts) (fun H' hH=>f33_r m H' (ra.keeps (hs.trans (sq hH))) ok hht f hf) ?_
  rintro v nzW ⟨pwW,cwW,pbW,cbW,rfl,ewW,ebW⟩;refine jaz (jad ?_);refine jay rfl zq (fun q9=>jao (jad ?_));refine D4 ?_;refine Z5 ?_;refine jaf (Post:=fun v=>v= .int .i64 (tbS (jbl b c f))) rfl zq zK (fun H' hH=>f66_r m H' (jer ra ra.sm hf ewW ebW (hs.trans (sq hH)) (sq hH))) ?_
  rintro v rfl;refine Z6 ?_
  refine jaI rfl zq (fun hc=>?_) (fun hc=>?_)
  ·refine Z4 ?_;refine D30 ?_;refine Zs ?_;refine jdP ?_;refine jac (H) rfl Tryz.func74 rfl jab ?_;refine Zs ?_
   exact ⟨[],by simp,fun H2 _ _=>by
    have e1:jlT b c f=tbS (jbl b c f):=by rw [hps,jqM zD]
    rw [e1];exact E89⟩
  ·refine Z4 ?_
   have hzW:tbS (jbl b c f)=0:=by omega
   have hX:=jbf.1 hzW
   by_cases hbo:jah (jbl b c f)=[]
   refine Z2 ?_;refine jaf (Post:=fun v=>v= .tuple [.agg zeroL.toArray,.int .i64 9].toArray) rfl zq zK (fun H' hH=>by have:=f133_c m H' (jer ra ra.sm hf ewW ebW (hs.trans (sq hH)) (sq hH)) hX;rw [if_pos hbo] at this;exact this) ?_
   rotate_left
   refine Z2 ?_;refine jaf (Post:=fun v=>v= .tuple [tbV (jbl b c f) ps ns ks pwW nw cwW pbW nb cbW,.int .i64 0].toArray) rfl zq zK (fun H' hH=>by have:=f133_c m H' (jer ra ra.sm hf ewW ebW (hs.trans (sq hH)) (sq hH)) hX;rw [if_neg hbo] at this;exact this) ?_
   all_goals
    rintro v rfl;refine Z3 ?_;refine jdP ?_
   ·refine jac (H++nzW) rfl Tryz.func74 rfl jab ?_;refine Zs ?_;have e0:jlT b c f=0:=by rw [hps,jm4 hzW rfl hbo]
    exact ⟨nzW,rfl,fun H2 s1 s2=>⟨_,_,_,_,_,_,_,_,_,_,by rw [e0],fun e=>absurd e0 e,fun _=>⟨_,_,_,_,_,_,_,_,_,rfl,jer ra ra.sm hf ewW ebW s1 s2⟩⟩⟩
   ·refine jac (H) rfl Tryz.func74 rfl jab ?_;refine Zs ?_;exact ⟨[],by simp,fun H2 _ _=>by
     have e1:jlT b c f=9:=by rw [hps,jm3 hzW rfl hbo]
     rw [e1];exact E89⟩
theorem f76_c (m:Md Tryz.prog B) (H:Hp) (ra:RawTb B h b ps ns ks pw nw cw pb nb cb) (hs:h.Sublist H) (c:Ce):FnC m 76 #[tbV b ps ns ks pw nw cw pb nb cb,cV c.butt c.line c.st] H fun v h'=> ∃new,h'=H++new∧ ∀H2,h.Sublist H2→new.Sublist H2→jmE B (jfA b c) (jbl b c jdZ) H2 v:=by
 refine jae Tryz.func76 rfl rfl (l:=(tbV b ps ns ks pw nw cw pb nb cb)::(cV c.butt c.line c.st)::uu19) rfl ?_
 intro cf cs K hK
 refine Z2 ?_
 refine jaA rfl zq (fun q1=>jao (jad ?_));refine jaA rfl zq (fun q2=>jao (jad ?_));refine jay rfl zq (fun q6=>jao (jad ?_));refine Z6 ?_;refine jaf (Post:=fun v=>v= .int .i64 (tbS b)) rfl zq zK (fun H' hH=>f66_r m H' (ra.keeps (hs.trans (sq hH)))) ?_
 rintro v rfl;refine Z6 ?_
 refine jaI rfl zq (fun hc=>?_) (fun hc=>?_)
 ·refine Z4 ?_;refine D30 ?_;refine Zs ?_;refine jdP ?_;refine jac (H) rfl Tryz.func76 rfl jab ?_;refine Zs ?_
  exact ⟨[],by simp,fun H2 _ _=>by
   have e1:jfA b c=tbS b:=by rw [jfA,if_pos zD]
   rw [e1];exact E89⟩
 ·refine Z8 ?_;refine jaf (Post:=fun v=>IsB _ v) rfl zq zK (fun H' hH=>f134_c m H' (ra.keeps (hs.trans (sq hH))) c) ?_
  rintro v (⟨hc,rfl⟩|⟨hc,rfl⟩)
  ·refine Zs ?_
   have hin:=hc
   refine Z5 ?_
   obtain ⟨hz,hm⟩:=hin
   have ok:=jbf.1 hz
   have hht:=(jbS hm).1
   refine Z3 ?_;refine jax rfl zq zK (Post:=fun v nz=> ∃pw' cw' pb' cb',v=tbV (jbl b c jdZ) ps ns ks pw' nw cw' pb' nb cb'∧RdLn B nz (.slice pw' nw cw') nw (jbl b c jdZ).waters∧RdLn B nz (.slice pb' nb cb') nb (jbl b c jdZ).butts) (fun H' hH=>f33_r m H' (ra.keeps (hs.trans (sq hH))) ok hht jdZ zA) ?_
   rintro v nzW ⟨pwW,cwW,pbW,cbW,rfl,ewW,ebW⟩;refine jaz (jad ?_);refine jdP ?_;refine jac (H++nzW) rfl Tryz.func76 rfl jab ?_;refine Zs ?_
   have e0:jfA b c=0:=by rw [jfA,if_neg (fun e=>e hz),if_neg (fun e=>e hm)]
   exact ⟨nzW,rfl,fun H2 s1 s2=>⟨_,_,_,_,_,_,_,_,_,_,by rw [e0],fun e=>absurd e0 e,fun _=>⟨_,_,_,_,_,_,_,_,_,rfl,jer ra ra.sm zA ewW ebW s1 s2⟩⟩⟩
  ·refine Zs ?_
   have hin:=hc
   refine Z5 ?_;refine D30 ?_;refine jdP ?_;refine jac (H) rfl Tryz.func76 rfl jab ?_;refine Zs ?_
   exact ⟨[],by simp,fun H2 _ _=>by
    have e1:jfA b c=6:=by rw [jfA,if_neg zO,if_pos (fun e=>hin ⟨by omega,e⟩)]
    rw [e1];exact E89⟩
end
section
variable [LaidO B]
theorem jky (m:Md Tryz.prog B) (H:Hp) {s:Int} {T:Tb} {l1 l2:List Value} (z1:s≠0→l1=zeroL) (z2:s≠0→l2=zeroL) (r1:s=0→ ∃ps ns ks pw nw cw pb nb cb,l1=tbL T ps ns ks pw nw cw pb nb cb∧RawTb B H T ps ns ks pw nw cw pb nb cb) (r2:s=0→ ∃ps ns ks pw nw cw pb nb cb,l2=tbL T ps ns ks pw nw cw pb nb cb∧RawTb B H T ps ns ks pw nw cw pb nb cb):FnC m 54 #[.agg l1.toArray,.agg l2.toArray] H fun v h'=>h'=H∧v= .bool true:=by
 by_cases hs:s=0
 ·obtain ⟨ps,ns,ks,pw,nw,cw,pb,nb,cb,rfl,ra⟩:=r1 hs
  obtain ⟨ps2,ns2,ks2,pw2,nw2,cw2,pb2,nb2,cb2,rfl,rb⟩:=r2 hs
  obtain rfl:ns=ns2:=by have h1:=ra.s.elen zA;have h2:=rb.s.elen zA;omega
  obtain rfl:nw=nw2:=by have h1:=jbG ra.w;have h2:=jbG rb.w;omega
  obtain rfl:nb=nb2:=by have h1:=jbG ra.u;have h2:=jbG rb.u;omega
  exact f54_t m H ra rb ⟨fun l hl=>(ra.sm.wat l hl).1,fun l hl=>(ra.sm.but l hl).1⟩
 ·rw [z1 hs,z2 hs];exact jpK m H
theorem f15_t (h:Hp) (rds:RdS B h 1 (.slice ps ns ks) ns (jaC b.sts)) (hcs:ns≤ks) (rdw:RdLn B h (.slice pw nw cw) nw b.waters) (rdb:RdLn B h (.slice pb nb cb) nb b.butts) (c:Ce) (s:Str):(Md.starC Tryz.prog B).R (jmG Tryz.prog B fun v _=>v= .bool true) (G (Frame.enter Tryz.prog 15 #[tbV b ps ns ks pw nw cw pb nb cb,cV c.butt c.line c.st,str s] .normal) []) h:=by
 refine jll Tryz.func15 rfl rfl (l:=[tbV b ps ns ks pw nw cw pb nb cb,cV c.butt c.line c.st,str s,undef,undef,undef,undef,undef,undef,undef,undef,undef,undef,undef,undef,undef,undef,undef,undef,undef,undef,undef,undef,undef,undef,undef,undef,undef,undef,undef,undef,undef,undef,undef,undef,undef,undef,undef,undef,undef,undef,undef,undef,undef,undef,undef,undef,undef,undef,undef,undef,undef,undef,undef,undef,undef,undef,undef,undef,undef,undef,undef,undef,undef,undef,undef,undef,undef,undef,undef,undef,undef,undef,undef,undef,undef,undef,undef,undef,undef,undef,undef,undef,undef,undef,undef,undef,undef,undef,undef,undef,undef,undef,undef,undef,undef,undef,undef,undef,undef,undef,undef,undef,undef,undef,undef,undef,undef,undef,undef,undef,undef,undef,undef,undef,undef,undef,undef,undef,undef,undef,undef,undef,undef,undef,undef,undef,undef,undef,undef,undef,undef,undef,undef,undef,undef,undef,undef,undef,undef,undef,undef,undef,undef,undef,undef,undef]) rfl ?_;refine Z2 ?_
 refine jaA rfl zq (fun q1=>jao (jad ?_));refine jaA rfl zq (fun q2=>jao (jad ?_));refine Z6 ?_;refine jaf (Post:=fun v=>IsB _ v) rfl zq zK (fun H' hH=>f19_c _ H' (rds.keeps (sq hH)) hcs (rdw.keeps (sq hH)) (rdb.keeps (sq hH))) ?_
 rintro v (⟨hc,rfl⟩|⟨hc,rfl⟩)
 ·refine Z10 ?_;refine jdp rfl zq zK (f20_c _) ?_
  rintro v h' ⟨nF,rfl,rfl⟩;refine Z4 ?_;refine jin rfl Tryz.func15 zK rfl ?_
  rfl
 ·refine Zs ?_
  have ra:=raw_of rds hcs rdw rdb hc
  refine Z2 ?_;refine jl6 rfl rfl jjC ?_
  refine jaJ rfl rfl (fun hc=>?_) (fun hc=>?_)
  ·refine Z5 ?_;refine jdp rfl zq zK (f20_c _) ?_
   rintro v h' ⟨nF,rfl,rfl⟩;refine Z4 ?_;refine jin rfl Tryz.func15 zK rfl ?_
   rfl
  ·have hs1:s.length≤100:=by omega
   refine Z7 ?_;refine jdp rfl zq zK (f41_c _ (ra.keeps SubH.sub)) ?_
   rintro v h' ⟨nA,wA,gA,rfl,rfl,rgA,hgA,hsA,hlA⟩;refine Zs ?_
   obtain ⟨pA,cA,rfl,rdA⟩:=rgA
   simp only [jhk,jo0,jgR,jjM]
   simp only [jhk,jo0,jgR,jjM] at rdA
   have raR:=ra.ro
   refine Z9 ?_;refine jax rfl zq zK (Post:=fun v nw=> ∃w g,v= .tuple [w,.int .i64 (tbS b)].toArray∧RdI B nw w g∧(tbS b≠0→g=[])∧(tbS b=0→jbt (cdT b)=true→g=[])∧(tbS b=0→ ¬jbt (cdT b)=true→jdU (fun l=>jcK b (jbN l)=true) (jaa b).length g)) (fun H' hH=>f71_c (Md.starC Tryz.prog B) H' (raR.keeps (sq hH))) ?_
   rintro v nB ⟨wB,gB,rfl,⟨pB,cB,rfl,rdB⟩,hgB,hsB,hlB⟩;refine jaz (jad ?_);obtain rfl:gA=gB:=by
    by_cases hz:tbS b=0
    ·by_cases hsd:jbt (cdT b)=true
     ·rw [hsA hz hsd,hsB hz hsd]
     ·exact jg2 (hlA hz hsd) (hlB hz hsd)
    ·rw [hgA hz,hgB hz]
   have hgl:gA.length≤1000:=by
    by_cases hz:tbS b=0
    ·by_cases hsd:jbt (cdT b)=true
     ·rw [hsA hz hsd];exact VP _
     ·have:=jje (hlA hz hsd).1 (hlA hz hsd).2.1
      have:=ja3 (jej hz)
      omega
    ·rw [hgA hz];exact VP _
   refine Z11 ?_;refine jaf (Post:=fun v=>IsB _ v) rfl zq zK (fun H' hH=>f42_c _ H' (rdA.keeps (sq hH)) zO (rdB.keeps (sq hH))) ?_
   rintro v (⟨hc,rfl⟩|⟨hc,rfl⟩)
   ·refine Z5 ?_;refine jeH rfl rfl rfl ?_;refine Z5 ?_;refine D48 ?_;refine Zs ?_;refine jaf (Post:=fun v=>v= .tuple [ceV (cOfA b (jkc b).1),.int .i64 ((jkc b).2:Int),.bool (jkc b).1.isSome,.int .i64 (jaH b 0)].toArray) rfl zq zK (fun H' hH=>f50_c (Md.starC Tryz.prog B) H' (raR.keeps (sq hH))) ?_
    rintro v rfl;refine Z4 ?_;refine jiI rfl zq ?_;refine jol rfl zq ?_
    refine jay rfl zq (fun q11=>jao (jad ?_));refine D4 ?_;refine Z5 ?_;refine D48 ?_;refine Zs ?_;refine jaf (Post:=fun v=>v= .tuple [ceV (cOfA b (jkc b).1),.int .i64 ((jkc b).2:Int),.bool (jkc b).1.isSome,.int .i64 (jaH b 0)].toArray) rfl zq zK (fun H' hH=>f72_c (Md.starC Tryz.prog B) H' (raR.keeps (sq hH))) ?_
    rintro v rfl;refine Z4 ?_;refine jiI rfl zq ?_;refine jol rfl zq ?_
    refine jay rfl zq (fun q14=>jao (jad ?_));refine D4 ?_;refine Z6 ?_;refine jbm [Zf 0,Zf 1,Zf 2,Zf 3,Zf 4,Zf 5,Zf 6,Zf 7,Zf 8,Zf 9,Zf 10,Zf 11,Zf 12,Zf 13,Zf 14,Zf 15,Zf 16,Zf 17] zK zK ?_;refine Z2 ?_
    refine k_neqC rfl zq zK (fun hc=>absurd ⟨rfl,rfl,rfl⟩ hc) (fun hc=>?_)
    ·refine Z3 ?_;refine jeH rfl rfl rfl ?_;refine Z4 ?_;refine k_neqBF rfl rfl zK rfl ?_;refine Z4 ?_;refine jeH rfl rfl rfl ?_;refine Z9 ?_;refine jax rfl zq zK (Post:=fun v nw=>jmE B (jeq b c s) (jbl b c (jbM (jd0 b c s))) nw v) (fun H' hH=>f53_c (Md.starC Tryz.prog B) H' (raR.keeps (sq hH)) c s zO) ?_
     rintro v nA ⟨xA,y1A,z1A,w1A,y2A,z2A,w2A,y3A,z3A,w3A,rfl,ezA,erA⟩;refine jaz (jad ?_);refine Z3 ?_
     refine jay rfl zq (fun q17=>jao (jad ?_));refine D4 ?_;refine Z7 ?_;refine jax rfl zq zK (Post:=fun v new=> ∀H2,(Lo.ro h).Sublist H2→new.Sublist H2→jmE B (jeq b c s) (jbl b c (jbM (jd0 b c s))) H2 v) (fun H' hH=>f73_c (Md.starC Tryz.prog B) H' raR (sq hH) c s zO) ?_
     rintro v nB hTB;obtain ⟨xB,y1B,z1B,w1B,y2B,z2B,w2B,y3B,z3B,w3B,rfl,ezB,erB⟩:=hTB (Lo.ro h++nB) (gG _ _) (gK _ _)
     refine jaz (jad ?_);refine Z3 ?_
     refine jay rfl zq (fun q18=>jao (jad ?_));refine D4 ?_;refine Z7 ?_;refine jaf (Post:=fun v=>v= .bool true) rfl zq zK (fun H' hH=>jky _ H' ezA ezB (fun e=>by obtain ⟨p1,p2,p3,p4,p5,p6,p7,p8,p9,e1,e2⟩:=erA e;exact E90) (fun e=>by obtain ⟨p1,p2,p3,p4,p5,p6,p7,p8,p9,e1,e2⟩:=erB e;exact E90)) ?_
     rintro v rfl;refine Z5 ?_;refine jeH rfl rfl rfl ?_;refine Z9 ?_;refine jax rfl zq zK (Post:=fun v nw=>jmE B (jlT b c s) (jbl b c s) nw v) (fun H' hH=>f60_c (Md.starC Tryz.prog B) H' (raR.keeps (sq hH)) c s zO) ?_
     rintro v nC ⟨xC,y1C,z1C,w1C,y2C,z2C,w2C,y3C,z3C,w3C,rfl,ezC,erC⟩;refine jaz (jad ?_);refine Z3 ?_;refine D4 ?_;refine Z7 ?_;refine jax rfl zq zK (Post:=fun v new=> ∀H2,(Lo.ro h).Sublist H2→new.Sublist H2→jmE B (jlT b c s) (jbl b c s) H2 v) (fun H' hH=>f74_c (Md.starC Tryz.prog B) H' raR (sq hH) c s zO) ?_
     rintro v nD hTD;obtain ⟨xD,y1D,z1D,w1D,y2D,z2D,w2D,y3D,z3D,w3D,rfl,ezD,erD⟩:=hTD (Lo.ro h++nD) (gG _ _) (gK _ _)
     refine jaz (jad ?_);refine Z3 ?_;refine D4 ?_;refine Z7 ?_;refine jaf (Post:=fun v=>v= .bool true) rfl zq zK (fun H' hH=>jky _ H' ezC ezD (fun e=>by obtain ⟨p1,p2,p3,p4,p5,p6,p7,p8,p9,e1,e2⟩:=erC e;exact E90) (fun e=>by obtain ⟨p1,p2,p3,p4,p5,p6,p7,p8,p9,e1,e2⟩:=erD e;exact E90)) ?_
     rintro v rfl;refine Z5 ?_;refine jeH rfl rfl rfl ?_;refine Z8 ?_;refine jax rfl zq zK (Post:=fun v nw=>jmE B (jfA b c) (jbl b c jdZ) nw v) (fun H' hH=>f75_c (Md.starC Tryz.prog B) H' (raR.keeps (sq hH)) c) ?_
     rintro v nE ⟨xE,y1E,z1E,w1E,y2E,z2E,w2E,y3E,z3E,w3E,rfl,ezE,erE⟩;refine jaz (jad ?_);refine Z3 ?_;refine D4 ?_;refine Z6 ?_;refine jax rfl zq zK (Post:=fun v new=> ∀H2,(Lo.ro h).Sublist H2→new.Sublist H2→jmE B (jfA b c) (jbl b c jdZ) H2 v) (fun H' hH=>f76_c (Md.starC Tryz.prog B) H' raR (sq hH) c) ?_
     rintro v nF hTF;obtain ⟨xF,y1F,z1F,w1F,y2F,z2F,w2F,y3F,z3F,w3F,rfl,ezF,erF⟩:=hTF (Lo.ro h++nF) (gG _ _) (gK _ _)
     refine jaz (jad ?_);refine Z3 ?_;refine jdP ?_;refine D48 ?_;refine Z2 ?_;refine jaf (Post:=fun v=>v= .bool true) rfl zq zK (fun H' hH=>jky _ H' ezE ezF (fun e=>by obtain ⟨p1,p2,p3,p4,p5,p6,p7,p8,p9,e1,e2⟩:=erE e;exact E90) (fun e=>by obtain ⟨p1,p2,p3,p4,p5,p6,p7,p8,p9,e1,e2⟩:=erF e;exact E90)) ?_
     rintro v rfl;refine Z4 ?_;refine jeI rfl rfl rfl ?_;refine Z2 ?_;refine jdp rfl rfl zK (f20_c _) ?_
     rintro v h' ⟨nF,rfl,rfl⟩;refine Z5 ?_;refine jin rfl Tryz.func15 zK rfl ?_
     rfl
   ·refine Zs ?_
    exact absurd rfl hc
end
end Go.Proofs
