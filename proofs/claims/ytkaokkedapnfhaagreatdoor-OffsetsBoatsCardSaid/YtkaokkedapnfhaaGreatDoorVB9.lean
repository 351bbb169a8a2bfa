/- A part of the proof of a law. Condition of each theorem: as its statement says. -/
import Derived.Test.YtkaokkedapnfhaaGreatDoorVB8
set_option linter.all false
variable {B:Array Go.Obj} {v s z st:Int} {i n q qx qm qc must can N qw ns ks nw cw nb cb t fid k j:Nat} {l vs args tv a cs ys junk:List Go.Value} {P:Go.Program} {f:Go.Lo.Str} {h h0 H M:Go.Lo.Hp} {b:Go.Lo.Tb} {yv:Go.Value} {YI:List Go.Lo.Bo→Go.Lo.Hp→Prop} {YS:Go.Lo.Hp→Prop} {L:List Go.Lo.Bo} {ls lns:List Go.Lo.Ln} {ps pw pb p qv:Option Go.Addr} {xs lps:List Go.Lo.Lp} {ss:List Go.Lo.Str}
set_option maxHeartbeats 4000000
set_option maxRecDepth 100000
set_option synthInstance.maxHeartbeats 1000000
set_option synthInstance.maxSize 100000
namespace Go.Proofs
open Go.Lo
open Go.Conc (G)
section
variable [LaidO B]
theorem jpv {D:List Cd} {x:Bo} {d:Cd} (h:x.length≤D.length):jaE d v D x=jaE d v (D.take x.length) x:=by
 have hl:x.length=(D.take x.length).length:=by rw [GH];omega
 have:=jdp (d:=d) (v:=v) (C:=D.drop x.length) hl
 rwa [vA] at this
theorem jjV {D:List Cd} {x:Bo} (h:x.length<D.length) (h12:D.length≤12):fitsN D (jcA (x++[some v])) (jnQ (x++[some v])) x.length x.length↔jaE (dA D x.length) v D x=true:=by
 have hl:x.length=(D.take x.length).length:=by rw [GH];omega
 rw [jpv zO,jcP hl];have hv:(jnQ (x++[some v])).getD x.length 0=v:=by
  rw [jfy zO,xA,gC];simp
 have hj: ∀j,j<x.length→(jnQ (x++[some v])).getD j 0=(xA x j).getD 0:=fun j hj=>by
  rw [jfy zO,xA,xA,gC,ge hj,gC]
 have hd: ∀j,j<x.length→dA (D.take x.length) j=dA D j:=fun j hj=>by
  rw [dA,dA,gC,GZ,if_pos hj,gC]
 have hb: ∀j,j<x.length→((jcA (x++[some v])).testBit j=false↔ ∃u,xA x j=some u):=fun j hj=>by
  rw [jj8,jdB];cases hx:xA x j with
  |none=>simp [hj]
  |some u=>simp
 constructor
 ·intro hh j u hu
  have hjl:j<x.length:=gw fun e=>by
   rw [xA,gC,gl zO] at hu
   cases hu
  have:=hh j hjl ((hb j hjl).2 ⟨u,hu⟩)
  rw [hv,hj j hjl,hu] at this
  rw [hd j hjl,je1];exact this
 ·intro hh j hjl hbj
  obtain ⟨u,hu⟩:=(hb j hjl).1 hbj
  have:=hh j u hu
  rw [hd j hjl,je1] at this
  rw [hv,hj j hjl,hu];exact this
theorem jkI (s:Str):(jdw s).length≤960:=by
 rw [jdw];split
 ·rw [jkJ,gU];have:=GU (jfC (jau s)) (List.range 960)
  rwa [List.length_range] at this
 ·simp
theorem jna (b:Tb) (hi:i<(jab b).length):(dA (cdT b) i).can.length≤960:=by
 rw [jav b hi];exact jkI _
theorem bo_some {x:Bo} (h:x.length<12):SetSeg (boL x) (1+(x.length:Int).toNat*1) [.int .i64 v] (boL (x++[some v])):=by
 refine jcI (by rw [jaL];omega) ?_
 rw [boL,boL,jj8,jqC h,show 1+(x.length:Int).toNat*1=x.length+1 by omega,List.set_cons_succ,Vf]
theorem jr1 {x:Bo} (h:x.length<12):SetSeg (boL x) 0 [.int .u64 ((jcA x|||2^x.length:Nat):Int)] (boL (x++[none])):=by
 refine jcI (by rw [jaL];omega) ?_
 rw [boL,boL,jpr,jqD h,List.set_cons_zero]
instance {x:Bo}:Ones (boL x):=⟨jr2 x⟩
instance {x:Bo}:LenIs (boL x) 13:=⟨jaL x⟩
instance {x:Bo}:At (boL x) 0 (.int .u64 (jcA x:Int)):=⟨rfl⟩
theorem seg_all (h:l.length=n):Seg l 0 n l:=⟨by rw [List.drop_zero];exact gh zO,h⟩
instance {x:Bo}:Seg (boL x) 0 13 (boL x):=seg_all (jaL x)
theorem jjC {r:List Value} (h:l.length=r.length):SetSeg l 0 r r:=⟨by rw [gS zO];simp,by omega⟩
instance {v1 v2 v3 v4 v5 v6 v7 v8 v9 v10 v11 v12 v13:Value} {x:Bo}:SetSeg [v1,v2,v3,v4,v5,v6,v7,v8,v9,v10,v11,v12,v13] 0 (boL x) (boL x):=jjC (by rw [jaL];rfl)
theorem CallV.fn' {m:Md P B} {f:FuncId} {first cap vs:Array Value} {Post:Value→Hp→Prop} (hf:jbM P f=true) (e:first++args.toArray++cap=vs) (c:FnC m f vs h Post):CallV m (.func (.func f) first cap) args h Post:=CallV.fn hf (e▸c)
theorem jhO:jbM Tryz.prog 124=true:=by kernel_rfl
def EachO {P:Program} {B:Array Obj} (m:Md P B) (h0:Hp) (G:List Bo) (N:Nat) (yv:Value) (YI:List Bo→Hp→Prop) (YS:Hp→Prop):Prop:=
 ∀(F R:Hp) (dn:List Bo) (x:Bo),h0.Sublist F→x∈G→dn.length<N→YI dn R→CallV m yv [boV x] (F++R) fun v h'=> ∃R',h'=F++R'∧((v= .bool true∧YI (dn++[x]) R')∨(v= .bool false∧YS R'))
theorem f124_c (m:Md Tryz.prog B) (sh:Sheet B h0 b q tv) (rx:Rd B h0 ⟨qx,0,none⟩ (.pointer (some ⟨q,0,none⟩))) (rm:Rd B h0 ⟨qm,0,none⟩ (.int .u64 (must:Int))) (rc:Rd B h0 ⟨qc,0,none⟩ (.int .u64 (can:Int))) (hmu:must<4096) (hca:can<4096) [CellsV yv [yv]] {G:List Bo} (hY:EachO m h0 G N yv YI YS) (qy qn:Nat):
  ∀(d w:Nat) (x:Bo) (dn:List Bo) (X R:Hp),x.length+d=(jab b).length→w≤100→(∀y∈jdI (cdT b) can must d w x,y∈G)→dn.length+(jdI (cdT b) can must d w x).length≤N→YI dn R→
   FnC m 124 #[boV x,.int .i64 (x.length:Int),.int .i64 (w:Int),.pointer (some ⟨qx,0,none⟩),.pointer (some ⟨qy,0,none⟩),.pointer (some ⟨qm,0,none⟩),.pointer (some ⟨qn,0,none⟩),.pointer (some ⟨qc,0,none⟩)] (((h0++[⟨true,qy,.cells [yv].toArray 180 (0,0)⟩,⟨true,qn,.cells [.func (.func 124) #[] [.pointer (some ⟨qx,0,none⟩),.pointer (some ⟨qy,0,none⟩),.pointer (some ⟨qm,0,none⟩),.pointer (some ⟨qn,0,none⟩),.pointer (some ⟨qc,0,none⟩)].toArray].toArray 181 (0,0)⟩])++X)++R) fun v h'=> ∃R',h'=((h0++[⟨true,qy,.cells [yv].toArray 180 (0,0)⟩,⟨true,qn,.cells [.func (.func 124) #[] [.pointer (some ⟨qx,0,none⟩),.pointer (some ⟨qy,0,none⟩),.pointer (some ⟨qm,0,none⟩),.pointer (some ⟨qn,0,none⟩),.pointer (some ⟨qc,0,none⟩)].toArray].toArray 181 (0,0)⟩])++X)++R'∧((v= .bool true∧YI (dn++jdI (cdT b) can must d w x) R')∨(v= .bool false∧YS R')):=by
 intro d
 induction d using Nat.strongRecOn
 rename_i d ih
 intro w x dn X R hid hw hok hdn hR
 have h12:=sh.twelve
 obtain ⟨pc,cc0,hcv,hcc,hcr0⟩:=sh.cells
 refine jae Tryz.func124 rfl rfl (l:=(boV x)::(.int .i64 (x.length:Int))::(.int .i64 (w:Int))::(.pointer (some ⟨qx,0,none⟩))::(.pointer (some ⟨qy,0,none⟩))::(.pointer (some ⟨qm,0,none⟩))::(.pointer (some ⟨qn,0,none⟩))::(.pointer (some ⟨qc,0,none⟩))::uu71) rfl ?_
 intro cf cs K hK
 refine Z2 ?_
 refine jaF rfl zq (fun q8=>jlO (Weak.mid ((h0++[⟨true,qy,.cells [yv].toArray 180 (0,0)⟩,⟨true,qn,.cells [.func (.func 124) #[] [.pointer (some ⟨qx,0,none⟩),.pointer (some ⟨qy,0,none⟩),.pointer (some ⟨qm,0,none⟩),.pointer (some ⟨qn,0,none⟩),.pointer (some ⟨qc,0,none⟩)].toArray].toArray 181 (0,0)⟩])++X) R _) (jad ?_));refine Z6 ?_;refine D125 ?_;refine Z2 ?_;refine D70 ?_;refine Zs ?_
 refine jaA rfl zq (fun hc=>?_) (fun hc=>?_)
 ·obtain rfl:d=0:=by omega
  have hgn:jdI (cdT b) can must 0 w x=[x]:=rfl
  rw [hgn] at hdn hok
  refine Z6 ?_
  have hcv2:=hY (((h0++[⟨true,qy,.cells [yv].toArray 180 (0,0)⟩,⟨true,qn,.cells [.func (.func 124) #[] [.pointer (some ⟨qx,0,none⟩),.pointer (some ⟨qy,0,none⟩),.pointer (some ⟨qm,0,none⟩),.pointer (some ⟨qn,0,none⟩),.pointer (some ⟨qc,0,none⟩)].toArray].toArray 181 (0,0)⟩])++X)++[⟨true,q8,.cells (boL x).toArray 68 (0,0)⟩]) R dn x zS (hok x zS) (by simp at hdn;omega) hR
  refine jgP rfl zq hcv2 ?_;rintro v h' ⟨R2,rfl,hh⟩;refine Z4 ?_;refine D10 ?_;refine Zs ?_
  exact ⟨R2,rfl,by rw [hgn];exact hh⟩
 ·obtain ⟨d1,rfl⟩: ∃d1,d=d1+1:=⟨d-1,by omega⟩
  have hxl:x.length<(jab b).length:=by omega
  have hx12:x.length<12:=by omega
  have hbs:=jcO (x:=x) zO
  refine Z6 ?_;refine jaI rfl zq (rm.keeps SubH.sub) ?_;refine Zs ?_;refine jag (Post:=fun v=>IsB _ v) rfl zq zK (fun H' hH=>f37_b m H' must x.length hmu hx12) ?_
  rintro v (⟨hc,rfl⟩|⟨hc,rfl⟩)
  ·refine Zs ?_
   have hmb:must.testBit x.length=true:=hc
   have hgm:=jiI (D:=cdT b) (can:=can) (f:=d1) (w:=w) hmb
   refine Z6 ?_
   first
    |have hpre: ∃pre,jdI (cdT b) can must (d1+1) w x=pre++(if w=0∨can.testBit x.length=false then [] else jdI (cdT b) can must d1 (w-1) (x++[none]))∧YI (dn++pre) R1:=⟨_,hgf j zO,hR1⟩
    |have hpre: ∃pre,jdI (cdT b) can must (d1+1) w x=pre++(if w=0∨can.testBit x.length=false then [] else jdI (cdT b) can must d1 (w-1) (x++[none]))∧YI (dn++pre) R:=⟨[],hgm,by rw [gd];exact hR⟩
   obtain ⟨pre,hgp,hRp⟩:=hpre
   refine Z2 ?_
   refine jaA rfl zq (fun hc=>?_) (fun hc=>?_)
   ·refine Z13 ?_;refine D28 ?_;refine Zs ?_
    exact E58
   ·refine Zs ?_;refine jaI rfl rfl (rc.keeps SubH.sub) ?_;refine Zs ?_;refine jag (Post:=fun v=>IsB _ v) rfl rfl zK (fun H' hH=>f37_b m H' can x.length hca hx12) ?_
    rintro v (⟨hc,rfl⟩|⟨hc,rfl⟩)
    ·refine jpD ?_;refine Z9 ?_;refine D84 ?_
     rintro v rfl;refine Z2 ?_
     haveI hsn:=jr1 (x:=x) hx12
     refine D9 ?_;refine Z9 ?_
     have hw1:w≠0:=by omega
     have hcb:can.testBit x.length=true:=by assumption
     have hgg:(if w=0∨can.testBit x.length=false then [] else jdI (cdT b) can must d1 (w-1) (x++[none]))=jdI (cdT b) can must d1 (w-1) (x++[none]):=if_neg (by rw [hcb];simp;exact hw1)
     have hrec:=ih d1 zO (w-1) (x++[none]) (dn++pre) (X++[⟨true,q8,.cells (boL (x++[none])).toArray 68 (0,0)⟩]) _ zN zO (fun y hy=>hok y (by
      rw [hgp,hgg];exact GF _ hy)) (by
      rw [hgp,hgg,gJ] at hdn
      rw [gJ];omega) hRp
     rw [show (((x++[none]:Bo).length:Nat):Int)=(x.length:Int)+1 by simp,show ((w-1:Nat):Int)=(w:Int)-1 by omega,←gG (h0++_) X] at hrec
     have hcv2:=CallV.fn' (first:= #[]) (args:=[boV (x++[none]),.int .i64 ((x.length:Int)+1),.int .i64 ((w:Int)-1)]) (cap:=[Value.pointer (some ⟨qx,0,none⟩),Value.pointer (some ⟨qy,0,none⟩),Value.pointer (some ⟨qm,0,none⟩),Value.pointer (some ⟨qn,0,none⟩),Value.pointer (some ⟨qc,0,none⟩)].toArray) jhO zS hrec
     refine jgP rfl zq hcv2 ?_;clear hcv2 hrec
     rintro v h' ⟨R2,rfl,hh⟩;refine Z4 ?_;refine D10 ?_;refine Zs ?_
     exact ⟨R2,rfl,by rw [hgp,hgg,←gG];exact hh⟩
    ·refine D135 ?_;refine Z8 ?_;refine D28 ?_;refine Zs ?_
     exact E58
  ·refine Zs ?_
   have hmb:must.testBit x.length=false:=by simpa using hc
   have hgf:=fun j=>jrx (D:=cdT b) (can:=can) (f:=d1) (w:=w) (j:=j) hmb
   obtain ⟨cp,cc,hcan,hccl,hcr⟩:=sh.can x.length hxl
   have h960:=jna b hxl
   have hcan2:Rd B h0 ⟨q,18+(x.length:Int).toNat*1,none⟩ (.slice cp (dA (cdT b) x.length).can.length cc):=by rw [gb,GK];exact hcan
   refine Z5 ?_;refine D125 ?_;refine Z4 ?_;refine jaI rfl zq (hcan2.keeps SubH.sub) ?_;refine Z4 ?_
   refine jaf (fun nn l h'=> ∃(j:Nat) (R1:Hp),nn=(dA (cdT b) x.length).can.length-j∧(j≤(dA (cdT b) x.length).can.length)∧(YI (dn++jgh (cdT b) can must d1 w x j) R1)∧(∃U:Nat→Value,l=((boV x)::(.int .i64 (x.length:Int))::(.int .i64 (w:Int))::(.pointer (some ⟨qx,0,none⟩))::(.pointer (some ⟨qy,0,none⟩))::(.pointer (some ⟨qm,0,none⟩))::(.pointer (some ⟨qn,0,none⟩))::(.pointer (some ⟨qc,0,none⟩))::(.pointer (some ⟨q8,0,none⟩))::vw25 U 9 ((.slice cp (dA (cdT b) x.length).can.length cc)::(.int .i64 ((dA (cdT b) x.length).can.length:Int))::(.int .i64 (j:Int))::vw42 U 37 [])))∧(((h0++[⟨true,qy,.cells [yv].toArray 180 (0,0)⟩,⟨true,qn,.cells [.func (.func 124) #[] [.pointer (some ⟨qx,0,none⟩),.pointer (some ⟨qy,0,none⟩),.pointer (some ⟨qm,0,none⟩),.pointer (some ⟨qn,0,none⟩),.pointer (some ⟨qc,0,none⟩)].toArray].toArray 181 (0,0)⟩])++X)++[⟨true,q8,.cells (boL x).toArray 68 (0,0)⟩])++R1=h') _ ⟨0,R,rfl,by omega,by rw [jpf,gd];exact hR,exU rfl,rfl⟩ ?_;rintro nn l h' ⟨j,R1,rfl,hj,hR1,⟨U,rfl⟩,rfl⟩ hnext1;refine Z2 ?_
   refine jak rfl zq (fun hc=>?_) (fun hc=>?_)
   ·refine Z7 ?_
    obtain ⟨cpb,cpo,hcp⟩:=hcr.ptr zO
    have hcr':=hcr
    rw [hcp] at hcr'
    refine Zs ?_;refine ja1 rfl zq hcp zO zO ?_;refine jaI rfl zq (hcr'.iat j zO zO) ?_;refine Z5 ?_
    refine jaB rfl zq (fun q14=>jlO (Weak.mid (((h0++[⟨true,qy,.cells [yv].toArray 180 (0,0)⟩,⟨true,qn,.cells [.func (.func 124) #[] [.pointer (some ⟨qx,0,none⟩),.pointer (some ⟨qy,0,none⟩),.pointer (some ⟨qm,0,none⟩),.pointer (some ⟨qn,0,none⟩),.pointer (some ⟨qc,0,none⟩)].toArray].toArray 181 (0,0)⟩])++X)++[⟨true,q8,.cells (boL x).toArray 68 (0,0)⟩]) R1 _) (jad ?_));refine jlP rfl zq (jaL x) ?_;refine Z7 ?_;haveI hss:=bo_some (x:=x) (v:=((dA (cdT b) x.length).can.getD j 0)) hx12
    refine D9 ?_;refine Z2 ?_;refine rr13 ?_;refine D125 ?_;refine Z2 ?_;refine jag (Post:=fun v=>IsB _ v) rfl zq zK (fun H' hH=>f39_c m H' (sh.keeps (sq hH)) hxl (jcA (x++[some ((dA (cdT b) x.length).can.getD j 0)])) (jcO zN) (ms:=jnQ (x++[some ((dA (cdT b) x.length).can.getD j 0)])) (jbI _)) ?_
    rintro v (⟨hc,rfl⟩|⟨hc,rfl⟩)
    ·refine Zs ?_
     have hag:=(jjV (by rw [jat];exact hxl) (by rw [jat];exact h12)).1 hc
     have hgs:=jry (D:=cdT b) (can:=can) (must:=must) (f:=d1) (w:=w) (j:=j) zO hag
     refine Zs ?_;refine jkM rfl rfl ?_;refine jhx rfl rfl ?_;refine Zs ?_;refine jo9 rfl rfl (by unfold jep;omega) ?_;refine Zs ?_
     have hle:=genMJ_le (D:=cdT b) (can:=can) (f:=d1) (w:=w) (j:=j+1) hmb
     have hgfl:=hgf _ (gL _)
     have hrec:=ih d1 zO w (x++[some ((dA (cdT b) x.length).can.getD j 0)]) (dn++jgh (cdT b) can must d1 w x j) (X++([⟨true,q8,.cells (boL x).toArray 68 (0,0)⟩]++[⟨true,q14,.cells (boL (x++[some ((dA (cdT b) x.length).can.getD j 0)])).toArray 68 (0,0)⟩])) R1 zN hw (fun y hy=>hok y (by
      rw [hgfl];refine GN _ ?_
      rw [jjU (gL _)];refine vd.2 ⟨_,gV.2 ⟨?_,hag⟩,hy⟩
      rw [gC,gD zO];exact Gn _)) (by
      rw [hgs,gJ] at hle
      rw [gJ];omega) hR1
     rw [show (((x++[some ((dA (cdT b) x.length).can.getD j 0)]).length:Nat):Int)=(x.length:Int)+1 by simp,←gG (h0++_) X,←gG (_++X) _ _] at hrec
     have hcv2:=CallV.fn' (first:= #[]) (args:=[boV (x++[some ((dA (cdT b) x.length).can.getD j 0)]),.int .i64 ((x.length:Int)+1),.int .i64 (w:Int)]) (cap:=[Value.pointer (some ⟨qx,0,none⟩),Value.pointer (some ⟨qy,0,none⟩),Value.pointer (some ⟨qm,0,none⟩),Value.pointer (some ⟨qn,0,none⟩),Value.pointer (some ⟨qc,0,none⟩)].toArray) jhO zS hrec
     refine jgP rfl rfl hcv2 ?_;clear hcv2 hrec
     rintro v h' ⟨R2,rfl,(⟨rfl,hR2⟩|⟨rfl,hR2⟩)⟩
     ·refine jpD ?_;refine Z9 ?_
      exact m.weak jaa (hnext1 _ _ _ zO ⟨j+1,R2,rfl,by omega,by rw [hgs,←gG];exact hR2,exU rfl,rfl⟩)
     ·refine D135 ?_;refine Z8 ?_;refine D10 ?_;refine Zs ?_
      exact ⟨R2,rfl,.inr ⟨rfl,hR2⟩⟩
    ·refine Zs ?_
     have hag:jaE (dA (cdT b) x.length) ((dA (cdT b) x.length).can.getD j 0) (cdT b) x=false:=by
      cases e:jaE (dA (cdT b) x.length) ((dA (cdT b) x.length).can.getD j 0) (cdT b) x with
      |false=>rfl
      |true=>exact absurd ((jjV (by rw [jat];exact hxl) (by rw [jat];exact h12)).2 e) hc
     have hgs:=genMJ_no (D:=cdT b) (can:=can) (must:=must) (f:=d1) (w:=w) (j:=j) zO hag
     refine Z17 ?_
     exact m.weak jaa (hnext1 _ _ _ zO ⟨j+1,R1,rfl,by omega,by rw [hgs];exact hR1,exU rfl,rfl⟩)
   ·refine Z6 ?_
    first
     |have hpre: ∃pre,jdI (cdT b) can must (d1+1) w x=pre++(if w=0∨can.testBit x.length=false then [] else jdI (cdT b) can must d1 (w-1) (x++[none]))∧YI (dn++pre) R1:=⟨_,hgf j zO,hR1⟩
     |have hpre: ∃pre,jdI (cdT b) can must (d1+1) w x=pre++(if w=0∨can.testBit x.length=false then [] else jdI (cdT b) can must d1 (w-1) (x++[none]))∧YI (dn++pre) R:=⟨[],hgm,by rw [gd];exact hR⟩
    obtain ⟨pre,hgp,hRp⟩:=hpre
    refine Z2 ?_
    refine jaA rfl zq (fun hc=>?_) (fun hc=>?_)
    ·refine Z13 ?_;refine D27 ?_;refine Zs ?_
     exact E58
    ·refine Zs ?_;refine jaI rfl rfl (rc.keeps SubH.sub) ?_;refine Zs ?_;refine jag (Post:=fun v=>IsB _ v) rfl rfl zK (fun H' hH=>f37_b m H' can x.length hca hx12) ?_
     rintro v (⟨hc,rfl⟩|⟨hc,rfl⟩)
     ·refine jpD ?_;refine Z9 ?_;refine D84 ?_
      rintro v rfl;refine Z2 ?_
      haveI hsn:=jr1 (x:=x) hx12
      refine D9 ?_;refine Z9 ?_
      have hw1:w≠0:=by omega
      have hcb:can.testBit x.length=true:=by assumption
      have hgg:(if w=0∨can.testBit x.length=false then [] else jdI (cdT b) can must d1 (w-1) (x++[none]))=jdI (cdT b) can must d1 (w-1) (x++[none]):=if_neg (by rw [hcb];simp;exact hw1)
      have hrec:=ih d1 zO (w-1) (x++[none]) (dn++pre) (X++[⟨true,q8,.cells (boL (x++[none])).toArray 68 (0,0)⟩]) _ zN zO (fun y hy=>hok y (by
       rw [hgp,hgg];exact GF _ hy)) (by
       rw [hgp,hgg,gJ] at hdn
       rw [gJ];omega) hRp
      rw [show (((x++[none]:Bo).length:Nat):Int)=(x.length:Int)+1 by simp,show ((w-1:Nat):Int)=(w:Int)-1 by omega,←gG (h0++_) X] at hrec
      have hcv2:=CallV.fn' (first:= #[]) (args:=[boV (x++[none]),.int .i64 ((x.length:Int)+1),.int .i64 ((w:Int)-1)]) (cap:=[Value.pointer (some ⟨qx,0,none⟩),Value.pointer (some ⟨qy,0,none⟩),Value.pointer (some ⟨qm,0,none⟩),Value.pointer (some ⟨qn,0,none⟩),Value.pointer (some ⟨qc,0,none⟩)].toArray) jhO zS hrec
      refine jgP rfl zq hcv2 ?_;clear hcv2 hrec
      rintro v h' ⟨R2,rfl,hh⟩;refine Z4 ?_;refine D10 ?_;refine Zs ?_
      exact ⟨R2,rfl,by rw [hgp,hgg,←gG];exact hh⟩
     ·refine D135 ?_;refine Z8 ?_;refine D27 ?_;refine Zs ?_
      exact E58
end
section
variable [LaidO B]
theorem jfM {h' F1 L:Hp} [a:Off h' L F1] [s:SubH H F1]:Weak B h' (H++L):=(Weak.perm a.perm).trans ((Weak.sub s.sub).apps L)
theorem weak_beg (F nw:Hp) (a b c d:Chunk):Weak B ((F++[a,b])++c::(nw++[d])) (F++[a,b,c,d]++nw):=Weak.perm (by
 rw [gG,gG];refine Gz F ?_
 show (a::b::c::(nw++[d])).Perm (a::b::c::d::nw)
 exact .cons _ (.cons _ (.cons _ (vI (l₁:=nw) (l₂:=[d])))))
theorem weak179 (h0 R:Hp) (y n:Chunk):Weak B ((h0++R)++[y,n]) (((h0++[y,n])++[])++R):=Weak.perm (by
 rw [gd,gG,gG];exact Gz h0 vI)
theorem negs_smu (s:Str):negs (jau s)=jfT s:=by
 rw [negs,jfT];refine VK fun x hx=>?_
 obtain ⟨j,hj,rfl⟩:=GE.1 hx
 have:=(ja7 s).lo j
 rw [gC,gD hj] at this
 simp only [GB] at this
 simp only [decide_eq_true_eq]
 omega
theorem smuF_nil:jfT []=0:=by decide
theorem smu_line {l:Ln} (h:l.figs.length≤n):((List.range n).map fun j=>jfT (l.figs.getD j [])).sum=jht l:=by
 rw [jht,←jjc (l.figs.map jfT) n (by simpa using h)];congr 1
 refine GY fun j _=>?_
 simp only [gC,ga]
 cases l.figs[j]? with
 |none=>simp [smuF_nil]
 |some f=>rfl
theorem jlr:jht default=0:=by decide
theorem jp5 (h:ls.length≤2):jht (ls.getD 0 default)+jht (ls.getD 1 default)=jjd ls:=by
 match ls,h with
 |[],_=>decide
 |[a],_=>simp [jjd,jlr]
 |[a,c],_=>simp [jjd]
theorem jp7 (k:TbOk b):((jab b).map fun c=>jfT (jcG b c)).sum≤2:=by
 have h1:((jab b).map fun c=>jfT (jcG b c)).sum≤((jeI b.sts.length).map fun c=>jfT (jcG b c)).sum:=by
  rw [jeo];exact jfP _ _ _
 have row: ∀(bt:Bool) (i:Nat),((rowP b.sts.length bt i).map fun c=>jfT (jcG b c)).sum=jht ((jbo b bt).getD i default):=by
  intro bt i
  have hl:((jbo b bt).getD i default).figs.length≤b.sts.length:=by
   by_cases hi:i<(jbo b bt).length
   ·rw [((k.lines bt).ok _ (jal hi)).len];exact gL _
   ·rw [gC,gl zO];exact Vr _
  rw [←smu_line hl,rowP,Vh];congr 1
 have h2:((jeI b.sts.length).map fun c=>jfT (jcG b c)).sum=jjd b.waters+jjd b.butts:=by
  rw [jeI];simp only [GA,VZ,row]
  rw [show jbo b false=b.waters from rfl,show jbo b true=b.butts from rfl,jp5 k.waters.two,jp5 k.butts.two]
 have:=k.smu
 omega
theorem meaS_12 (s:Str):(jdw s).length≤12^jfT s:=by
 rw [jdw];split
 ·rw [←negs_smu];exact meaP_12 (ja7 s).len
 ·exact Vr _
theorem jnK (k:TbOk b):jet (cdT b)≤144:=by
 have gen: ∀l:List Ce,jet (l.map (jhp b))≤12^(l.map fun c=>jfT (jcG b c)).sum:=by
  intro l
  induction l with
  |nil=>simp [jet]
  |cons c l ih=>
   rw [gu,jet,gu,vL,Nat.pow_add];refine vt ?_ ih
   have h1:=meaS_12 (jcG b c)
   have h2:1≤12^jfT (jcG b c):=Nat.pow_pos zO
   show max 1 (jdw (jcG b c)).length≤_
   omega
 refine GJ (gen _) ?_
 have:=GV (show 0<12 by omega) (jp7 k)
 exact this
theorem jbE (k:TbOk b):(jah b).length≤12000:=by
 have h1:=jg0 (cdT b) b.wrong.toNat
 have h2:=jnK k
 have h3:jh1 (cdT b).length b.wrong.toNat≤jh1 12 2:=jeE (by rw [jat];exact jba k) (by have:=k.wrong;omega)
 have h4:jh1 12 2=79:=by decide
 have h5:=vt (GJ h3 (Nat.le_of_eq h4)) h2
 rw [jah];omega
instance:AppL a [] a:=⟨gd a⟩
theorem jrN {x:Bo}:jay [x]=boL x:=by simp [jay,Enc.enc]
abbrev B4 (q qx qw qc qm w can must:Nat):Hp:=[⟨true,qx,.cells [.pointer (some ⟨q,0,none⟩)].toArray 62 (0,0)⟩,⟨true,qw,.cells [.int .i64 (w:Int)].toArray 3 (0,0)⟩,⟨true,qc,.cells [.int .u64 (can:Int)].toArray 65 (0,0)⟩,⟨true,qm,.cells [.int .u64 (must:Int)].toArray 65 (0,0)⟩]
theorem B4.x {w:Nat}:Rd B (h++B4 q qx qw qc qm w can must) ⟨qx,0,none⟩ (.pointer (some ⟨q,0,none⟩)):=Rd.held (c:=[.pointer (some ⟨q,0,none⟩)].toArray) (t:=62) (f:=(0,0)) (rw:=true) (GF _ gk) rfl
theorem B4.w {w:Nat}:Rd B (h++B4 q qx qw qc qm w can must) ⟨qw,0,none⟩ (.int .i64 (w:Int)):=Rd.held (c:=[.int .i64 (w:Int)].toArray) (t:=3) (f:=(0,0)) (rw:=true) (GF _ (gN _ gk)) rfl
theorem B4.c {w:Nat}:Rd B (h++B4 q qx qw qc qm w can must) ⟨qc,0,none⟩ (.int .u64 (can:Int)):=Rd.held (c:=[.int .u64 (can:Int)].toArray) (t:=65) (f:=(0,0)) (rw:=true) (GF _ (gN _ (gN _ gk))) rfl
theorem B4.m {w:Nat}:Rd B (h++B4 q qx qw qc qm w can must) ⟨qm,0,none⟩ (.int .u64 (must:Int)):=Rd.held (c:=[.int .u64 (must:Int)].toArray) (t:=65) (f:=(0,0)) (rw:=true) (GF _ (gN _ (gN _ (gN _ gk)))) rfl
theorem f94_c (m:Md Tryz.prog B) (h:Hp) {w:Nat}:FnC m 94 #[.pointer (some ⟨q,0,none⟩),.int .i64 (w:Int),.int .u64 (can:Int),.int .u64 (must:Int)] h fun v h'=> ∃qx qw qc qm,h'=h++B4 q qx qw qc qm w can must∧v= .func (.func 123) #[] [.pointer (some ⟨qx,0,none⟩),.pointer (some ⟨qm,0,none⟩),.pointer (some ⟨qc,0,none⟩),.pointer (some ⟨qw,0,none⟩)].toArray:=by
 refine jae Tryz.func94 rfl rfl (l:=(.pointer (some ⟨q,0,none⟩))::(.int .i64 (w:Int))::(.int .u64 (can:Int))::(.int .u64 (must:Int))::uu6) rfl ?_
 intro cf cs K hK
 refine Z2 ?_
 refine jaF rfl zq (fun qx=>jap (jad ?_));refine jaF rfl zq (fun qw=>jap (jad ?_));refine jaF rfl zq (fun qc=>jap (jad ?_));refine jaF rfl zq (fun qm=>jap (jad ?_));refine Z4 ?_;refine jhy rfl zq ?_;refine Z3 ?_;refine jac (h++B4 q qx qw qc qm w can must) rfl Tryz.func94 rfl jaa ?_;refine Zs ?_
 exact ⟨qx,qw,qc,qm,rfl,rfl⟩
theorem f123_c (m:Md Tryz.prog B) (sh:Sheet B h0 b q tv) (rx:Rd B h0 ⟨qx,0,none⟩ (.pointer (some ⟨q,0,none⟩))) (rm:Rd B h0 ⟨qm,0,none⟩ (.int .u64 (must:Int))) (rc:Rd B h0 ⟨qc,0,none⟩ (.int .u64 (can:Int))) (hmu:must<4096) (hca:can<4096) {w:Nat} (rw:Rd B h0 ⟨qw,0,none⟩ (.int .i64 (w:Int))) (hw:w≤100) [CellsV yv [yv]] {G:List Bo} (hY:EachO m h0 G N yv YI YS) (hG:G=jdI (cdT b) can must (jab b).length w []) (hN:G.length≤N) {R:Hp} (hR:YI [] R):
  FnC m 123 #[yv,.pointer (some ⟨qx,0,none⟩),.pointer (some ⟨qm,0,none⟩),.pointer (some ⟨qc,0,none⟩),.pointer (some ⟨qw,0,none⟩)] (h0++R) fun v h'=>v= .tuple [].toArray∧ ∃R',h'=h0++R'∧(YI G R'∨YS R'):=by
 refine jae Tryz.func123 rfl rfl (l:=yv::(.pointer (some ⟨qx,0,none⟩))::(.pointer (some ⟨qm,0,none⟩))::(.pointer (some ⟨qc,0,none⟩))::(.pointer (some ⟨qw,0,none⟩))::uu7) rfl ?_
 intro cf cs K hK
 refine Z2 ?_
 refine jaF rfl zq (fun qy=>jap (jad ?_));refine Z3 ?_
 refine jaB rfl zq (fun qn=>jap (jad ?_));refine Z3 ?_;refine jhy rfl zq ?_;refine D9 ?_;refine Z3 ?_;refine D39 ?_;refine jaI rfl zq (rw.keeps SubH.sub) ?_;refine jlO (weak179 h0 R _ _) ?_
 have hw2:=f124_c m sh rx rm rc hmu hca hY qy qn (jab b).length w [] [] [] R zS hw (fun y hy=>hG▸hy) (by rw [←hG];simpa using hN) hR
 rw [←hG,GI] at hw2
 have hcv:=CallV.fn' (first:= #[]) (args:=[boV [],.int .i64 0,.int .i64 (w:Int)]) (cap:=[Value.pointer (some ⟨qx,0,none⟩),Value.pointer (some ⟨qy,0,none⟩),Value.pointer (some ⟨qm,0,none⟩),Value.pointer (some ⟨qn,0,none⟩),Value.pointer (some ⟨qc,0,none⟩)].toArray) jhO zS hw2
 refine jgP rfl zq hcv ?_;clear hcv hw2
 rintro v h' ⟨R2,rfl,hh⟩;refine Z2 ?_;refine jcJ rfl ?_;refine jac (h0++R2) rfl Tryz.func123 rfl jaa ?_;refine Zs ?_
 exact ⟨rfl,R2,rfl,hh.elim (fun h=> .inl h.2) (fun h=> .inr h.2)⟩
theorem f48_c (m:Md Tryz.prog B) (h:Hp) {a1 a2 a3:Value} (sh:Sheet B h b q [.int .i64 b.wrong,a1,a2,a3]) (hk:TbOk b):FnC m 48 #[.pointer (some ⟨q,0,none⟩)] h fun v h'=> ∃nw,h'=h++nw∧OwnS 68 13 v (jah b).length (jay (jah b)) nw:=by
 have hwr:=hk.wrong
 refine jae Tryz.func48 rfl rfl (l:=(.pointer (some ⟨q,0,none⟩))::uu19) rfl ?_
 intro cf cs K hK
 refine Z6 ?_
 refine jaB rfl zq (fun q3=>jap (jad ?_));refine Z3 ?_;refine jan [Zp 0,Zp 1,Zp 2,Zp 3,Zp 4,Zp 5,Zr 6,Zk 7,Zk 8] zK zK (gE _) ?_;refine Z6 ?_;refine jaI rfl zq ((sh.tb 0 zS).keeps SubH.sub) ?_;refine jag (Post:=fun v=>v=_) rfl zq zK (fun H' hH=>f72_c m H' 12 zO) ?_
 rintro v rfl;refine Zs ?_
 refine jaJ (Post:=fun v nw=> ∃qx qw qc qm,nw=B4 q qx qw qc qm b.wrong.toNat 4095 0∧v= .func (.func 123) #[] [.pointer (some ⟨qx,0,none⟩),.pointer (some ⟨qm,0,none⟩),.pointer (some ⟨qc,0,none⟩),.pointer (some ⟨qw,0,none⟩)].toArray) rfl zq zK (fun H' hH=>by
  have h1:=f94_c m H' (q:=q) (w:=b.wrong.toNat) (can:=4095) (must:=0)
  rw [show ((b.wrong.toNat:Nat):Int)=b.wrong by omega] at h1
  exact CallF.mono h1 fun v h' ⟨qx,qw,qc,qm,e1,e2⟩=>⟨_,e1,qx,qw,qc,qm,rfl,e2⟩) ?_
 rintro v _ ⟨qx,qw,qc,qm,rfl,rfl⟩;refine Zs ?_;refine jlO (Weak.mid h [⟨true,q3,.cells [.slice none 0 0].toArray 88 (0,0)⟩] (B4 q qx qw qc qm b.wrong.toNat 4095 0)) ?_;refine Z2 ?_
 refine jjF rfl rfl zK (fun q11 q12=>?_);generalize hrec:jfJ _ _ _ _ _ _ LoopState.ready=rec0
 have hY:EachO m (h++B4 q qx qw qc qm b.wrong.toNat 4095 0) (jah b) 12000 (.func (.yield q12) #[] #[]) (fun dn R=> ∃bp bc nw,R=[⟨true,q3,.cells [.slice bp dn.length bc].toArray 88 (0,0)⟩,⟨true,q11,.deferred (some [])⟩,⟨true,q12,rec0⟩]++nw∧OwnS 68 13 (.slice bp dn.length bc) dn.length (jay dn) nw) (fun _=>False):=?hY
 rotate_left
 intro F R dn x hF hx hdn hR
 obtain ⟨bp,bc,nw,rfl,ho⟩:=hR
 subst hrec
 haveI hsF:SubH (h++B4 q qx qw qc qm b.wrong.toNat 4095 0) F:=⟨hF⟩
 refine CallV.yield (rw:=true) (q1:=q11) (st:= .ready) (GF _ (GN _ (gN _ (gN _ gk)))) rfl (by simp;rfl) ?_
 intro cf2 cs2 K2 hK2
 ·refine Zs ?_
  refine jaB rfl zq (fun q14=>jap (jad ?_));refine jlP rfl zq (jaL x) ?_;refine Zs ?_;apply jff (F:=F++[⟨true,q3,.cells [.slice bp dn.length bc].toArray 88 (0,0)⟩,⟨true,q11,.deferred (some [])⟩]) (E:=nw++[⟨true,q14,.cells (boL x).toArray 68 (0,0)⟩])
  case hh=>
   simp only [gG,gt,GI]
   rfl
  generalize hbz:jfJ _ _ _ _ _ _ LoopState.busy=rec1
  refine m.weak (h':=F++[⟨true,q3,.cells [.slice bp dn.length bc].toArray 88 (0,0)⟩,⟨true,q11,.deferred (some [])⟩,⟨true,q12,rec1⟩,⟨true,q14,.cells (boL x).toArray 68 (0,0)⟩]++nw) (weak_beg _ _ _ _ _ _) ?_;refine Z4 ?_
  refine jcb kdq rfl zq zA zA rfl (fun q17=>jap (jad ?_));refine ja2 rfl zq (jaL x) ho kdq zO zO (fun w9 n9 o9=>jad ?_);obtain ⟨p9,c9,rfl,hc9,r9⟩:=jas (B:=B) o9
  have e1:dn.length+1=(dn++[x]).length:=by simp
  have e2:jay dn++boL x=jay (dn++[x]):=by rw [jaX,jrN]
  have ho2:=o9
  rw [e2,e1] at ho2
  rw [e1];refine D9 ?_;refine Z2 ?_;refine m.weak (h':=F++[⟨true,q3,.cells [.slice p9 (dn++[x]).length c9].toArray 88 (0,0)⟩,⟨true,q11,.deferred (some [])⟩,⟨true,q12,rec1⟩]++n9) jfM ?_
  subst hbz
  apply jlA (F:=F++[⟨true,q3,.cells [.slice p9 (dn++[x]).length c9].toArray 88 (0,0)⟩,⟨true,q11,.deferred (some [])⟩]) (E:=n9)
  case hh=>
   simp only [gG,gt,GI]
   rfl
  rw [show F++[⟨true,q3,.cells [.slice p9 (dn++[x]).length c9].toArray 88 (0,0)⟩,⟨true,q11,.deferred (some [])⟩]++(_::n9)=F++([⟨true,q3,.cells [.slice p9 (dn++[x]).length c9].toArray 88 (0,0)⟩,⟨true,q11,.deferred (some [])⟩,_]++n9) by simp;rfl];exact hK2 _ _ ⟨_,rfl,.inl ⟨rfl,_,_,n9,rfl,ho2⟩⟩
 ·have hl:=f123_c m (sh.keeps (gI _ _)) B4.x B4.m B4.c zO zO B4.w (by have:=hk.wrong;omega) hY (by rw [jah,←jat];exact (genM_all fun i hi=>by
   have:=jba hk
   rw [jat] at hi
   rw [show 4095=2^12-1 by rfl,Nat.testBit_two_pow_sub_one];exact decide_eq_true zO).symm) (jbE hk) (R:=[⟨true,q3,.cells [.slice none 0 0].toArray 88 (0,0)⟩,⟨true,q11,.deferred (some [])⟩,⟨true,q12,rec0⟩]) ⟨none,0,[],by simp,OwnS.nil⟩
  rw [show (h++B4 q qx qw qc qm b.wrong.toNat 4095 0)++[⟨true,q3,.cells [.slice none 0 0].toArray 88 (0,0)⟩,⟨true,q11,.deferred (some [])⟩,⟨true,q12,rec0⟩]=(h++B4 q qx qw qc qm b.wrong.toNat 4095 0)++[⟨true,q3,.cells [.slice none 0 0].toArray 88 (0,0)⟩]++[⟨true,q11,.deferred (some [])⟩,⟨true,q12,rec0⟩] by simp] at hl
  refine CallF.mono hl ?_
  rintro v h' ⟨rfl,R',rfl,(⟨bp,bc,nw,rfl,ho⟩|hF)⟩;case inr=>exact hF.elim
  subst hrec
  apply jg8 (F:=(h++B4 q qx qw qc qm b.wrong.toNat 4095 0)++[⟨true,q3,.cells [.slice bp (jah b).length bc].toArray 88 (0,0)⟩,⟨true,q11,.deferred (some [])⟩]) (E:=nw)
  case hh=>
   simp only [gG,gt,GI]
   rfl
  case hst=>exact .inl rfl
  refine Z7 ?_;refine jea (F:=(h++B4 q qx qw qc qm b.wrong.toNat 4095 0)++[⟨true,q3,.cells [.slice bp (jah b).length bc].toArray 88 (0,0)⟩]) (E:=nw) zS ?_;refine jac (h++nw) rfl Tryz.func48 rfl jaa ?_;refine Zs ?_
  exact ⟨nw,rfl,ho⟩
theorem f59_c (m:Md Tryz.prog B) (h:Hp) (sh:Sheet B h b q tv) {s:Nat} (hs:s<4096):FnC m 59 #[.pointer (some ⟨q,0,none⟩),.int .u64 (s:Int)] h fun v h'=>h'=h∧IsB (jfg (cdT b) (jdl s (jab b).length)≠[]) v:=by
 refine jae Tryz.func59 rfl rfl (l:=(.pointer (some ⟨q,0,none⟩))::(.int .u64 (s:Int))::uu8) rfl ?_
 intro cf cs K hK
 refine Z2 ?_
 refine jaB rfl zq (fun q4=>jap (jad ?_));refine Z7 ?_;refine jbt (Post:=fun v h'=> ∃qx qw qc qm,h'=h++[⟨true,q4,.cells [.bool false].toArray 4 (0,0)⟩]++B4 q qx qw qc qm 12 s s∧v= .func (.func 123) #[] [.pointer (some ⟨qx,0,none⟩),.pointer (some ⟨qm,0,none⟩),.pointer (some ⟨qc,0,none⟩),.pointer (some ⟨qw,0,none⟩)].toArray) rfl zq zK (f94_c m _ (q:=q) (w:=12) (can:=s) (must:=s)) ?_
 rintro v _ ⟨qx,qw,qc,qm,rfl,rfl⟩;refine Zs ?_;refine jlO (Weak.mid h [⟨true,q4,.cells [.bool false].toArray 4 (0,0)⟩] (B4 q qx qw qc qm 12 s s)) ?_;refine Z2 ?_
 refine jjF rfl rfl zK (fun q11 q12=>?_);generalize hrec:jfJ _ _ _ _ _ _ LoopState.ready=rec0
 obtain ⟨GS,hGS⟩: ∃GS,GS=jdI (cdT b) s s (jab b).length 12 []:=⟨_,rfl⟩
 have hY:EachO m (h++B4 q qx qw qc qm 12 s s) GS (GS.length+1) (.func (.yield q12) #[] #[]) (fun dn R=>dn=[]∧R=[⟨true,q4,.cells [.bool false].toArray 4 (0,0)⟩,⟨true,q11,.deferred (some [])⟩,⟨true,q12,rec0⟩]) (fun R=>GS≠[]∧ ∃fn9 l9 ps9 a9 c9,R=[⟨true,q4,.cells [.bool true].toArray 4 (0,0)⟩,⟨true,q11,.deferred (some [])⟩,⟨true,q12,jo4 fn9 l9 ps9 a9 c9 q11⟩]):=?hY
 rotate_left
 intro F R dn x hF hx hdn hR
 obtain ⟨rfl,rfl⟩:=hR
 subst hrec
 haveI hsF:SubH (h++B4 q qx qw qc qm 12 s s) F:=⟨hF⟩
 refine CallV.yield (rw:=true) (q1:=q11) (st:= .ready) (GF _ (gN _ (gN _ gk))) rfl (by simp;rfl) ?_
 intro cf2 cs2 K2 hK2
 ·refine Zs ?_
  apply jff (F:=F++[⟨true,q4,.cells [.bool false].toArray 4 (0,0)⟩,⟨true,q11,.deferred (some [])⟩]) (E:=[])
  case hh=>
   simp only [gG,gt,GI]
   rfl
  generalize hbz:jfJ _ _ _ _ _ _ LoopState.busy=rec1
  refine Z3 ?_;refine D9 ?_;refine Zs ?_
  subst hbz
  apply jly (F:=F++[⟨true,q4,.cells [.bool true].toArray 4 (0,0)⟩,⟨true,q11,.deferred (some [])⟩]) (E:=[])
  case hh=>
   simp only [gG,gt,GI]
   rfl
  rw [gG];exact hK2 _ _ ⟨_,rfl,.inr ⟨rfl,(fun e=>by rw [e] at hx;cases hx),_,_,_,_,_,rfl⟩⟩
 ·have hl:=f123_c m (sh.keeps (gI _ _)) B4.x B4.m B4.c hs hs B4.w zO hY hGS zO (R:=[⟨true,q4,.cells [.bool false].toArray 4 (0,0)⟩,⟨true,q11,.deferred (some [])⟩,⟨true,q12,rec0⟩]) ⟨rfl,rfl⟩
  rw [show (h++B4 q qx qw qc qm 12 s s)++[⟨true,q4,.cells [.bool false].toArray 4 (0,0)⟩,⟨true,q11,.deferred (some [])⟩,⟨true,q12,rec0⟩]=(h++B4 q qx qw qc qm 12 s s)++[⟨true,q4,.cells [.bool false].toArray 4 (0,0)⟩]++[⟨true,q11,.deferred (some [])⟩,⟨true,q12,rec0⟩] by simp] at hl
  have hG2:GS=jfg (cdT b) (jdl s (jab b).length):=by
   rw [hGS,←jat];exact jl2 (by rw [jat];exact sh.twelve)
  refine CallF.mono hl ?_
  rintro v h' ⟨rfl,R',rfl,(⟨hbo,rfl⟩|⟨hbo,fn9,l9,ps9,a9,c9,rfl⟩)⟩
  ·subst hrec
   apply jg8 (F:=(h++B4 q qx qw qc qm 12 s s)++[⟨true,q4,.cells [.bool false].toArray 4 (0,0)⟩,⟨true,q11,.deferred (some [])⟩]) (E:=[])
   case hh=>
    simp only [gG,gt,GI]
    rfl
   case hst=>exact .inl rfl
   refine Z3 ?_;refine D9 ?_;refine Z2 ?_;refine jea (F:=(h++B4 q qx qw qc qm 12 s s)++[⟨true,q4,.cells [.bool false].toArray 4 (0,0)⟩]) (E:=[]) zS ?_;refine jac (h) rfl Tryz.func59 rfl jaa ?_;refine Zs ?_
   first|exact ⟨rfl,IsB.yes (hG2▸hbo)⟩|exact ⟨rfl,IsB.no fun e=>e (hG2▸hbo)⟩
  ·apply jkv (F:=(h++B4 q qx qw qc qm 12 s s)++[⟨true,q4,.cells [.bool true].toArray 4 (0,0)⟩,⟨true,q11,.deferred (some [])⟩]) (E:=[])
   case hh=>
    simp only [gG,gt,GI]
    rfl
   refine Zs ?_;refine jea (F:=(h++B4 q qx qw qc qm 12 s s)++[⟨true,q4,.cells [.bool true].toArray 4 (0,0)⟩]) (E:=[]) zS ?_;refine jac (h) rfl Tryz.func59 rfl jaa ?_;refine Zs ?_
   first|exact ⟨rfl,IsB.yes (hG2▸hbo)⟩|exact ⟨rfl,IsB.no fun e=>e (hG2▸hbo)⟩
end
section
variable [LaidO B]
structure RawTb (B:Array Obj) (h:Hp) (b:Tb) (ps:Option Addr) (ns ks:Nat) (pw:Option Addr) (nw cw:Nat) (pb:Option Addr) (nb cb:Nat):Prop where
 s:RdS B h 1 (.slice ps ns ks) ns (jay b.sts)
 sc:ns≤ks
 sn:ns≤1000
 w:RdLn B h (.slice pw nw cw) nw b.waters
 wn:nw≤1000
 u:RdLn B h (.slice pb nb cb) nb b.butts
 un:nb≤1000
 sm:TbSm b
section
theorem RawTb.keeps (r:RawTb B h b ps ns ks pw nw cw pb nb cb) (s:h.Sublist H):RawTb B H b ps ns ks pw nw cw pb nb cb:=
 ⟨r.s.keeps s,r.sc,r.sn,r.w.keeps s,r.wn,r.u.keeps s,r.un,r.sm⟩
theorem RawTb.rd (r:RawTb B h b ps ns ks pw nw cw pb nb cb) (k:TbOk b):RdTb B h b ps ns ks pw nw cw pb nb cb:=rdTb_of r.s r.sc r.w r.u r.sm k
theorem f31_r (m:Md Tryz.prog B) (h:Hp) (r:RawTb B h b ps ns ks pw nw cw pb nb cb):FnC m 31 #[tbV b ps ns ks pw nw cw pb nb cb] h fun v h'=>h'=h∧v= .int .i64 (tbS b):=f31_c m h r.s r.sc r.sn r.sm.sts r.w r.wn r.u r.un r.sm
theorem f32_r (m:Md Tryz.prog B) (h:Hp) (r:RawTb B h b ps ns ks pw nw cw pb nb cb) (k:TbOk b):FnC m 32 #[tbV b ps ns ks pw nw cw pb nb cb] h fun v h'=> ∃new,h'=h++new∧ ∃q,v= .pointer (some ⟨q,0,none⟩)∧Sheet B new b q (tbL b ps ns ks pw nw cw pb nb cb):=
 CallF.mono (f32_c m h (r.rd k)) fun v h' ⟨new,q,e1,e2,e3⟩=>⟨new,e1,q,e2,e3⟩
end
theorem jhW {xs:List Int} (hs:SortR xs 0 xs.length): ∀t,t≤xs.length→Asc (jc2 xs t)∧(∀z∈jc2 xs t,∃i,i<t∧z=xs.getD i 0)
 |0,_=>⟨List.Pairwise.nil,by simp [jc2]⟩
 |t+1,h=>by
  obtain ⟨h1,h2⟩:=jhW hs t zO
  rw [jc2];by_cases e:t=0∨xs.getD t 0≠xs.getD (t-1) 0
  ·rw [if_pos e];refine ⟨?_,fun z hz=>?_⟩
   ·unfold Asc at h1⊢
    rw [gq];refine ⟨h1,by simp,fun x hx y hy=>?_⟩
    simp only [gr] at hy
    subst hy
    obtain ⟨i,hi,rfl⟩:=h2 x hx
    have e1:xs.getD i 0≤xs.getD (t-1) 0:=by
     by_cases e2:i=t-1
     ·subst e2
      exact Int.le_refl _
     ·exact hs i (t-1) zO zO zO
    have e3:xs.getD (t-1) 0≤xs.getD t 0:=hs (t-1) t zO zO zO
    rcases e with e|e
    ·omega
    ·omega
   ·rcases gQ.1 hz with hz|hz
    ·obtain ⟨i,hi,e⟩:=h2 z hz
     exact ⟨i,by omega,e⟩
    ·simp only [gr] at hz
     exact ⟨t,by omega,hz⟩
  ·rw [if_neg e,gd];exact ⟨h1,fun z hz=>by obtain ⟨i,hi,e⟩:=h2 z hz;exact ⟨i,by omega,e⟩⟩
theorem jhV {xs:List Int}: ∀t i,i<t→xs.getD i 0∈jc2 xs t
 |0,i,h=>by omega
 |t+1,i,h=>by
  rw [jc2,gQ];rcases Gf i t with h1|h1
  ·exact .inl (jhV t i h1)
  ·obtain rfl:i=t:=by omega
   by_cases e:i=0∨xs.getD i 0≠xs.getD (i-1) 0
   ·rw [if_pos e];exact .inr zS
   ·have h0:i≠0:=fun x=>e (.inl x)
    have e2:xs.getD i 0=xs.getD (i-1) 0:=gw fun x=>e (.inr x)
    rw [e2];exact .inl (jhV i (i-1) zO)
theorem rd_has {rw:Bool} {f:Nat×Nat} {v:Value} [x:Has h q rw (.cells [v].toArray t f)]:Rd B h ⟨q,0,none⟩ v:=Rd.held x.mem rfl
theorem jqE {v:Value} {xs:List Int} {new:Hp} (o:OwnS 3 1 v n (jaq xs) new) (h:0<n): ∃b c junk,v= .slice (some ⟨b,0,none⟩) n c∧new=[jbl b xs junk]∧xs.length=n∧n+junk.length=c:=by
 unfold jbl
 generalize hg:jaq xs=ys at o⊢
 have hy:ys.length=xs.length:=by rw [←hg];simp
 cases o with
 |nil=>omega
 |blk hl hc hn=>exact ⟨_,_,_,rfl,rfl,by omega,by omega⟩
theorem jqW {xs:List Int} (hs:SortR xs 0 xs.length):z∈jc2 xs xs.length↔z∈xs:=by
 constructor
 ·intro h
  obtain ⟨i,hi,rfl⟩:=(jhW hs _ (gL _)).2 z h
  exact jcx.2 ⟨i,hi,rfl⟩
 ·intro h
  obtain ⟨i,hi,rfl⟩:=jcx.1 h
  exact jhV _ i hi
theorem jop: ∀{xs ys:List Int},Asc xs→Asc ys→(∀z,z∈xs↔z∈ys)→xs=ys:=fun hx hy h=>Vi (fun a b _ _ h1 h2=>by omega) hx hy ((VT (ji5 hx) (ji5 hy)).2 h)
theorem jnN {α:Type}: ∀{l:List α} {n:Nat},l.length=n→jbm (List.replicate n true) l=l
 |[],_,h=>by subst h;rfl
 |a::l,n,h=>by
  obtain ⟨k,rfl⟩: ∃k,n=k+1:=⟨n-1,by simp at h;omega⟩
  rw [List.replicate_succ,jbm,jnN (by simpa using h)]
theorem jqy (n:Nat):jdl 0 n=(List.replicate n true).map (!·):=by
 rw [jdl];refine vE zS fun i h1 h2=>by simp
theorem pat_none:jfg (cdT b) (jdl 0 (jab b).length)≠[]↔jbP (cdT b)=true:=by
 have:=jgG (D:=cdT b) (p:=List.replicate (jab b).length true) (by simp [jat])
 rw [jqy,this,jnN (jat b)]
def jg6 (B:Array Obj) (b:Tb) (tv:List Value) (s:Int) (nw:Hp) (v:Value):Prop:= ∃qp p n c,v= .tuple [.agg [.pointer qp,.slice p n c].toArray,.int .i64 s].toArray∧
 (s=0→ ∃q,qp=some ⟨q,0,none⟩∧Sheet B nw b q tv∧n=(jah b).length∧n≤c∧RdS B nw 13 (.slice p n c) n (jay (jah b)))
theorem jgH (h:s≠0):jg6 B b tv s [] (.tuple [.agg [.pointer none,.slice none 0 0].toArray,.int .i64 s].toArray):=⟨none,none,0,0,rfl,fun e=>absurd e h⟩
def plN (b:Tb) (c:Ce):Nat:=(jab b).findIdx fun x=>decide (x=c)
theorem jfX {c:Ce}:plN b c<(jab b).length↔c∈jab b:=by
 rw [plN,List.findIdx_lt_length];simp
theorem jik {c:Ce} (h:c∈jab b):jda (jab b) c=some (plN b c:Int):=by
 have hh:(jab b).findIdx (fun x=>decide (x=c))<(jab b).length:=jfX.2 h
 rw [jda,jgk,if_pos hh,GD];rfl
theorem joW {c:Ce} (h:c∉jab b):jda (jab b) c=none:=by
 have hh: ¬(jab b).findIdx (fun x=>decide (x=c))<(jab b).length:=fun e=>h (jfX.1 e)
 rw [jda,jgk,if_neg hh];rfl
theorem f125_z (m:Md Tryz.prog B) (h:Hp):FnC m 125 #[.slice none 0 0,.int .i64 0,.int .i64 0] h fun v h'=>h'=h:=by
 refine jae Tryz.func125 rfl rfl (l:=(.slice none 0 0)::(.int .i64 0)::(.int .i64 0)::uu46) rfl ?_
 intro cf cs K hK
 refine Z7 ?_
 refine jaf (fun nn l h'=>nn=0∧(True)∧(∃U:Nat→Value,l=((.slice none 0 0)::(.int .i64 0)::(.int .i64 0)::(U 3)::(U 4)::(U 5)::(.int .i64 1)::vw42 U 7 []))∧h=h') _ ⟨rfl,trivial,exU rfl,rfl⟩ ?_;rintro nn l h' ⟨rfl,htt,⟨U,rfl⟩,rfl⟩ hnext;refine Z5 ?_;refine k_lssF rfl zq zO ?_;refine Z3 ?_;refine jcJ rfl ?_;refine jac (h) rfl Tryz.func125 rfl jaa ?_;refine Zs ?_
 rfl
theorem f96_z (m:Md Tryz.prog B) (h:Hp) (lim:Int):FnC m 96 #[.slice none 0 0,.int .i64 0,.int .i64 0,.int .i64 lim] h fun v h'=>h'=h:=by
 refine jae Tryz.func96 rfl rfl (l:=(.slice none 0 0)::(.int .i64 0)::(.int .i64 0)::(.int .i64 lim)::jpO) rfl ?_
 intro cf cs K hK
 refine Z9 ?_
 refine jaf (fun nn l h'=>nn=0∧(True)∧(∃U:Nat→Value,l=((.slice none 0 0)::(.int .i64 0)::(.int .i64 0)::(.int .i64 lim)::vw130 U 4 []))∧h=h') _ ⟨rfl,trivial,exU rfl,rfl⟩ ?_;rintro nn l h' ⟨rfl,htt,⟨U,rfl⟩,rfl⟩ hnext;refine Z12 ?_;refine k_leqT rfl zq zO ?_;refine Z7 ?_;refine jag (Post:=fun _=>True) rfl zq zK (fun H' hH=>CallF.mono (f125_z m H') fun v h' e=>⟨e,trivial⟩) ?_
 rintro v _;refine Z3 ?_;refine jac (h) rfl Tryz.func96 rfl jaa ?_;refine Zs ?_
 rfl
theorem f52_z (m:Md Tryz.prog B) (h:Hp):FnC m 52 #[.slice none 0 0] h fun v h'=>h'=h:=by
 refine jae Tryz.func52 rfl rfl (l:=(.slice none 0 0)::uu10) rfl ?_
 intro cf cs K hK
 refine Z10 ?_;refine jdd rfl zq zK (n':=0) zA ?_;refine jag (Post:=fun v=> ∃k:Int,v= .int .i64 k∧0≤k∧k≤1000) rfl zq zK (fun H' hH=>f97_c m H' 0 zO) ?_
 rintro v ⟨lim,rfl,_⟩;refine Zs ?_;refine jag (Post:=fun _=>True) rfl zq zK (fun H' hH=>CallF.mono (f96_z m H' lim) fun v h' e=>⟨e,trivial⟩) ?_
 rintro v _;refine Z2 ?_;refine jcJ rfl ?_;refine jac (h) rfl Tryz.func52 rfl jaa ?_;refine Zs ?_
 rfl
theorem f53_z (m:Md Tryz.prog B) (h:Hp):FnC m 53 #[.slice none 0 0] h fun v h'=>h'=h∧v= .slice none 0 0:=by
 refine jae Tryz.func53 rfl rfl (l:=(.slice none 0 0)::uu60) rfl ?_
 intro cf cs K hK
 refine Z9 ?_;refine jn2 rfl zq zO ?_;refine Z8 ?_;refine jac (h) rfl Tryz.func53 rfl jaa ?_;refine Zs ?_
 exact ⟨rfl,rfl⟩
theorem f8_c (m:Md Tryz.prog B) (h:Hp) (ra:RawTb B h b ps ns ks pw nw cw pb nb cb):FnC m 8 #[tbV b ps ns ks pw nw cw pb nb cb] h fun v h'=>h'=h∧v= .tuple [.int .i64 (if tbS b=0 then ((jah b).length:Int) else 0),.int .i64 (tbS b)].toArray:=by
 refine jae Tryz.func8 rfl rfl (l:=(tbV b ps ns ks pw nw cw pb nb cb)::uu13) rfl ?_
 intro cf cs K hK
 refine Z2 ?_
 refine jaF rfl zq (fun q1=>jap (jad ?_));refine Z7 ?_;refine D56 ?_
 rintro v rfl;refine Z6 ?_
 refine jaP rfl zq (fun hc=>?_) (fun hc=>?_);refine Z5 ?_
 rotate_left
 refine Z4 ?_
 have hz0:tbS b=0:=by omega
 have hk:=jbH.1 hz0
 have hbl:=jbE hk
 have h12:=jba hk
 refine Z2 ?_;refine D19 ?_
 rintro v n9 ⟨q9,rfl,sh⟩;refine jaG (jad ?_);refine D36 ?_
 rintro v n8 o8;refine jaG (jad ?_);obtain ⟨p8,c8,rfl,_⟩:=jas (B:=B) o8
 refine Zs ?_
 all_goals
  refine Z4 ?_;refine jac (h) rfl Tryz.func8 rfl jaa ?_;refine Zs ?_
 ·exact ⟨rfl,by rw [if_pos hz0,hz0]⟩
 ·exact ⟨rfl,by rw [if_neg zD]⟩
theorem f15_c (m:Md Tryz.prog B) (h:Hp) (ra:RawTb B h b ps ns ks pw nw cw pb nb cb):FnC m 15 #[tbV b ps ns ks pw nw cw pb nb cb] h fun v h'=>h'=h∧ ∃w,v= .tuple [w,.int .i64 (tbS b)].toArray∧IsB (tbS b=0∧jbP (cdT b)=true) w:=by
 refine jae Tryz.func15 rfl rfl (l:=(tbV b ps ns ks pw nw cw pb nb cb)::uu12) rfl ?_
 intro cf cs K hK
 refine Z2 ?_
 refine jaF rfl zq (fun q1=>jap (jad ?_));refine Z7 ?_;refine D56 ?_
 rintro v rfl;refine Z6 ?_
 refine jaP rfl zq (fun hc=>?_) (fun hc=>?_);refine Z5 ?_
 rotate_left
 refine Z4 ?_
 have hz0:tbS b=0:=by omega
 have hk:=jbH.1 hz0
 have hbl:=jbE hk
 have h12:=jba hk
 refine Z2 ?_;refine D19 ?_
 rintro v n9 ⟨q9,rfl,sh⟩;refine jaG (jad ?_);refine jag (Post:=fun v=>IsB (jfg (cdT b) (jdl 0 (jab b).length)≠[]) v) rfl zq zK (fun H' hH=>f59_c m H' (sh.keeps (Gj zW hH)) zO) ?_;rintro v hv9;refine Zs ?_
 all_goals
  refine Z4 ?_;refine jac (h) rfl Tryz.func15 rfl jaa ?_;refine Zs ?_
 ·exact ⟨rfl,_,by rw [hz0],hv9.iff (by rw [pat_none];exact ⟨fun e=>⟨hz0,e⟩,fun e=>e.2⟩)⟩
 ·exact ⟨rfl,_,rfl,IsB.no fun e=>absurd e.1 zD⟩
theorem f36_c (m:Md Tryz.prog B) (h:Hp) (x:Int):FnC m 36 #[.int .i64 x] h fun v h'=>h'=h∧IsB (¬(0≤x∧x≤959)) v:=by
 refine jae Tryz.func36 rfl rfl (l:=[.int .i64 x,undef,undef,undef,undef,undef]) rfl ?_
 intro cf cs K hK
 refine Z7 ?_;refine D21 ?_
 rintro v (⟨hc,rfl⟩|⟨hc,rfl⟩);refine Z2 ?_
 rotate_left
 refine Z2 ?_
 all_goals
  refine Z3 ?_;refine jac (h) rfl Tryz.func36 rfl jaa ?_;refine Zs ?_
  exact E0
theorem f77_c (m:Md Tryz.prog B) (h:Hp) (v0:Value):FnC m 77 #[v0] h fun v h'=>h'=h∧v= .int .i64 0:=by
 refine jae Tryz.func77 rfl rfl (l:=[v0,undef,undef]) rfl ?_
 intro cf cs K hK
 refine Z9 ?_;refine jac (h) rfl Tryz.func77 rfl jaa ?_;refine Zs ?_
 exact ⟨rfl,rfl⟩
theorem f112_c (m:Md Tryz.prog B) (h:Hp) (v0:Value):FnC m 112 #[v0] h fun v h'=>h'=h∧v= .int .i64 0:=by
 refine jae Tryz.func112 rfl rfl (l:=[v0,undef,undef]) rfl ?_
 intro cf cs K hK
 refine Z9 ?_;refine jac (h) rfl Tryz.func112 rfl jaa ?_;refine Zs ?_
 exact ⟨rfl,rfl⟩
theorem f51_c (m:Md Tryz.prog B) (h:Hp) (c:Ce):FnC m 51 #[cV c.butt c.line c.st] h fun v h'=> ∃nw,h'=h++nw∧ ∃q,nw=[⟨true,q,.cells (ceL c).toArray 28 (0,0)⟩]∧v= .func (.func 95) #[] [.pointer (some ⟨q,0,none⟩)].toArray:=by
 refine jae Tryz.func51 rfl rfl (l:=[cV c.butt c.line c.st,undef,undef,undef]) rfl ?_
 intro cf cs K hK
 refine Z2 ?_
 refine jaF rfl zq (fun q1=>jap (jad ?_));refine Z4 ?_;refine jhy rfl zq ?_;refine Z3 ?_;refine jac (h++[⟨true,q1,.cells (ceL c).toArray 28 (0,0)⟩]) rfl Tryz.func51 rfl jaa ?_;refine Zs ?_
 exact ⟨_,rfl,q1,rfl,rfl⟩
theorem f73_c (m:Md Tryz.prog B) (h:Hp) (x y:Int):FnC m 73 #[.int .i64 x,.int .i64 y] h fun v h'=> ∃nw,h'=h++nw∧ ∃q q',nw=[⟨true,q,.cells [.int .i64 x].toArray 3 (0,0)⟩,⟨true,q',.cells [.int .i64 y].toArray 3 (0,0)⟩]∧v= .func (.func 110) #[] [.pointer (some ⟨q,0,none⟩),.pointer (some ⟨q',0,none⟩)].toArray:=by
 refine jae Tryz.func73 rfl rfl (l:=[.int .i64 x,.int .i64 y,undef,undef,undef,undef]) rfl ?_
 intro cf cs K hK
 refine Z2 ?_
 refine jaF rfl zq (fun q2=>jap (jad ?_));refine jaF rfl zq (fun q3=>jap (jad ?_));refine Z4 ?_;refine jhy rfl zq ?_;refine Z3 ?_;refine jac (h++[⟨true,q2,.cells [.int .i64 x].toArray 3 (0,0)⟩,⟨true,q3,.cells [.int .i64 y].toArray 3 (0,0)⟩]) rfl Tryz.func73 rfl jaa ?_;refine Zs ?_
 exact ⟨_,rfl,q2,q3,rfl,rfl⟩
theorem f95_c (m:Md Tryz.prog B) (h:Hp) (sh:Sheet B h b q tv) {c:Ce} (rq:RdN B h qc 0 (ceL c)):FnC m 95 #[.pointer (some ⟨q,0,none⟩),.pointer (some ⟨qc,0,none⟩)] h fun v h'=>h'=h∧v= .int .i64 (if c∈jab b then 0 else 6):=by
 obtain ⟨mrw,qm,hm1,hm2⟩:=sh.map
 haveI hmh:Has h qm mrw (jgw (jab b)):=⟨hm2⟩
 refine jae Tryz.func95 rfl rfl (l:=(.pointer (some ⟨q,0,none⟩))::(.pointer (some ⟨qc,0,none⟩))::uu15) rfl ?_
 intro cf cs K hK
 refine Z6 ?_;refine jan [Zp 0,Zp 1,Zp 2,Zr 3,Zr 4,Zr 5,Zp 6,Zp 7,Zp 8,Zp 9,Zp 10] zK zK (gE _) ?_;refine Z3 ?_;refine jaI rfl zq hm1 ?_;refine jca (vs:=ceL c) rfl zq rfl rq ?_
 refine jo8 (c:=c) (cs:=jab b) (k:=28) (e:=3) zK rfl zq (jad ?_);refine Z7 ?_
 by_cases hin:c∈jab b
 rw [jik hin];refine Z6 ?_
 rotate_left
 rw [joW hin];refine Z5 ?_
 all_goals
  refine Z5 ?_;refine jac (h) rfl Tryz.func95 rfl jaa ?_;refine Zs ?_
  first|exact ⟨rfl,by rw [if_pos hin]⟩|exact ⟨rfl,by rw [if_neg hin]⟩
theorem f110_c (m:Md Tryz.prog B) (h:Hp) (sh:Sheet B h b q (tbL b ps ns ks pw nw cw pb nb cb)) (hsl:b.sts.length=ns) (hn:ns≤1000) {qs qa:Nat} {x:Int} (r1:Rd B h ⟨qs,0,none⟩ (.int .i64 st)) (r2:Rd B h ⟨qa,0,none⟩ (.int .i64 x)):FnC m 110 #[.pointer (some ⟨q,0,none⟩),.pointer (some ⟨qs,0,none⟩),.pointer (some ⟨qa,0,none⟩)] h fun v h'=>h'=h∧v= .int .i64 (if¬(0≤st∧st≤(ns:Int)-1) then 6 else if¬(0≤x∧x≤959) then 1 else 0):=by
 have hst:Rd B h ⟨q,0+0+0+1,none⟩ (.slice ps ns ks):=sh.tb 1 zS
 refine jae Tryz.func110 rfl rfl (l:=(.pointer (some ⟨q,0,none⟩))::(.pointer (some ⟨qs,0,none⟩))::(.pointer (some ⟨qa,0,none⟩))::uu18) rfl ?_
 intro cf cs K hK
 refine Z7 ?_;refine jan [Zp 1,Zp 2,Zp 3,Zp 4,Zp 5,Zr 0,Zr 6,Zp 7,Zp 8,Zk 9,Zp 10,Zp 11] zK zK (gE _) ?_;refine Z5 ?_;refine jaI rfl zq (r1.keeps SubH.sub) ?_;refine jaI rfl zq (hst.keeps SubH.sub) ?_;refine Z2 ?_;refine D21 ?_
 rintro v (⟨hc,rfl⟩|⟨hc,rfl⟩)
 ·refine Z7 ?_;refine jaI rfl zq (r2.keeps SubH.sub) ?_;refine D21 ?_
  rintro v (⟨hc,rfl⟩|⟨hc,rfl⟩);refine Z7 ?_
  rotate_left
  refine Z5 ?_
  all_goals
   refine Z5 ?_;refine jac (h) rfl Tryz.func110 rfl jaa ?_;refine Zs ?_
   exact E9
 ·refine Z10 ?_;refine jac (h) rfl Tryz.func110 rfl jaa ?_;refine Zs ?_
  exact E9
theorem f50_c (m:Md Tryz.prog B) (h:Hp) (ra:RawTb B h b ps ns ks pw nw cw pb nb cb) {gc gp:Array Value} {own:Int} (hcall:jbM Tryz.prog fid=true) (hown:TbOk b→ ∀(H':Hp) (q:Nat),h.Sublist H'→Sheet B H' b q (tbL b ps ns ks pw nw cw pb nb cb)→FnC m fid (gc++[Value.pointer (some ⟨q,0,none⟩)].toArray++gp) H' fun v h'=>h'=H'∧v= .int .i64 own):FnC m 50 #[tbV b ps ns ks pw nw cw pb nb cb,.func (.func fid) gc gp] h fun v h'=> ∃nz,h'=h++nz∧jg6 B b (tbL b ps ns ks pw nw cw pb nb cb) (jaO b own) nz v:=by
 refine jae Tryz.func50 rfl rfl (l:=(tbV b ps ns ks pw nw cw pb nb cb)::(.func (.func fid) gc gp)::uu34) rfl ?_
 intro cf cs K hK
 refine Z2 ?_
 refine jaF rfl zq (fun q2=>jap (jad ?_));refine jaB rfl zq (fun q4=>jap (jad ?_));refine Z6 ?_;refine D56 ?_
 rintro v rfl;refine Z6 ?_
 refine jaP rfl zq (fun hc=>?_) (fun hc=>?_)
 ·refine Z4 ?_;refine D39 ?_;refine Zs ?_;refine jjr ?_;refine jac (h) rfl Tryz.func50 rfl jaa ?_;refine Zs ?_
  exact ⟨[],by simp,by rw [openS_b zD];exact jgH zD⟩
 ·refine Z4 ?_
  have hz0:tbS b=0:=by omega
  have hk:=jbH.1 hz0
  have hbl:=jbE hk
  have h12:=jba hk
  refine Z2 ?_;refine D19 ?_
  rintro v n9 ⟨q9,rfl,sh⟩;refine jaG (jad ?_);refine D39 ?_
  refine jaB rfl zq (fun q7=>jap (jad ?_));refine D7 ?_;refine Z7 ?_;refine jfi (Post:=fun v=>v=_) rfl zq hcall (fun H' hH=>hown hk H' q9 (sq hH) (sh.keeps (Gj (Gj (gM _ _) (gI _ _)) hH))) ?_
  rintro v rfl;refine Z6 ?_
  refine jaP rfl zq (fun hc=>?_) (fun hc=>?_)
  ·refine Z4 ?_;refine D39 ?_;refine Zs ?_;refine jjr ?_;refine jac (h) rfl Tryz.func50 rfl jaa ?_;refine Zs ?_
   exact ⟨[],by simp,by rw [openS_o hz0 zD];exact jgH zD⟩
  ·refine Z8 ?_;refine D36 ?_
   rintro v n8 o8;refine jaG (jad ?_);obtain ⟨p8,c8,rfl,hc8,r8⟩:=jas (B:=B) o8
   refine Zs ?_;refine D9 ?_;refine Z6 ?_
   refine jaA rfl zq (fun hc=>?_) (fun hc=>?_)
   ·refine Z4 ?_;refine D39 ?_;refine jjr ?_;refine jac (h) rfl Tryz.func50 rfl jaa ?_;refine Zs ?_
    exact ⟨[],by simp,by rw [openS_9 hz0 zO (GO.1 zO)];exact jgH zA⟩
   ·refine Z6 ?_;refine jjr ?_;refine jac (h++n9++n8) rfl Tryz.func50 rfl jaa ?_;refine Zs ?_
    have e:jaO b own=0:=openS_0 hz0 zO (fun e=>hc (by rw [e];rfl))
    exact ⟨n9++n8,by rw [gG],_,_,_,_,by rw [e],fun _=>⟨q9,rfl,sh.keeps (gI _ _),rfl,hc8,r8.keeps (gM _ _)⟩⟩
end
section
variable [LaidO B]
def jdN (b:Tb) (c:Ce):Int:=if c∈jab b then 0 else 6
def jjM (L:List Bo) (k j:Nat):List Int:=(L.take j).filterMap fun x=>xA x k
theorem jqF (hj:j<L.length) (h:xA (L.getD j []) k=some v):jjM L k (j+1)=jjM L k j++[v]:=by
 rw [jjM,Gg,gD hj,Gu,List.filterMap_append];rw [gC,gD hj] at h
 have h':xA L[j] k=some v:=h
 have e:[L[j]].filterMap (fun x=>xA x k)=[v]:=by simp only [List.filterMap_cons,h',List.filterMap_nil]
 rw [e];rfl
theorem jqG (hj:j<L.length) (h:xA (L.getD j []) k=none):jjM L k (j+1)=jjM L k j:=by
 rw [jjM,Gg,gD hj,Gu,List.filterMap_append];rw [gC,gD hj] at h
 have h':xA L[j] k=none:=h
 have e:[L[j]].filterMap (fun x=>xA x k)=[]:=by simp only [List.filterMap_cons,h',List.filterMap_nil]
 rw [e,gd];rfl
theorem outK_le (L:List Bo) (k j:Nat):(jjM L k j).length≤j:=by
 have h1:=List.length_filterMap_le (fun x:Bo=>xA x k) (L.take j)
 have h2:=xP j L
 rw [jjM];omega
theorem jnV:z∈jjM L k L.length↔ ∃x∈L,xA x k=some z:=by
 rw [jjM,GQ,List.mem_filterMap]
theorem asc_meaS (s:Str):Asc (jdw s):=by
 rw [jdw];split
 ·rw [jkJ];unfold Asc
  rw [Gy];exact ((vf).filter _).imp fun h=>by omega
 ·exact List.Pairwise.nil
theorem joq (h:k<(jab b).length):Asc (jnb (cdT b) L k):=by
 unfold Asc jnb
 rw [jav b h];exact (asc_meaS _).filter _
theorem jnW (L:List Bo) (hL: ∀x∈L,okA (cdT b) x=true):z∈jnb (cdT b) L k↔ ∃x∈L,xA x k=some z:=by
 rw [jnb,gV,VP];simp only [decide_eq_true_eq]
 exact ⟨fun h=>h.2,fun ⟨x,hx,h⟩=>⟨(jfz.1 (hL x hx)).2.1 k z h,x,hx,h⟩⟩
theorem ji0: ∀x∈jah b,okA (cdT b) x=true:=fun x hx=>(jbq.1 hx).1
theorem jbZ {x:Bo} (h:x∈jah b):x.length=(jab b).length:=by rw [←jat];exact jgM h
theorem bo_at {e:Nat} {rw:Bool} {f:Nat×Nat} {x:Bo} [hx:Has h q rw (.cells (boL x).toArray e f)] (i:Nat) (hi:i<12):Rd B h ⟨q,1+(i:Int).toNat*1,none⟩ (.int .i64 ((xA x i).getD 0)):=by
 have:=bt_at (B:=B) (h:=h) (q:=q) (e:=e) (rw:=rw) (f:=f) (s:=jcA x) (ms:=jnQ x) (x:=hx) i (by rw [jbI];exact hi)
 rw [jfy hi] at this
 exact this
theorem jhk {x:Bo} (h:k<x.length):(jcA x).testBit k=(xA x k).isNone:=by
 rw [jdB];cases xA x k<;>simp [h]
def jdF (L:List Bo) (k j:Nat):Nat:=(L.take j).countP fun x=>(xA x k).isNone
theorem jhR (hj:j<L.length):jdF L k (j+1)=jdF L k j+if (xA (L.getD j []) k).isNone then 1 else 0:=by
 rw [jdF,Gg,gD hj,Gu,VD,gC,gD hj,Vz];rfl
theorem jk8 (L:List Bo) (k j:Nat):jdF L k j≤j:=by
 have h1:=vJ (p:=fun x:Bo=>(xA x k).isNone) (l:=L.take j)
 have h2:=xP j L
 rw [jdF];omega
theorem jjs (L:List Bo) (k:Nat):jdF L k L.length=jew L k:=by rw [jdF,GQ];rfl
def jj4 (b:Tb) (c:Ce):List Int:=if jaO b (jdN b c)=0 then jnb (cdT b) (jah b) (plN b c) else []
theorem jrY:jbM Tryz.prog 95=true:=by kernel_rfl
theorem jnG {c:Ce} [x:Has h q true (.cells (ceL c).toArray 28 (0,0))]:RdN B h q 0 (ceL c):=fun j hj=>by
 rw [GD];refine Rd.held x.mem ?_
 rw [gZ,gD hj,gC,gD hj];rfl
theorem RdN.keepsN {b o:Nat} (r:RdN B h b o vs) (k:h.Sublist H):RdN B H b o vs:=fun j hj=>(r j hj).keeps k
theorem f13_c (m:Md Tryz.prog B) (h:Hp) (ra:RawTb B h b ps ns ks pw nw cw pb nb cb) (c:Ce):FnC m 13 #[tbV b ps ns ks pw nw cw pb nb cb,cV c.butt c.line c.st] h fun v h'=>h'=h∧v= .tuple [.int .i64 (if jaO b (jdN b c)=0 then jfo (jew (jah b) (plN b c)) (jah b).length else 0),.int .i64 (jaO b (jdN b c))].toArray:=by
 refine jae Tryz.func13 rfl rfl (l:=(tbV b ps ns ks pw nw cw pb nb cb)::(cV c.butt c.line c.st)::uu47) rfl ?_
 intro cf cs K hK
 refine Z2 ?_
 refine jaF rfl zq (fun q2=>jap (jad ?_));refine jaF rfl zq (fun q3=>jap (jad ?_));refine Z4 ?_;refine jbr [0,1,2,3,4,5,6,7,8,9] zK zK (gE _) ?_
 refine DrawT.split 2 7 zA (DrawT.split 3 7 zA ?_ ?_) ?_
 refine D89 ?_;refine Z2 ?_;refine D8 ?_
 rintro v nz ⟨qs,rfl,rfl⟩;refine jaG (jad ?_);refine D6 ?_
 rintro v n8 ⟨qp,p8,m8,c8,rfl,hz⟩;refine jaG (jad ?_);refine Z3 ?_
 refine jaB rfl zq (fun q6=>jap (jad ?_));rotate_left
 refine D90 ?_;refine Z2 ?_;refine D8 ?_
 rintro v nz ⟨qs,rfl,rfl⟩;refine jaG (jad ?_);refine jaB rfl zq (fun q6=>jap (jad ?_));refine D6 ?_
 rintro v n8 ⟨qp,p8,m8,c8,rfl,hz⟩;refine jaG (jad ?_);refine Z3 ?_
 rotate_left
 refine D91 ?_;refine Z2 ?_
 refine jaB rfl zq (fun q6=>jap (jad ?_));refine D8 ?_
 rintro v nz ⟨qs,rfl,rfl⟩;refine jaG (jad ?_);refine D6 ?_
 rintro v n8 ⟨qp,p8,m8,c8,rfl,hz⟩;refine jaG (jad ?_);refine Z3 ?_
 all_goals
  refine D7 ?_;refine Z6 ?_
  refine jaP rfl zq (fun hc=>?_) (fun hc=>?_)
  ·refine Z9 ?_;refine jac (h) rfl Tryz.func13 rfl jaa ?_;refine Zs ?_
   exact ⟨rfl,by rw [if_neg zD]⟩
  ·refine Z4 ?_
   have hz0:jaO b (jdN b c)=0:=by first|assumption|omega
   obtain ⟨q9,rfl,sh,rfl,hc8,rdB⟩:=hz hz0
   obtain ⟨hzb,hzo,hzn⟩:=jdm hz0
   have hk:=jbH.1 hzb
   have hbl:=jbE hk
   have h12:=jba hk
   have hin:c∈jab b:=gw fun e=>by rw [jdN,if_neg e] at hzo;cases hzo
   have hpl:=jfX.2 hin
   obtain ⟨kk,hkk⟩: ∃kk,kk=plN b c:=⟨_,rfl⟩
   rw [←hkk] at hpl
   obtain ⟨mrw,qm,hm1,hm2⟩:=sh.map
   haveI hmh:Has n8 qm mrw (jgw (jab b)):=⟨hm2⟩
   refine Z12 ?_;refine D33 ?_
   refine jaf (fun nn l h'=> ∃(j:Nat),nn=(jah b).length-j∧(j≤(jah b).length)∧(∃U:Nat→Value,l=((tbV b ps ns ks pw nw cw pb nb cb)::(cV c.butt c.line c.st)::(U 2)::(.pointer (some ⟨q3,0,none⟩))::(U 4)::(U 5)::(.pointer (some ⟨q6,0,none⟩))::(U 7)::(.int .i64 (jdF (jah b) kk j:Int))::vw13 U 9 ((.slice p8 (jah b).length c8)::(.int .i64 ((jah b).length:Int))::(.int .i64 (j:Int))::vw24 U 25 [])))∧h++[⟨true,q2,.cells (tbL b ps ns ks pw nw cw pb nb cb).toArray 25 (0,0)⟩,⟨true,q3,.cells (ceL c).toArray 28 (0,0)⟩]++[⟨true,qs,.cells (ceL c).toArray 28 (0,0)⟩]++n8++[⟨true,q6,.cells [.pointer (some ⟨q9,0,none⟩),.slice p8 (jah b).length c8].toArray 93 (0,0)⟩]=h') _ ⟨0,rfl,by omega,exU rfl,rfl⟩ ?_;rintro nn l h' ⟨j,rfl,hj,⟨U,rfl⟩,rfl⟩ hnext;have hwk:=jk8 (jah b) kk j
   refine Z2 ?_
   refine jak rfl zq (fun hc=>?_) (fun hc=>?_)
   ·refine Z7 ?_
    obtain ⟨rb,ro,hrp⟩:=rdB.ptr zO
    have rdB':=rdB
    rw [hrp] at rdB'
    have hxm:(jah b).getD j []∈jah b:=by rw [gC,gD zO];exact Gn _
    have hxl:=jbZ hxm
    refine Zs ?_;refine D69 ?_;refine D88 ?_
    obtain ⟨x,hx⟩: ∃x,x=(jah b).getD j []:=⟨_,rfl⟩
    rw [←hx] at hxm hxl⊢
    have hxb:=jcO (x:=x) zO
    refine jaB rfl zq (fun q10=>jap (jad ?_));refine jlP rfl zq (jaL x) ?_;refine Z2 ?_;refine jan [Zp 0,Zp 2,Zr 1,Zr 3,Zp 4,Zp 5,Zr 6,Zr 7,Zr 8,Zk 9] zK zK (gE _) ?_;refine Z6 ?_;refine jaI rfl zq (hm1.keeps SubH.sub) ?_;refine Zs ?_;refine jlS (c:=c) (cs:=jab b) (k:=28) (e:=3) zK rfl zq ?_;refine jag (Post:=fun v=>IsB _ v) rfl zq zK (fun H' hH=>by
      rw [jik hin,←hkk];exact f37_b m H' (jcA x) kk hxb zO) ?_
    rintro v (⟨hc,rfl⟩|⟨hc,rfl⟩);refine Z8 ?_
    rotate_left
    refine Z4 ?_
    all_goals
     refine Z5 ?_
    ·have hws:jdF (jah b) kk (j+1)=jdF (jah b) kk j:=by
      rw [jhR zO,←hx,←jhk zO,if_neg hc];rfl
     rw [←hws];exact m.weak jaa (hnext _ _ _ zO ⟨j+1,rfl,by omega,exU rfl,rfl⟩)
    ·have hws:jdF (jah b) kk (j+1)=jdF (jah b) kk j+1:=by
      rw [jhR zO,←hx,←jhk zO,hc];rfl
     rw [show (jdF (jah b) kk j:Int)+1=((jdF (jah b) kk (j+1):Nat):Int) by rw [hws];rfl];exact m.weak jaa (hnext _ _ _ zO ⟨j+1,rfl,by omega,exU rfl,rfl⟩)
   ·refine Z6 ?_
    have hjn:j=(jah b).length:=by omega
    rw [hjn,jjs];have hwa:=jk8 (jah b) kk (jah b).length
    rw [jjs] at hwa
    refine Z6 ?_
    refine jaA rfl zq (fun hc=>?_) (fun hc=>?_)
    ·refine Z9 ?_;refine jac (h) rfl Tryz.func13 rfl jaa ?_;refine Zs ?_
     refine ⟨rfl,?_⟩
     rw [if_pos hz0,hz0,←hkk];first
      |rw [jfo,if_pos zO]
      |rw [jfo,if_neg zO,if_pos zO]
      |rw [jfo,if_neg zO,if_neg zO]
    ·refine Z8 ?_
     refine jaA rfl zq (fun hc=>?_) (fun hc=>?_);refine Z3 ?_
     rotate_left
     refine Z5 ?_
     all_goals
      refine Z6 ?_;refine jac (h) rfl Tryz.func13 rfl jaa ?_;refine Zs ?_
      refine ⟨rfl,?_⟩
      rw [if_pos hz0,hz0,←hkk];first
       |rw [jfo,if_pos zO]
       |rw [jfo,if_neg zO,if_pos zO]
       |rw [jfo,if_neg zO,if_neg zO]
end
section
variable [LaidO B]
theorem f96_s (m:Md Tryz.prog B):PdqC m 12:=by
 intro h bk n c xs junk lim hl hn hk0 hk1
 refine jae Tryz.func96 rfl rfl (l:=(.slice (some ⟨bk,0,none⟩) n c)::(.int .i64 0)::(.int .i64 (n:Int))::(.int .i64 lim)::jpO) rfl ?_
 intro cf cs K hK
 refine Z9 ?_
 refine jaf (fun nn l h'=> ∃(k:Nat),nn=k+1∧(k=0)∧(∃U:Nat→Value,l=((.slice (some ⟨bk,0,none⟩) n c)::(.int .i64 0)::(.int .i64 (n:Int))::(.int .i64 lim)::vw130 U 4 []))∧h++[jbl bk xs junk]=h') _ ⟨0,rfl,rfl,exU rfl,rfl⟩ ?_;rintro nn l h' ⟨k,rfl,hk,⟨U,rfl⟩,rfl⟩ hnext;refine Z12 ?_
 refine jbK rfl zq (fun hc=>?_) (fun hc=>?_)
 ·refine Z7 ?_;refine jbt rfl zq zK (f125_c m h hl zO 0 n zO (gL _)) ?_
  rintro v h' ⟨rfl,ys,rfl,hsw,hso⟩;refine Z3 ?_;refine jac (h++[jbl bk ys junk]) rfl Tryz.func96 rfl jaa ?_;refine Zs ?_
  exact ⟨rfl,ys,rfl,hsw,hso⟩
 ·exfalso
  omega
theorem f10_n (m:Md Tryz.prog B) (h:Hp) (hP:PdqC m N) (hN:N≤60000) (ra:RawTb B h b ps ns ks pw nw cw pb nb cb) (c:Ce) (hbN:tbS b=0→(jah b).length≤N):FnC m 10 #[tbV b ps ns ks pw nw cw pb nb cb,cV c.butt c.line c.st] h fun v h'=> ∃new,h'=h++new∧ ∃w,v= .tuple [w,.int .i64 (jaO b (jdN b c))].toArray∧RdI B new w (jj4 b c):=by
 refine jae Tryz.func10 rfl rfl (l:=(tbV b ps ns ks pw nw cw pb nb cb)::(cV c.butt c.line c.st)::uu51) rfl ?_
 intro cf cs K hK
 refine Z2 ?_
 refine jaF rfl zq (fun q2=>jap (jad ?_));refine jaF rfl zq (fun q3=>jap (jad ?_));refine Z4 ?_;refine jbr [0,1,2,3,4,5,6,7,8,9] zK zK (gE _) ?_
 refine DrawT.split 2 7 zA (DrawT.split 3 7 zA ?_ ?_) ?_
 refine D89 ?_;refine Z2 ?_;refine D8 ?_
 rintro v nz ⟨qs,rfl,rfl⟩;refine jaG (jad ?_);refine D6 ?_
 rintro v n8 ⟨qp,p8,m8,c8,rfl,hz⟩;refine jaG (jad ?_);refine Z3 ?_
 refine jaB rfl zq (fun q6=>jap (jad ?_));rotate_left
 refine D90 ?_;refine Z2 ?_;refine D8 ?_
 rintro v nz ⟨qs,rfl,rfl⟩;refine jaG (jad ?_);refine jaB rfl zq (fun q6=>jap (jad ?_));refine D6 ?_
 rintro v n8 ⟨qp,p8,m8,c8,rfl,hz⟩;refine jaG (jad ?_);refine Z3 ?_
 rotate_left
 refine D91 ?_;refine Z2 ?_
 refine jaB rfl zq (fun q6=>jap (jad ?_));refine D8 ?_
 rintro v nz ⟨qs,rfl,rfl⟩;refine jaG (jad ?_);refine D6 ?_
 rintro v n8 ⟨qp,p8,m8,c8,rfl,hz⟩;refine jaG (jad ?_);refine Z3 ?_
 all_goals
  refine D7 ?_;refine Z6 ?_
  refine jaP rfl zq (fun hc=>?_) (fun hc=>?_)
  ·refine Z9 ?_;refine jac (h) rfl Tryz.func10 rfl jaa ?_;refine Zs ?_
   exact ⟨[],by simp,_,rfl,by rw [jj4,if_neg zD];exact ⟨none,0,rfl,⟨none,0,rfl,rfl,.inl ⟨rfl,rfl⟩⟩⟩⟩
  ·refine Z4 ?_
   have hz0:jaO b (jdN b c)=0:=by first|assumption|omega
   obtain ⟨q9,rfl,sh,rfl,hc8,rdB⟩:=hz hz0
   obtain ⟨hzb,hzo,hzn⟩:=jdm hz0
   have hk:=jbH.1 hzb
   have hbl:=jbE hk
   have h12:=jba hk
   have hin:c∈jab b:=gw fun e=>by rw [jdN,if_neg e] at hzo;cases hzo
   have hpl:=jfX.2 hin
   obtain ⟨kk,hkk⟩: ∃kk,kk=plN b c:=⟨_,rfl⟩
   rw [←hkk] at hpl
   obtain ⟨mrw,qm,hm1,hm2⟩:=sh.map
   haveI hmh:Has n8 qm mrw (jgw (jab b)):=⟨hm2⟩
   refine jan [Zp 0,Zr 1,Zp 2,Zp 3,Zr 4,Zr 5,Zr 6,Zp 7] zK zK (gE _) ?_;refine Z4 ?_;refine jaI rfl zq (hm1.keeps (by first|exact SubH.sub|exact gM _ _)) ?_;refine Zs ?_;refine jlS (c:=c) (cs:=jab b) (k:=28) (e:=3) zK rfl zq ?_;rw [jik hin,←hkk,GB];refine Z15 ?_;refine D33 ?_
   refine jaf (fun nn l h'=> ∃(j:Nat) (wp:Option Addr) (wc:Nat) (M:Hp),nn=(jah b).length-j∧(j≤(jah b).length)∧(OwnS 3 1 (.slice wp (jjM (jah b) kk j).length wc) (jjM (jah b) kk j).length (jaq (jjM (jah b) kk j)) M)∧((jjM (jah b) kk j)=[]→wp=none∧wc=0∧M=[])∧(∃U:Nat→Value,l=((tbV b ps ns ks pw nw cw pb nb cb)::(cV c.butt c.line c.st)::(U 2)::(.pointer (some ⟨q3,0,none⟩))::(U 4)::(U 5)::(.pointer (some ⟨q6,0,none⟩))::(U 7)::(.int .i64 (kk:Int))::(.slice wp (jjM (jah b) kk j).length wc)::vw20 U 10 ((.slice p8 (jah b).length c8)::(.int .i64 ((jah b).length:Int))::(.int .i64 (j:Int))::vw20 U 33 [])))∧h++[⟨true,q2,.cells (tbL b ps ns ks pw nw cw pb nb cb).toArray 25 (0,0)⟩,⟨true,q3,.cells (ceL c).toArray 28 (0,0)⟩]++[⟨true,qs,.cells (ceL c).toArray 28 (0,0)⟩]++n8++[⟨true,q6,.cells [.pointer (some ⟨q9,0,none⟩),.slice p8 (jah b).length c8].toArray 93 (0,0)⟩]++M=h') _ ⟨0,none,0,[],rfl,by omega,OwnS.nil,fun _=>⟨rfl,rfl,rfl⟩,exU rfl,(by rw [gd])⟩ ?_;rintro nn l h' ⟨j,wp,wc,M,rfl,hj,how,hze,⟨U,rfl⟩,rfl⟩ hnext;have hol:=outK_le (jah b) kk j
   refine Z2 ?_
   refine jak rfl zq (fun hc=>?_) (fun hc=>?_)
   ·refine Z7 ?_
    obtain ⟨rb,ro,hrp⟩:=rdB.ptr zO
    have rdB':=rdB
    rw [hrp] at rdB'
    have hxm:(jah b).getD j []∈jah b:=by rw [gC,gD zO];exact Gn _
    have hxl:=jbZ hxm
    refine Zs ?_;refine D69 ?_;refine D88 ?_
    obtain ⟨x,hx⟩: ∃x,x=(jah b).getD j []:=⟨_,rfl⟩
    rw [←hx] at hxm hxl⊢
    have hxb:=jcO (x:=x) zO
    refine jaB rfl zq (fun q11=>jap (jad ?_));refine jlP rfl zq (jaL x) ?_;refine Z6 ?_;refine jag (Post:=fun v=>IsB _ v) rfl zq zK (fun H' hH=>f37_b m H' (jcA x) kk hxb zO) ?_;rintro v (⟨hc,rfl⟩|⟨hc,rfl⟩);refine Z5 ?_
    rotate_left
    refine Z9 ?_;refine jaI rfl zq (bo_at kk zO) ?_
    refine jcb kdq rfl zq zA zA rfl (fun q46=>jap (jad ?_));refine ja2 rfl zq rfl how kdq zO zO (fun w47 n47 o47=>jad ?_);obtain ⟨p47,c47,rfl,hc47,r47⟩:=jas (B:=B) o47
    refine Z2 ?_
    all_goals
     refine Z5 ?_
    ·have hxs:xA x kk=some ((xA x kk).getD 0):=by
      cases e:xA x kk with
      |none=>exact absurd (by rw [jhk zO,e];rfl) hc
      |some v=>rfl
     have hks:=jqF (L:=jah b) (k:=kk) (j:=j) zO (hx▸hxs)
     have hkl:(jjM (jah b) kk (j+1)).length=(jjM (jah b) kk j).length+1:=by rw [hks];simp
     rw [←hkl];refine m.weak (h':=h++[⟨true,q2,.cells (tbL b ps ns ks pw nw cw pb nb cb).toArray 25 (0,0)⟩,⟨true,q3,.cells (ceL c).toArray 28 (0,0)⟩]++[⟨true,qs,.cells (ceL c).toArray 28 (0,0)⟩]++n8++[⟨true,q6,.cells [.pointer (some ⟨q9,0,none⟩),.slice p8 (jah b).length c8].toArray 93 (0,0)⟩]++n47) jfM ?_
     exact hnext _ _ _ zO ⟨j+1,p47,c47,n47,rfl,by omega,by rw [hkl,hks,jaZ,←hx];exact o47,fun e=>by rw [hks] at e;simp at e,exU rfl,rfl⟩
    ·have hks:=jqG (L:=jah b) (k:=kk) (j:=j) zO (by
      have e:=hc
      rw [jhk zO,Gh] at e
      rw [←hx];exact e)
     rw [←hks];refine m.weak (h':=h++[⟨true,q2,.cells (tbL b ps ns ks pw nw cw pb nb cb).toArray 25 (0,0)⟩,⟨true,q3,.cells (ceL c).toArray 28 (0,0)⟩]++[⟨true,qs,.cells (ceL c).toArray 28 (0,0)⟩]++n8++[⟨true,q6,.cells [.pointer (some ⟨q9,0,none⟩),.slice p8 (jah b).length c8].toArray 93 (0,0)⟩]++M) jfM ?_
     exact hnext _ _ _ zO ⟨j+1,wp,wc,M,rfl,by omega,by rw [hks];exact how,by rw [hks];exact hze,exU rfl,rfl⟩
   ·refine Z5 ?_
    have hbN2:=hbN hzb
    obtain rfl:j=(jah b).length:=by omega
    by_cases h0:jjM (jah b) kk (jah b).length=[]
    ·obtain ⟨rfl,rfl,rfl⟩:=hze h0
     rw [show (jjM (jah b) kk (jah b).length).length=0 by rw [h0];rfl];refine Z2 ?_;refine jag (Post:=fun _=>True) rfl zq zK (fun H' hH=>CallF.mono (f52_z m H') fun v h' e=>⟨e,trivial⟩) ?_
     rintro v _;refine Z5 ?_;refine jag (Post:=fun v=>v= .slice none 0 0) rfl zq zK (fun H' hH=>f53_z m H') ?_
     rintro v rfl;refine Z5 ?_;refine jac (h) rfl Tryz.func10 rfl jaa ?_;refine Zs ?_
     have hcl:jj4 b c=jnb (cdT b) (jah b) kk:=by rw [jj4,if_pos hz0,←hkk]
     have hce:jnb (cdT b) (jah b) kk=[]:=by
      rw [List.eq_nil_iff_forall_not_mem];intro z hzz
      rw [jnW _ ji0,←jnV,h0] at hzz
      cases hzz
     exact ⟨[],by simp,_,by rw [hz0],by rw [hcl,hce];exact ⟨none,0,rfl,⟨none,0,rfl,rfl,.inl ⟨rfl,rfl⟩⟩⟩⟩
    ·obtain ⟨bk,c9,junk,hw9,rfl,hbk1,hbk2⟩:=jqE how (vX.2 h0)
     cases hw9
     refine Z2 ?_;refine jbt rfl zq zK (f52_c m _ hP hN hbk1 zO) ?_
     rintro v h' ⟨rfl,ys,rfl,hsw,hso⟩;refine Zs ?_
     have hyl:=hsw.length
     refine Z4 ?_;refine jbt rfl zq zK (f53_c m _ (show ys.length=_ by omega) hbk2 zO) ?_
     rintro v h' ⟨n11,rfl,k11,hk',ho'⟩;refine Z5 ?_;refine jac (h++n11) rfl Tryz.func10 rfl jaa ?_;refine Zs ?_
     have hcl:jj4 b c=jnb (cdT b) (jah b) kk:=by rw [jj4,if_pos hz0,←hkk]
     have hyn:ys.length=(jjM (jah b) kk (jah b).length).length:=by omega
     rw [←hyn] at hso ho' hk'
     subst hk'
     have hye:jc2 ys ys.length=jnb (cdT b) (jah b) kk:=jop (jhW hso _ (gL _)).1 (joq hpl) fun z=>by
      rw [jqW hso,jnW _ ji0,←jnV];exact (hsw.perm zO).mem_iff
     rw [hye] at ho'
     obtain ⟨p11,c11,rfl,_,r11⟩:=jas (B:=B) ho'
     exact ⟨n11,rfl,_,by rw [hz0],by rw [hcl];exact ⟨p11,c11,rfl,r11⟩⟩
theorem f10_c (m:Md Tryz.prog B) (h:Hp) (ra:RawTb B h b ps ns ks pw nw cw pb nb cb) (c:Ce):FnC m 10 #[tbV b ps ns ks pw nw cw pb nb cb,cV c.butt c.line c.st] h fun v h'=> ∃new,h'=h++new∧ ∃w,v= .tuple [w,.int .i64 (jaO b (jdN b c))].toArray∧RdI B new w (jj4 b c):=by
 exact f10_n m h (f96_all m) zA ra c fun hz=>GJ (jbE (jbH.1 hz)) zA
theorem f10_s (m:Md Tryz.prog B) (h:Hp) (ra:RawTb B h b ps ns ks pw nw cw pb nb cb) (c:Ce) (hb:(jah b).length≤12):FnC m 10 #[tbV b ps ns ks pw nw cw pb nb cb,cV c.butt c.line c.st] h fun v h'=> ∃new,h'=h++new∧ ∃w,v= .tuple [w,.int .i64 (jaO b (jdN b c))].toArray∧RdI B new w (jj4 b c):=f10_n m h (f96_s m) zA ra c fun _=>hb
end
section
variable [LaidO B]
section
variable {bt:Bool} {st p v lo hi:Int} {d:Cd} {o:Option Int} {s:Int×Int}
theorem jcB (h:d.st≠st):jgr bt st p d o s=s:=by cases o with|none=>rfl|some v=>rw [jgr,if_pos h]
theorem jdQ:jgr bt st p d none s=s:=rfl
theorem jdC (h:d.st=st) (hb:d.butt=bt):jgr bt st p d (some v) (lo,hi)=(if d.lat≤p then max lo v else lo,if p≤d.lat then min hi v else hi):=by
 rw [jgr,if_neg (fun e=>e h),if_pos hb]
theorem jcC (h:d.st=st) (hb:d.butt≠bt):jgr bt st p d (some v) (lo,hi)=(if v<p then max lo d.lat else lo,if p<v then min hi d.lat else hi):=by
 rw [jgr,if_neg (fun e=>e h),if_neg hb]
end
theorem jaj {a c:Prop} [Decidable a] [Decidable c] {x y w:Int}:(a→c→((if a then x else y,if c then z else w):Int×Int)=(x,z))∧(a→ ¬c→((if a then x else y,if c then z else w):Int×Int)=(x,w))∧(¬a→c→((if a then x else y,if c then z else w):Int×Int)=(y,z))∧(¬a→ ¬c→((if a then x else y,if c then z else w):Int×Int)=(y,w)):=
 ⟨fun h k=>by rw [if_pos h,if_pos k],fun h k=>by rw [if_pos h,if_neg k],fun h k=>by rw [if_neg h,if_pos k],fun h k=>by rw [if_neg h,if_neg k]⟩
theorem bdK_in {D:List Cd} {x:Bo} {bt:Bool} {st p:Int} (hd: ∀i,0≤(dA D i).lat∧(dA D i).lat≤959) (hx: ∀i v,xA x i=some v→0≤v∧v≤959): ∀k,(0≤(bdK D x bt st p k).1∧(bdK D x bt st p k).1≤959)∧(0≤(bdK D x bt st p k).2∧(bdK D x bt st p k).2≤959)
 |0=>⟨⟨Int.le_refl 0,by show (0:Int)≤959;decide⟩,⟨by show (0:Int)≤959;decide,Int.le_refl 959⟩⟩
 |k+1=>by
  have ih:=bdK_in (bt:=bt) (st:=st) (p:=p) hd hx k
  rw [jcD];generalize bdK D x bt st p k=s at ih⊢
  obtain ⟨lo,hi⟩:=s
  simp only at ih
  have h1:=hd k
  cases hv:xA x k with
  |none=>exact ih
  |some v=>
   have h2:=hx k v hv
   by_cases e:(dA D k).st=st
   ·by_cases e2:(dA D k).butt=bt
    ·rw [jdC e e2];simp only
     constructor<;>split<;>omega
    ·rw [jcC e e2];simp only
     constructor<;>split<;>omega
   ·rw [jcB e];exact ih
theorem meaS_in {s:Str} (h:z∈jdw s):0≤z∧z≤959:=by
 rw [jdw] at h
 split at h
 ·rw [jkJ,gP] at h
  obtain ⟨n,hn,rfl⟩:=h
  rw [gV,gT] at hn
  omega
 ·cases h
theorem cd_lat (k:TbOk b) (i:Nat):0≤(dA (cdT b) i).lat∧(dA (cdT b) i).lat≤959:=by
 by_cases h:i<(jab b).length
 ·rw [jav b h];have hm:(jab b).getD i default∈jab b:=jal h
  exact ((k.lines _).ok _ (jhJ (jeT hm).1)).lat
 ·rw [dA,gC,gl (by rw [jat];omega)];decide
theorem boat_in {x:Bo} (h:x∈jah b) (hv:xA x i=some v):0≤v∧v≤959:=by
 have h1:=(jfz.1 (ji0 x h)).2.1 i v hv
 have hi:i<(jab b).length:=gw fun e=>by
  rw [xA,gC,gl (by rw [jbZ h];omega)] at hv
  cases hv
 rw [jav b hi] at h1
 exact meaS_in h1
theorem bdA_in (k:TbOk b) {x:Bo} (h:x∈jah b) (bt:Bool) (st p:Int):(0≤(bdA (cdT b) x bt st p).1∧(bdA (cdT b) x bt st p).1≤959)∧(0≤(bdA (cdT b) x bt st p).2∧(bdA (cdT b) x bt st p).2≤959):=bdK_in (cd_lat k) (fun i v hv=>boat_in h hv) _
def jp3 (b:Tb) (bt:Bool) (st p:Int):Int×Int:=spB (fun x=>bdA (cdT b) x bt st p) (jah b)
def ownP (b:Tb) (st p:Int):Int:=if¬(0≤st∧st≤(b.sts.length:Int)-1) then 6 else if¬(0≤p∧p≤959) then 1 else 0
def jfe (b:Tb) (bt:Bool) (st p:Int):Int×Int:=if jaO b (ownP b st p)=0 then jp3 b bt st p else (0,0)
theorem spBK_one {f:Bo→Int×Int} (h:0<L.length) (h1:(f (L.getD 0 [])).1≤959) (h2:0≤(f (L.getD 0 [])).2):jp4 f L 1=f (L.getD 0 []):=by
 rw [jlo f L 0 h];have:jp4 f L 0=(959,0):=by rw [jp4,xT];rfl
 rw [this];refine Prod.ext ?_ ?_
 ·show min 959 _=_
  omega
 ·show max 0 _=_
  omega
theorem f111_c (m:Md Tryz.prog B) (h:Hp) (sh:Sheet B h b q tv) {x:Bo} (hx:x.length=(jab b).length) (bt:Bool) (st p:Int):FnC m 111 #[.pointer (some ⟨q,0,none⟩),boV x,.bool bt,.int .i64 st,.int .i64 p] h fun v h'=>h'=h∧v= .tuple [.int .i64 (bdA (cdT b) x bt st p).1,.int .i64 (bdA (cdT b) x bt st p).2].toArray:=by
 have h12:=sh.twelve
 obtain ⟨pc,cc,hcv,hcc,hcr⟩:=sh.cells
 refine jae Tryz.func111 rfl rfl (l:=(.pointer (some ⟨q,0,none⟩))::(boV x)::(.bool bt)::(.int .i64 st)::(.int .i64 p)::uu81) rfl ?_
 intro cf cs K hK
 refine Z2 ?_
 refine jaF rfl zq (fun q6=>jap (jad ?_));refine Z13 ?_;refine D70 ?_;refine Z4 ?_
 refine jaf (fun nn l h'=> ∃(i:Nat) (lo hi:Int),nn=(jab b).length-i∧(i≤(jab b).length)∧(bdK (cdT b) x bt st p i=(lo,hi))∧(∃U:Nat→Value,l=((.pointer (some ⟨q,0,none⟩))::(boV x)::(.bool bt)::(.int .i64 st)::(.int .i64 p)::(U 5)::(.pointer (some ⟨q6,0,none⟩))::(U 7)::(U 8)::(U 9)::(.int .i64 lo)::(.int .i64 hi)::vw8 U 12 ((.slice pc (jab b).length cc)::(.int .i64 ((jab b).length:Int))::(.int .i64 (i:Int))::vw63 U 23 [])))∧h++[⟨true,q6,.cells (boL x).toArray 68 (0,0)⟩]=h') _ ⟨0,0,959,rfl,by omega,rfl,exU rfl,rfl⟩ ?_;rintro nn l h' ⟨i,lo,hi,rfl,hi9,hbd,⟨U,rfl⟩,rfl⟩ hnext;refine Z2 ?_
 refine jak rfl zq (fun hc=>?_) (fun hc=>?_)
 ·refine Z7 ?_
  obtain ⟨pcb,pco,hpc⟩:=hcr.ptr zO
  have hcr':=hcr
  rw [hpc] at hcr'
  refine Z2 ?_;refine D99 ?_;refine jca (vs:=[.bool (jhp b ((jab b).getD i default)).butt,.int .i64 ((jab b).getD i default).line,.int .i64 (jhp b ((jab b).getD i default)).st]) rfl zq rfl (hcr'.eat i zO zO) ?_
  refine jaB rfl zq (fun q13=>jap (jad ?_));refine Zs ?_;refine D7 ?_;refine Z7 ?_
  refine jaP rfl zq (fun hc=>?_) (fun hc=>?_)
  ·refine Z13 ?_
   exact m.weak jaa (hnext _ _ _ zO ⟨i+1,_,_,rfl,by omega,by
    rw [jcD,hbd,jav b zO];first
     |exact jcB zD
     |(rw [hv];first
       |exact jdQ
       |(rw [jdC zD hbt];exact E60)
       |(rw [jcC zD hbt];exact E60)),exU rfl,rfl⟩)
  ·refine Z2 ?_;refine jkM rfl rfl ?_;refine Zs ?_;refine jag (Post:=fun v=>IsB _ v) rfl rfl zK (fun H' hH=>f37_b m H' (jcA x) i (jcO zO) zO) ?_
   rintro v (⟨hc,rfl⟩|⟨hc,rfl⟩)
   ·refine Zs ?_
    have hv:xA x i=none:=by
     rw [jhk zO] at hc
     exact Gh.1 hc
    refine Z8 ?_
    exact m.weak jaa (hnext _ _ _ zO ⟨i+1,_,_,rfl,by omega,by
     rw [jcD,hbd,jav b zO];first
      |exact jcB zD
      |(rw [hv];first
        |exact jdQ
        |(rw [jdC zD hbt];exact E60)
        |(rw [jcC zD hbt];exact E60)),exU rfl,rfl⟩)
   ·refine Zs ?_
    obtain ⟨v,hv⟩: ∃v,xA x i=some v:=by
     cases e:xA x i with
     |none=>exact absurd (by rw [jhk zO,e];rfl) hc
     |some v=>exact ⟨v,rfl⟩
    refine Z5 ?_;refine jan [Zp 0,Zp 1,Zp 2,Zp 3,Zp 4,Zp 6,Zp 7,Zp 8,Zr 5,Zp 10,Zr 9,Zp 11] zK zK (gE _) ?_;refine Z8 ?_;refine D81 ?_;refine Zs ?_;refine jaI rfl zq (bo_at i zO) ?_
    rw [hv,GB];refine Z7 ?_
    refine jge rfl zq zK (fun hbt=>?_) (fun hbt=>?_);refine Z10 ?_
    rotate_left
    refine Z15 ?_
    all_goals
     refine Z2 ?_;refine jpz ?_;refine Z2 ?_
    ·refine jak rfl zq (fun hc=>?_) (fun hc=>?_)
     ·refine Z13 ?_;refine jrc rfl zq ?_;refine Z3 ?_;refine jpz ?_;refine Z2 ?_
      refine jaz rfl zq (fun hc=>?_) (fun hc=>?_)
      ·refine Z13 ?_;refine jmU rfl zq ?_;refine Z7 ?_
       exact m.weak jaa (hnext _ _ _ zO ⟨i+1,_,_,rfl,by omega,by
        rw [jcD,hbd,jav b zO];first
         |exact jcB zD
         |(rw [hv];first
           |exact jdQ
           |(rw [jdC zD hbt];exact E60)
           |(rw [jcC zD hbt];exact E60)),exU rfl,rfl⟩)
      ·refine Z3 ?_
       refine jaA rfl rfl (fun hc=>?_) (fun hc=>?_);refine Z3 ?_
       rotate_left
       refine Z3 ?_
       all_goals
        refine Z9 ?_
        exact m.weak jaa (hnext _ _ _ zO ⟨i+1,_,_,rfl,by omega,by
         rw [jcD,hbd,jav b zO];first
          |exact jcB zD
          |(rw [hv];first
            |exact jdQ
            |(rw [jdC zD hbt];exact E60)
            |(rw [jcC zD hbt];exact E60)),exU rfl,rfl⟩)
     ·refine Z3 ?_
      refine jaA rfl rfl (fun hc=>?_) (fun hc=>?_);refine Z3 ?_
      rotate_left
      refine Z3 ?_
      all_goals
       refine Z5 ?_;refine jpz ?_;refine Z2 ?_
       refine jaz rfl zq (fun hc=>?_) (fun hc=>?_)
       ·refine Z13 ?_;refine jmU rfl zq ?_;refine Z7 ?_
        exact m.weak jaa (hnext _ _ _ zO ⟨i+1,_,_,rfl,by omega,by
         rw [jcD,hbd,jav b zO];first
          |exact jcB zD
          |(rw [hv];first
            |exact jdQ
            |(rw [jdC zD hbt];exact E60)
            |(rw [jcC zD hbt];exact E60)),exU rfl,rfl⟩)
       ·refine Z3 ?_
        refine jaA rfl rfl (fun hc=>?_) (fun hc=>?_);refine Z3 ?_
        rotate_left
        refine Z3 ?_
        all_goals
         refine Z9 ?_
         exact m.weak jaa (hnext _ _ _ zO ⟨i+1,_,_,rfl,by omega,by
          rw [jcD,hbd,jav b zO];first
           |exact jcB zD
           |(rw [hv];first
             |exact jdQ
             |(rw [jdC zD hbt];exact E60)
             |(rw [jcC zD hbt];exact E60)),exU rfl,rfl⟩)
    ·refine jak rfl zq (fun hc=>?_) (fun hc=>?_)
     ·refine Z13 ?_;refine jrc rfl zq ?_;refine Z3 ?_;refine jpz ?_;refine Z2 ?_
      refine jaz rfl zq (fun hc=>?_) (fun hc=>?_)
      ·refine Z13 ?_;refine jmU rfl zq ?_;refine Z7 ?_
       exact m.weak jaa (hnext _ _ _ zO ⟨i+1,_,_,rfl,by omega,by
        rw [jcD,hbd,jav b zO];first
         |exact jcB zD
         |(rw [hv];first
           |exact jdQ
           |(rw [jdC zD hbt];exact E60)
           |(rw [jcC zD hbt];exact E60)),exU rfl,rfl⟩)
      ·refine Z3 ?_
       refine jaA rfl rfl (fun hc=>?_) (fun hc=>?_);refine Z9 ?_;refine jmU rfl zq ?_;refine Z2 ?_
       rotate_left
       refine Z7 ?_
       all_goals
        refine Z5 ?_
        exact m.weak jaa (hnext _ _ _ zO ⟨i+1,_,_,rfl,by omega,by
         rw [jcD,hbd,jav b zO];first
          |exact jcB zD
          |(rw [hv];first
            |exact jdQ
            |(rw [jdC zD hbt];exact E60)
            |(rw [jcC zD hbt];exact E60)),exU rfl,rfl⟩)
     ·refine Z3 ?_
      refine jaA rfl rfl (fun hc=>?_) (fun hc=>?_);refine Z9 ?_;refine jrc rfl zq ?_;refine Z2 ?_
      rotate_left
      refine Z7 ?_
      all_goals
       refine Zs ?_;refine jpz ?_;refine Z2 ?_
       refine jaz rfl zq (fun hc=>?_) (fun hc=>?_)
       ·refine Z13 ?_;refine jmU rfl zq ?_;refine Z7 ?_
        exact m.weak jaa (hnext _ _ _ zO ⟨i+1,_,_,rfl,by omega,by
         rw [jcD,hbd,jav b zO];first
          |exact jcB zD
          |(rw [hv];first
            |exact jdQ
            |(rw [jdC zD hbt];exact E60)
            |(rw [jcC zD hbt];exact E60)),exU rfl,rfl⟩)
       ·refine Z3 ?_
        refine jaA rfl rfl (fun hc=>?_) (fun hc=>?_);refine Z9 ?_;refine jmU rfl zq ?_;refine Z2 ?_
        rotate_left
        refine Z7 ?_
        all_goals
         refine Z5 ?_
         exact m.weak jaa (hnext _ _ _ zO ⟨i+1,_,_,rfl,by omega,by
          rw [jcD,hbd,jav b zO];first
           |exact jcB zD
           |(rw [hv];first
             |exact jdQ
             |(rw [jdC zD hbt];exact E60)
             |(rw [jcC zD hbt];exact E60)),exU rfl,rfl⟩)
 ·refine Z12 ?_;refine jac (h) rfl Tryz.func111 rfl jaa ?_;refine Zs ?_
  obtain rfl:i=(jab b).length:=by omega
  exact ⟨rfl,by rw [bdA,jat,hbd]⟩
theorem f75_c (m:Md Tryz.prog B) (h:Hp) (sh:Sheet B h b q tv) {x:Bo} (hx:x.length=(jab b).length) (st p:Int):FnC m 75 #[.pointer (some ⟨q,0,none⟩),boV x,.int .i64 st,.int .i64 p] h fun v h'=>h'=h∧v= .tuple [.int .i64 (bdA (cdT b) x false st p).1,.int .i64 (bdA (cdT b) x false st p).2].toArray:=by
 refine jae Tryz.func75 rfl rfl (l:=(.pointer (some ⟨q,0,none⟩))::(boV x)::(.int .i64 st)::(.int .i64 p)::uu13) rfl ?_
 intro cf cs K hK
 refine Z2 ?_
 refine jaF rfl zq (fun q5=>jap (jad ?_));refine Z6 ?_;refine jca (vs:=boL x) rfl zq (jaL x) (jlI (Has.mem (b:=q5)) (seg_all (jaL x)).eq) ?_;refine Z2 ?_;refine jag (Post:=fun v=>v=_) rfl zq zK (fun H' hH=>f111_c m H' (sh.keeps (sq hH)) hx false st p) ?_
 rintro v rfl;refine Z7 ?_;refine jac (h) rfl Tryz.func75 rfl jaa ?_;refine Zs ?_
 exact ⟨rfl,rfl⟩
theorem f76_c (m:Md Tryz.prog B) (h:Hp) (sh:Sheet B h b q tv) {x:Bo} (hx:x.length=(jab b).length) (st p:Int):FnC m 76 #[.pointer (some ⟨q,0,none⟩),boV x,.int .i64 st,.int .i64 p] h fun v h'=>h'=h∧v= .tuple [.int .i64 (bdA (cdT b) x true st p).1,.int .i64 (bdA (cdT b) x true st p).2].toArray:=by
 refine jae Tryz.func76 rfl rfl (l:=(.pointer (some ⟨q,0,none⟩))::(boV x)::(.int .i64 st)::(.int .i64 p)::uu13) rfl ?_
 intro cf cs K hK
 refine Z2 ?_
 refine jaF rfl zq (fun q5=>jap (jad ?_));refine Z6 ?_;refine jca (vs:=boL x) rfl zq (jaL x) (jlI (Has.mem (b:=q5)) (seg_all (jaL x)).eq) ?_;refine Z2 ?_;refine jag (Post:=fun v=>v=_) rfl zq zK (fun H' hH=>f111_c m H' (sh.keeps (sq hH)) hx true st p) ?_
 rintro v rfl;refine Z7 ?_;refine jac (h) rfl Tryz.func76 rfl jaa ?_;refine Zs ?_
 exact ⟨rfl,rfl⟩
theorem f74_c (m:Md Tryz.prog B) (h:Hp) {c:Nat} (rd:RdS B h 13 (.slice p n c) n (jay L)) (hc0:n≤c) (hn:0<n∧n≤100000) {gc gp:Array Value} {f:Bo→Int×Int} {x:Int} (hcall:jbM Tryz.prog fid=true) (hf: ∀i,i<n→ ∀H':Hp,h.Sublist H'→FnC m fid (gc++[boV (L.getD i []),.int .i64 st,.int .i64 x].toArray++gp) H' fun v h'=>h'=H'∧v= .tuple [.int .i64 (f (L.getD i [])).1,.int .i64 (f (L.getD i [])).2].toArray) (h1:(f (L.getD 0 [])).1≤959) (h2:0≤(f (L.getD 0 [])).2):FnC m 74 #[.agg [.pointer qv,.slice p n c].toArray,.func (.func fid) gc gp,.int .i64 st,.int .i64 x] h fun v h'=>h'=h∧v= .agg [.int .i64 (spB f L).1,.int .i64 (spB f L).2].toArray:=by
 refine jae Tryz.func74 rfl rfl (l:=(.agg [.pointer qv,.slice p n c].toArray)::(.func (.func fid) gc gp)::(.int .i64 st)::(.int .i64 x)::uu51) rfl ?_
 intro cf cs K hK
 refine Z2 ?_
 refine jaF rfl zq (fun q4=>jap (jad ?_));refine jaB rfl zq (fun q8=>jap (jad ?_));refine Z2 ?_
 obtain ⟨rb,ro,hrp⟩:=rd.ptr zO
 have rd':=rd
 rw [hrp] at rd'
 have hll:=rd.elen zA
 have rdc:=rd.cut (lo:=1) zO hc0
 rw [←jiR] at rdc
 refine rr13 ?_;refine Z3 ?_;refine D69 ?_;refine jca (vs:=boL (L.getD 0 [])) rfl zq (jaL _) (rd'.eat 0 zO zO) ?_;refine Z2 ?_;refine jfi (Post:=fun v=>v=_) rfl zq hcall (fun H' hH=>hf 0 zO H' (sq hH)) ?_;rintro v rfl;refine Z11 ?_;refine D39 ?_
 refine jaB rfl zq (fun q11=>jap (jad ?_));refine D7 ?_;refine Z6 ?_;refine jgc (a:=1) rfl zq rfl zO ?_;refine Z4 ?_
 refine jaf (fun nn l h'=> ∃(k:Nat),nn=n-k∧(k+1≤n)∧(∃U:Nat→Value,l=((.agg [.pointer qv,.slice p n c].toArray)::(.func (.func fid) gc gp)::(.int .i64 st)::(.int .i64 x)::(.pointer (some ⟨q4,0,none⟩))::(U 5)::(U 6)::(U 7)::(.pointer (some ⟨q8,0,none⟩))::(U 9)::(U 10)::(.pointer (some ⟨q11,0,none⟩))::vw18 U 12 ((.slice (jmt 13 p c 1) (n-1) (c-1))::(.int .i64 ((n-1:Nat):Int))::(.int .i64 (k:Int))::vw22 U 33 [])))∧h++[⟨true,q4,.cells [.pointer qv,.slice p n c].toArray 93 (0,0)⟩,⟨true,q8,.cells [.int .i64 0,.int .i64 0].toArray 53 (0,0)⟩,⟨true,q11,.cells [.int .i64 (jp4 f L (k+1)).1,.int .i64 (jp4 f L (k+1)).2].toArray 53 (0,0)⟩]=h') _ ⟨0,rfl,by omega,exU rfl,(by rw [spBK_one zO h1 h2])⟩ ?_;rintro nn l h' ⟨k,rfl,hk,⟨U,rfl⟩,rfl⟩ hnext;refine Z2 ?_
 refine jak rfl zq (fun hc=>?_) (fun hc=>?_)
 ·refine Z7 ?_
  obtain ⟨cb,co,hcp⟩:=rdc.ptr zO
  have rdc':=rdc
  rw [hcp] at rdc'
  have hge:(L.drop 1).getD k default=L.getD (k+1) []:=by rw [gC,vK,vv 1 k,gC];rfl
  refine Zs ?_;refine ja1 rfl zq hcp zO zO ?_;refine jca (vs:=boL (L.getD (k+1) [])) rfl zq (jaL _) (hge▸rdc'.eat k zO zO) ?_
  refine jaB rfl zq (fun q13=>jap (jad ?_));refine jlP rfl zq (jaL _) ?_;refine Z4 ?_;refine jca (vs:=boL (L.getD (k+1) [])) rfl zq (jaL _) (jlI (Has.mem (b:=q13)) (seg_all (jaL _)).eq) ?_;refine Z2 ?_;refine jfi (Post:=fun v=>v=_) rfl zq hcall (fun H' hH=>hf (k+1) zO H' (sq hH)) ?_;rintro v rfl;refine Z11 ?_;refine jmU rfl zq ?_;refine Z3 ?_;refine jrc rfl zq ?_;refine D39 ?_;refine D7 ?_;refine Z6 ?_
  exact m.weak jaa (hnext _ _ _ zO ⟨k+1,rfl,by omega,exU rfl,(by rw [jlo f L (k+1) zO])⟩)
 ·refine Z7 ?_;refine D7 ?_;refine Z2 ?_;refine jac (h) rfl Tryz.func74 rfl jaa ?_;refine Zs ?_
  obtain rfl:n=k+1:=by omega
  rw [show k+1=L.length by omega,spBK_all];exact ⟨rfl,rfl⟩
theorem callB75:jbM Tryz.prog 75=true:=by kernel_rfl
theorem callB110:jbM Tryz.prog 110=true:=by kernel_rfl
theorem f25_c (m:Md Tryz.prog B) (h:Hp) (ra:RawTb B h b ps ns ks pw nw cw pb nb cb) (st x:Int):FnC m 25 #[tbV b ps ns ks pw nw cw pb nb cb,.int .i64 st,.int .i64 x] h fun v h'=>h'=h∧v= .tuple [.agg [.int .i64 (jfe b false st x).1,.int .i64 (jfe b false st x).2].toArray,.int .i64 (jaO b (ownP b st x))].toArray:=by
 have hsl:b.sts.length=ns:=ra.s.elen zA
 have hns:=ra.sn
 refine jae Tryz.func25 rfl rfl (l:=(tbV b ps ns ks pw nw cw pb nb cb)::(.int .i64 st)::(.int .i64 x)::uu26) rfl ?_
 intro cf cs K hK
 refine Z2 ?_
 refine jaF rfl zq (fun q3=>jap (jad ?_));refine jaB rfl zq (fun q6=>jap (jad ?_));refine Z3 ?_;refine jbr [0,1,2,3,4,5,6,7,8,9,10] zK zK (gE _) ?_
 refine DrawT.split 3 8 zA (DrawT.split 4 8 zA ?_ ?_) ?_
 refine D78 ?_;refine Z3 ?_;refine D4 ?_
 rintro v nz ⟨qs,qa,rfl,rfl⟩;refine jaG (jad ?_);refine D2 ?_
 rintro v n8 ⟨qp,p8,m8,c8,rfl,hz⟩;refine jaG (jad ?_);refine Z3 ?_
 refine jaB rfl zq (fun q8=>jap (jad ?_));rotate_left
 refine D79 ?_;refine Z3 ?_;refine D4 ?_
 rintro v nz ⟨qs,qa,rfl,rfl⟩;refine jaG (jad ?_);refine jaB rfl zq (fun q8=>jap (jad ?_));refine D2 ?_
 rintro v n8 ⟨qp,p8,m8,c8,rfl,hz⟩;refine jaG (jad ?_);refine Z3 ?_
 rotate_left
 refine D80 ?_;refine Z3 ?_
 refine jaB rfl zq (fun q8=>jap (jad ?_));refine D4 ?_
 rintro v nz ⟨qs,qa,rfl,rfl⟩;refine jaG (jad ?_);refine D2 ?_
 rintro v n8 ⟨qp,p8,m8,c8,rfl,hz⟩;refine jaG (jad ?_);refine Z3 ?_
 all_goals
  refine D7 ?_;refine Z6 ?_
  refine jaP rfl zq (fun hc=>?_) (fun hc=>?_)
  ·refine Z4 ?_;refine D39 ?_;refine Zs ?_;refine jjr ?_;refine jac (h) rfl Tryz.func25 rfl jaa ?_;refine Zs ?_
   exact ⟨rfl,by rw [jfe,if_neg zD]⟩
  ·refine Z4 ?_
   have hz0:jaO b (ownP b st x)=0:=by first|assumption|omega
   obtain ⟨q9,rfl,sh,rfl,hc8,rdB⟩:=hz hz0
   obtain ⟨hzb,hzo,hzn⟩:=jdm hz0
   have hk:=jbH.1 hzb
   have hbl:=jbE hk
   have hpos:0<(jah b).length:=vX.2 hzn
   have hxm: ∀i,i<(jah b).length→(jah b).getD i []∈jah b:=fun i hi=>by rw [gC,gD hi];exact Gn _
   have hin0:=bdA_in hk (hxm 0 hpos) false st x
   refine Z4 ?_;refine jhy rfl zq ?_;refine Z2 ?_;refine jag (Post:=fun v=>v= .agg [.int .i64 (jp3 b false st x).1,.int .i64 (jp3 b false st x).2].toArray) rfl zq zK (fun H' hH=>f74_c m H' (rdB.keeps (sq hH)) hc8 ⟨hpos,by omega⟩ (f:=fun y=>bdA (cdT b) y false st x) callB75 (fun i hi K hK=>by simpa using f75_c m K (sh.keeps (SubH.sub.trans (hH.trans hK))) (jbZ (hxm i hi)) st x) hin0.1.2 hin0.2.1) ?_
   rintro v rfl;refine Zs ?_;refine jjr ?_;refine jac (h) rfl Tryz.func25 rfl jaa ?_;refine Zs ?_
   exact ⟨rfl,by rw [jfe,if_pos hz0,hz0]⟩
theorem callB76:jbM Tryz.prog 76=true:=by kernel_rfl
theorem f26_c (m:Md Tryz.prog B) (h:Hp) (ra:RawTb B h b ps ns ks pw nw cw pb nb cb) (st x:Int):FnC m 26 #[tbV b ps ns ks pw nw cw pb nb cb,.int .i64 st,.int .i64 x] h fun v h'=>h'=h∧v= .tuple [.agg [.int .i64 (jfe b true st x).1,.int .i64 (jfe b true st x).2].toArray,.int .i64 (jaO b (ownP b st x))].toArray:=by
 have hsl:b.sts.length=ns:=ra.s.elen zA
 have hns:=ra.sn
 refine jae Tryz.func26 rfl rfl (l:=(tbV b ps ns ks pw nw cw pb nb cb)::(.int .i64 st)::(.int .i64 x)::uu26) rfl ?_
 intro cf cs K hK
 refine Z2 ?_
 refine jaF rfl zq (fun q3=>jap (jad ?_));refine jaB rfl zq (fun q6=>jap (jad ?_));refine Z3 ?_;refine jbr [0,1,2,3,4,5,6,7,8,9,10] zK zK (gE _) ?_
 refine DrawT.split 3 8 zA (DrawT.split 4 8 zA ?_ ?_) ?_
 refine D78 ?_;refine Z3 ?_;refine D4 ?_
 rintro v nz ⟨qs,qa,rfl,rfl⟩;refine jaG (jad ?_);refine D2 ?_
 rintro v n8 ⟨qp,p8,m8,c8,rfl,hz⟩;refine jaG (jad ?_);refine Z3 ?_
 refine jaB rfl zq (fun q8=>jap (jad ?_));rotate_left
 refine D79 ?_;refine Z3 ?_;refine D4 ?_
 rintro v nz ⟨qs,qa,rfl,rfl⟩;refine jaG (jad ?_);refine jaB rfl zq (fun q8=>jap (jad ?_));refine D2 ?_
 rintro v n8 ⟨qp,p8,m8,c8,rfl,hz⟩;refine jaG (jad ?_);refine Z3 ?_
 rotate_left
 refine D80 ?_;refine Z3 ?_
 refine jaB rfl zq (fun q8=>jap (jad ?_));refine D4 ?_
 rintro v nz ⟨qs,qa,rfl,rfl⟩;refine jaG (jad ?_);refine D2 ?_
 rintro v n8 ⟨qp,p8,m8,c8,rfl,hz⟩;refine jaG (jad ?_);refine Z3 ?_
 all_goals
  refine D7 ?_;refine Z6 ?_
  refine jaP rfl zq (fun hc=>?_) (fun hc=>?_)
  ·refine Z4 ?_;refine D39 ?_;refine Zs ?_;refine jjr ?_;refine jac (h) rfl Tryz.func26 rfl jaa ?_;refine Zs ?_
   exact ⟨rfl,by rw [jfe,if_neg zD]⟩
  ·refine Z4 ?_
   have hz0:jaO b (ownP b st x)=0:=by first|assumption|omega
   obtain ⟨q9,rfl,sh,rfl,hc8,rdB⟩:=hz hz0
   obtain ⟨hzb,hzo,hzn⟩:=jdm hz0
   have hk:=jbH.1 hzb
   have hbl:=jbE hk
   have hpos:0<(jah b).length:=vX.2 hzn
   have hxm: ∀i,i<(jah b).length→(jah b).getD i []∈jah b:=fun i hi=>by rw [gC,gD hi];exact Gn _
   have hin0:=bdA_in hk (hxm 0 hpos) true st x
   refine Z4 ?_;refine jhy rfl zq ?_;refine Z2 ?_;refine jag (Post:=fun v=>v= .agg [.int .i64 (jp3 b true st x).1,.int .i64 (jp3 b true st x).2].toArray) rfl zq zK (fun H' hH=>f74_c m H' (rdB.keeps (sq hH)) hc8 ⟨hpos,by omega⟩ (f:=fun y=>bdA (cdT b) y true st x) callB76 (fun i hi K hK=>by simpa using f76_c m K (sh.keeps (SubH.sub.trans (hH.trans hK))) (jbZ (hxm i hi)) st x) hin0.1.2 hin0.2.1) ?_
   rintro v rfl;refine Zs ?_;refine jjr ?_;refine jac (h) rfl Tryz.func26 rfl jaa ?_;refine Zs ?_
   exact ⟨rfl,by rw [jfe,if_pos hz0,hz0]⟩
end
section
variable [LaidO B]
theorem jga (L:List Bo) (i:Nat): ∀(l:List Bo) (s:Nat),s≤(l.foldl (fun s x=>match xA x i with|some v=>max s (jfG L i v)|none=>s) s)∧(∀x∈l,∀v,xA x i=some v→jfG L i v≤(l.foldl (fun s x=>match xA x i with|some v=>max s (jfG L i v)|none=>s) s))∧((l.foldl (fun s x=>match xA x i with|some v=>max s (jfG L i v)|none=>s) s)=s∨ ∃x∈l,∃v,xA x i=some v∧(l.foldl (fun s x=>match xA x i with|some v=>max s (jfG L i v)|none=>s) s)=jfG L i v)
 |[],s=>⟨gL _,by simp,.inl rfl⟩
 |x::l,s=>by
  rw [VX];cases hx:xA x i with
  |none=>
   obtain ⟨h1,h2,h3⟩:=jga L i l s
   refine ⟨h1,fun y hy v hv=>?_,h3.imp id fun ⟨y,hy,h⟩=>⟨y,gN _ hy,h⟩⟩
   rcases gO.1 hy with rfl|hy
   ·rw [hx] at hv
    cases hv
   ·exact h2 y hy v hv
  |some u=>
   obtain ⟨h1,h2,h3⟩:=jga L i l (max s (jfG L i u))
   simp only
   refine ⟨by omega,fun y hy v hv=>?_,?_⟩
   ·rcases gO.1 hy with rfl|hy
    ·rw [hx] at hv
     cases hv
     omega
    ·exact h2 y hy v hv
   ·rcases h3 with h3|⟨y,hy,h⟩
    ·rcases (by omega:max s (jfG L i u)=s∨max s (jfG L i u)=jfG L i u) with e|e
     ·exact .inl (h3.trans e)
     ·exact .inr ⟨x,by simp,u,hx,h3.trans e⟩
    ·exact .inr ⟨y,gN _ hy,h⟩
theorem leftA_ge {x:Bo} (hx:x∈L) (hv:xA x i=some v):jfG L i v≤jdx L i:=(jga L i L 0).2.1 x hx v hv
theorem jf9 (L:List Bo) (i:Nat):jdx L i=0∨ ∃x∈L,∃v,xA x i=some v∧jdx L i=jfG L i v:=(jga L i L 0).2.2
theorem jeL (L:List Bo) (i:Nat) (v:Int):jfG L i v≤jdx L i:=by
 by_cases h: ∃x∈L,xA x i=some v
 ·obtain ⟨x,hx,hv⟩:=h
  exact leftA_ge hx hv
 ·have:jfG L i v=0:=by
   rw [jfG,xM];intro x hx hh
   exact h ⟨x,hx,of_decide_eq_true hh⟩
  omega
theorem jgp (L:List Bo) (i:Nat) (x:Bo) (v:Int):jfG (L++[x]) i v=jfG L i v+if xA x i=some v then 1 else 0:=by
 rw [jfG,VD,Vz];simp [jfG]
theorem jix {x:Bo} (h:xA x i=none):jdx (L++[x]) i=jdx L i:=by
 have e: ∀v,jfG (L++[x]) i v=jfG L i v:=fun v=>by rw [jgp,h];simp
 refine Nat.le_antisymm ?_ ?_
 ·rcases jf9 (L++[x]) i with h1|⟨y,_,v,_,h1⟩
  ·omega
  ·rw [h1,e];exact jeL L i v
 ·rcases jf9 L i with h1|⟨y,_,v,_,h1⟩
  ·omega
  ·rw [h1,←e];exact jeL _ i v
theorem jiw {x:Bo} {u:Int} (h:xA x i=some u):jdx (L++[x]) i=max (jdx L i) (jfG L i u+1):=by
 have e: ∀v,jfG (L++[x]) i v=jfG L i v+if u=v then 1 else 0:=fun v=>by rw [jgp,h];simp
 refine Nat.le_antisymm ?_ ?_
 ·rcases jf9 (L++[x]) i with h1|⟨y,_,v,_,h1⟩
  ·omega
  ·rw [h1,e];have:=jeL L i v
   split
   ·rename_i e2
    subst e2
    omega
   ·omega
 ·have h1:=jeL (L++[x]) i u
  rw [e,if_pos rfl] at h1
  have h2:jdx L i≤jdx (L++[x]) i:=by
   rcases jf9 L i with h1|⟨y,_,v,_,h1⟩
   ·omega
   ·have:=jeL (L++[x]) i v
    rw [e] at this
    omega
  omega
theorem joD (h:j<L.length):L.take (j+1)=L.take j++[L.getD j []]:=by
 rw [Gg,gD h,gC,gD h];rfl
theorem leftA_le (L:List Bo) (i:Nat):jdx L i≤L.length:=by
 rcases jf9 L i with h|⟨x,_,v,_,h⟩
 ·omega
 ·rw [h];exact vJ
theorem jr3 (L:List Bo): ∀k,(jmp L k).2≤L.length
 |0=>gL _
 |k+1=>by
  have:=jr3 L k
  rw [jgs,jg4];split
  ·simp only
   omega
  ·exact this
def cOfA (b:Tb) (o:Option Nat):Ce:=match o with|some j=>(jab b).getD j default|none=>default
def askR (b:Tb):Option Nat×Nat:=if jaO b 0=0 then jmp (jah b) (jab b).length else (none,0)
theorem callB77:jbM Tryz.prog 77=true:=by kernel_rfl
instance {c:Ce}:At (ceL c) 0 (.bool c.butt):=⟨rfl⟩
theorem f27_c (m:Md Tryz.prog B) (h:Hp) (ra:RawTb B h b ps ns ks pw nw cw pb nb cb):FnC m 27 #[tbV b ps ns ks pw nw cw pb nb cb] h fun v h'=>h'=h∧v= .tuple [ceV (cOfA b (askR b).1),.int .i64 ((askR b).2:Int),.bool (askR b).1.isSome,.int .i64 (jaO b 0)].toArray:=by
 refine jae Tryz.func27 rfl rfl (l:=(tbV b ps ns ks pw nw cw pb nb cb)::uu77) rfl ?_
 intro cf cs K hK
 refine Z2 ?_
 refine jaF rfl zq (fun q1=>jap (jad ?_));refine jaB rfl zq (fun q2=>jap (jad ?_));refine Z7 ?_;refine jaJ rfl zq zK (Post:=fun v nz=>jg6 B b (tbL b ps ns ks pw nw cw pb nb cb) (jaO b 0) nz v) (fun H' hH=>f50_c m H' (ra.keeps (sq hH)) callB77 (fun hk K q hKs hs=>by simpa using f77_c m K _)) ?_
 rintro v n8 ⟨qp,p8,m8,c8,rfl,hz⟩;refine jaG (jad ?_);refine Z3 ?_
 refine jaB rfl zq (fun q6=>jap (jad ?_));refine D7 ?_;refine Z6 ?_
 refine jaP rfl zq (fun hc=>?_) (fun hc=>?_)
 ·refine Z4 ?_;refine D39 ?_;refine Zs ?_;refine D7 ?_;refine Z5 ?_;refine jac (h) rfl Tryz.func27 rfl jaa ?_;refine Zs ?_
  exact ⟨rfl,by rw [askR,if_neg zD];rfl⟩
 ·refine Z4 ?_
  have hz0:jaO b 0=0:=by first|assumption|omega
  obtain ⟨q9,rfl,sh,rfl,hc8,rdB⟩:=hz hz0
  obtain ⟨hzb,hzo,hzn⟩:=jdm hz0
  have hk:=jbH.1 hzb
  have hbl:=jbE hk
  have h12:=jba hk
  obtain ⟨pc,cc,hcv,hcc,hcr⟩:=sh.cells
  refine Z13 ?_;refine D70 ?_;refine Z4 ?_
  refine jaf (fun nn l h'=> ∃(i:Nat) (fd:Bool),nn=(jab b).length-i∧(i≤(jab b).length)∧(fd=(jmp (jah b) i).1.isSome)∧(∃U:Nat→Value,l=((tbV b ps ns ks pw nw cw pb nb cb)::(U 1)::(.pointer (some ⟨q2,0,none⟩))::(.int .i64 ((jmp (jah b) i).2:Int))::(.bool fd)::(U 5)::(.pointer (some ⟨q6,0,none⟩))::vw22 U 7 ((.slice pc (jab b).length cc)::(.int .i64 ((jab b).length:Int))::(.int .i64 (i:Int))::vw46 U 32 [])))∧h++[⟨true,q1,.cells (tbL b ps ns ks pw nw cw pb nb cb).toArray 25 (0,0)⟩,⟨true,q2,.cells (ceL (cOfA b (jmp (jah b) i).1)).toArray 28 (0,0)⟩]++n8++[⟨true,q6,.cells [.pointer (some ⟨q9,0,none⟩),.slice p8 (jah b).length c8].toArray 93 (0,0)⟩]=h') _ ⟨0,false,rfl,by omega,rfl,exU rfl,rfl⟩ ?_;rintro nn l h' ⟨i,fd,rfl,hi,hfd,⟨U,rfl⟩,rfl⟩ hnext1;have hal:=jr3 (jah b) i
  refine Z2 ?_
  refine jak rfl zq (fun hc=>?_) (fun hc=>?_)
  ·refine Z7 ?_
   obtain ⟨pcb,pco,hpc⟩:=hcr.ptr zO
   have hcr':=hcr
   rw [hpc] at hcr'
   refine Z2 ?_;refine D99 ?_;refine jca (vs:=ceL ((jab b).getD i default)) rfl zq rfl (hcr'.eat i zO zO) ?_
   refine jaB rfl zq (fun q8=>jap (jad ?_));refine Zs ?_;refine jjr ?_
   refine k_mkmapI rfl zq (fun qm=>jap (jad ?_));refine Z15 ?_
   refine jaf (fun nn l h'=> ∃(j:Nat) (es:List (Int×Int)),nn=(jah b).length-j∧(j≤(jah b).length)∧(∀v,cntI es v=(jfG ((jah b).take j) i v:Int))∧(∃U:Nat→Value,l=((tbV b ps ns ks pw nw cw pb nb cb)::(U 1)::(.pointer (some ⟨q2,0,none⟩))::(.int .i64 ((jmp (jah b) i).2:Int))::(.bool fd)::(U 5)::(.pointer (some ⟨q6,0,none⟩))::(.int .i64 (i:Int))::(.pointer (some ⟨q8,0,none⟩))::(.map (some qm))::(.int .i64 (jdx ((jah b).take j) i:Int))::vw18 U 11 ((.slice pc (jab b).length cc)::(.int .i64 ((jab b).length:Int))::(.int .i64 (i:Int))::vw6 U 32 ((.slice p8 (jah b).length c8)::(.int .i64 ((jah b).length:Int))::(.int .i64 (j:Int))::vw37 U 41 []))))∧h++[⟨true,q1,.cells (tbL b ps ns ks pw nw cw pb nb cb).toArray 25 (0,0)⟩,⟨true,q2,.cells (ceL (cOfA b (jmp (jah b) i).1)).toArray 28 (0,0)⟩]++n8++[⟨true,q6,.cells [.pointer (some ⟨q9,0,none⟩),.slice p8 (jah b).length c8].toArray 93 (0,0)⟩,⟨true,q8,.cells (ceL ((jab b).getD i default)).toArray 28 (0,0)⟩,⟨true,qm,jqZ es⟩]=h') _ ⟨0,[],rfl,by omega,fun v=>rfl,exU rfl,rfl⟩ ?_;rintro nn l h' ⟨j,es,rfl,hj,hes,⟨U,rfl⟩,rfl⟩ hnext2;have hlt:=leftA_le ((jah b).take j) i
   have hlj:=xP j (jah b)
   refine Z2 ?_
   refine jak rfl zq (fun hc=>?_) (fun hc=>?_)
   ·refine Z7 ?_
    obtain ⟨rb,ro,hrp⟩:=rdB.ptr zO
    have rdB':=rdB
    rw [hrp] at rdB'
    have hxm:(jah b).getD j []∈jah b:=by rw [gC,gD zO];exact Gn _
    have hxl:=jbZ hxm
    have htk:=joD (L:=jah b) (j:=j) zO
    refine Zs ?_;refine D69 ?_;refine D88 ?_
    obtain ⟨x,hx⟩: ∃x,x=(jah b).getD j []:=⟨_,rfl⟩
    rw [←hx] at hxm hxl htk⊢
    have hxb:=jcO (x:=x) zO
    refine jaB rfl zq (fun q12=>jap (jad ?_));refine jlP rfl zq (jaL x) ?_;refine Z6 ?_;refine jag (Post:=fun v=>IsB _ v) rfl zq zK (fun H' hH=>f37_b m H' (jcA x) i hxb zO) ?_;rintro v (⟨hc,rfl⟩|⟨hc,rfl⟩)
    ·refine Z10 ?_
     have hxn:xA x i=none:=by
      have e:=hc
      rw [jhk zO] at e
      exact Gh.1 e
     have hls:jdx ((jah b).take (j+1)) i=jdx ((jah b).take j) i:=by rw [htk];exact jix hxn
     rw [←hls];exact m.weak jaa (hnext2 _ _ _ zO ⟨j+1,es,rfl,by omega,fun v=>by rw [hes v,htk,jgp,hxn];simp,exU rfl,rfl⟩)
    ·refine Zs ?_
     obtain ⟨u,hxv⟩: ∃u,xA x i=some u:=by
      cases e:xA x i with
      |none=>exact absurd (by rw [jhk zO,e];rfl) hc
      |some v=>exact ⟨v,rfl⟩
     refine Z9 ?_;refine jaI rfl zq (bo_at i zO) ?_
     rw [hxv,GB];refine jlR (k:=3) (e:=3) zK zK rfl zq ?_;refine jo9 rfl zq (by
      have h1:=hes u
      have h2:jfG ((jah b).take j) i u≤_:=vJ
      unfold jep
      omega) ?_
     refine jrd (k:=3) (e:=3) zK zK rfl zq ?_;refine Z7 ?_;refine jaI rfl zq (bo_at i zO) ?_;rw [hxv,GB];refine jlR (k:=3) (e:=3) zK zK rfl zq ?_;refine jrc rfl zq ?_;refine Z7 ?_;have hls:jdx ((jah b).take (j+1)) i=max (jdx ((jah b).take j) i) (jfG ((jah b).take j) i u+1):=by rw [htk];exact jiw hxv
     rw [jmi,if_pos rfl,show max (jdx ((jah b).take j) i:Int) (cntI es u+1)=((jdx ((jah b).take (j+1)) i:Nat):Int) by rw [hls,hes];omega];exact m.weak jaa (hnext2 _ _ _ zO ⟨j+1,jjq es u (cntI es u+1),rfl,by omega,fun v=>by
      rw [jmi,htk,jgp,hxv,hes,hes];by_cases e:v=u
      ·subst e
       simp
      ·rw [if_neg e,if_neg (by simp;exact fun a=>e a.symm)];simp,exU rfl,rfl⟩)
   ·refine Z5 ?_
    obtain rfl:j=(jah b).length:=by omega
    rw [GQ] at hlt⊢
    refine Z2 ?_
    refine jaz rfl zq (fun hc=>?_) (fun hc=>?_)
    ·refine Z3 ?_
     refine jak rfl rfl (fun hc=>?_) (fun hc=>?_);refine Z6 ?_;refine jjr ?_
     rotate_left
     refine Z4 ?_
     all_goals
      refine Z5 ?_
     ·have hst:jmp (jah b) (i+1)=jmp (jah b) i:=by rw [jgs,jg4,if_neg zO]
      rw [←hst];exact E61
     ·have hst:jmp (jah b) (i+1)=(some i,jdx (jah b) i):=by rw [jgs,jg4,if_pos ⟨by omega,by omega⟩]
      rw [show (jdx (jah b) i:Int)=(((jmp (jah b) (i+1)).2:Nat):Int) by rw [hst],show (jab b).getD i default=cOfA b (jmp (jah b) (i+1)).1 by rw [hst];rfl];exact m.weak jaa (hnext1 _ _ _ zO ⟨i+1,true,rfl,by omega,by rw [hst];rfl,exU rfl,rfl⟩)
    ·refine Z13 ?_
     have hst:jmp (jah b) (i+1)=jmp (jah b) i:=by rw [jgs,jg4,if_neg zO]
     rw [←hst];exact E61
  ·refine Z9 ?_;refine D7 ?_;refine Z5 ?_;refine jac (h) rfl Tryz.func27 rfl jaa ?_;refine Zs ?_
   obtain rfl:i=(jab b).length:=by omega
   exact ⟨rfl,by rw [askR,if_pos hz0,hz0,hfd]⟩
end
section
variable [LaidO B]
section
variable {m:Md P B} {ops:Array Oper} {l l':List Value} {S h h' H:Hp} {C:List Value→Hp→Prop} {kd:Kd} {r:List (Nat×Kd)} {d:Option Tmp} {ty:TypeId} {pos:String} {af:Array Edge} {g:Option (Nat×Bool)}
omit [LaidO B] in
theorem joT {t e:TypeId} {dd:Nat} (ht:P.underlying t=some (.slice e)) (p:Option Addr) (n c:Nat):Reads P B (Op.equalIn (dd+1) t (.slice p n c) (.slice none 0 0)) h p.isNone:=by
 unfold Op.equalIn
 refine Reads.bind (jai ht).reads ?_
 cases p with
 |none=>exact Reads.pure _
 |some a=>exact Reads.pure _
omit [LaidO B] in
theorem jgd {t e u:TypeId} {x:Operand} {c:Nat} (ho:ops[i]?=some ⟨d,.binOp .eql t x (.const (.slice none 0 0)) u,ty,pos,af,g⟩) (hw:Wt ops l g) [KHeap kd S h H] [ex:OpV l x (.slice p n c)] (ht:P.underlying t=some (.slice e)) [PutV l d (.bool p.isNone) l'] (c:RegK m S ops r l' h C):RegK m S ops ((i,kd)::r) l h C:=
 RegK.rd (v:= .bool p.isNone) ho hw (by
  have ey:ev l (.const (.slice none 0 0))= .slice none 0 0:=rfl
  simp only [execOp,ex.eq,ey]
  refine Reads.value (Reads.bind (a:=()) ?_ ?_)
  ·exact Reads.pure _
  ·show Reads P B (Op.equal t (.slice p n _) (.slice none 0 0)>>=fun b=>pure (Value.bool b)) H _
   exact Reads.bind (joT (dd:=9999) ht p n _) (Reads.pure _)) c
end
theorem jcK {v:Value} {new:Hp} (o:OwnS t k v n cs new) (h0:0<n): ∃q cap junk,v= .slice (some ⟨q,0,none⟩) n cap∧new=[⟨true,q,.cells (cs++junk).toArray t (0,0)⟩]∧cs.length=n*k∧cs.length+junk.length=cap*k∧n≤cap:=by
 cases o with
 |nil=>omega
 |blk hl hc hn=>exact ⟨_,_,_,rfl,by simp,hl,hc,hn⟩
theorem jnF {c:Nat} (rd:RdS B h k (.slice none n c) n ys):ys=[]:=by
 obtain ⟨p',c',e,hl,hr⟩:=rd
 rcases hr with ⟨_,rfl⟩|⟨b,o,e2,_⟩
 ·exact GO.1 zO
 ·cases e
  cases e2
theorem jlJ (t k q:Nat):OwnS t k (.slice (some ⟨q,0,none⟩) 0 0) 0 [] [⟨true,q,.cells ([]:List Value).toArray t (0,0)⟩]:=OwnS.blk (cs:=[]) (junk:=[]) zS zS (gL 0)
inductive OwnF:List Lp→Hp→Prop
 |nil:OwnF [] []
 |snoc {xs:List Lp} {M F:Hp} {x:Lp} (o:OwnF xs M) (f:OwnS 9 1 (.slice x.p x.ln.figs.length x.c) x.ln.figs.length (jay x.ln.figs) F):OwnF (xs++[x]) (M++F)
theorem OwnF.at (o:OwnF xs M) (hk:k<xs.length): ∃M1 F M2,M=M1++F++M2∧OwnS 9 1 (.slice (xs.getD k default).p (xs.getD k default).ln.figs.length (xs.getD k default).c) (xs.getD k default).ln.figs.length (jay (xs.getD k default).ln.figs) F∧ ∀x' F',OwnS 9 1 (.slice x'.p x'.ln.figs.length x'.c) x'.ln.figs.length (jay x'.ln.figs) F'→OwnF (xs.set k x') (M1++F'++M2):=by
 induction o with
 |nil=>simp at hk
 | @snoc xs M F x o f ih=>
  rw [gJ,GX] at hk
  by_cases e:k<xs.length
  ·obtain ⟨M1,F1,M2,rfl,h1,h2⟩:=ih e
   refine ⟨M1,F1,M2++F,by simp only [gG],?_,fun x' F' hf=>?_⟩
   ·rw [show (xs++[x]).getD k default=xs.getD k default by rw [jgg,if_pos e]];exact h1
   ·rw [vq _ _ e,←gG];exact .snoc (h2 x' F' hf) f
  ·obtain rfl:k=xs.length:=by omega
   refine ⟨M,F,[],by rw [gd],?_,fun x' F' hf=>?_⟩
   ·rw [show (xs++[x]).getD xs.length default=x by rw [jgg,if_neg zO,if_pos rfl]];exact f
   ·rw [vQ _ _ (gL _),VM,List.set_cons_zero,gd];exact .snoc o hf
theorem OwnF.rd (o:OwnF xs M): ∀x∈xs,x.ln.figs.length≤x.c∧RdS B M 1 (.slice x.p x.ln.figs.length x.c) x.ln.figs.length (jay x.ln.figs):=by
 induction o with
 |nil=>simp
 | @snoc xs M F x o f ih=>
  intro y hy
  rcases gQ.1 hy with hy|hy
  ·exact ⟨(ih y hy).1,(ih y hy).2.keeps (gI _ _)⟩
  ·obtain rfl:y=x:=by simpa using hy
   exact ⟨f.cap,f.rd (gM _ _)⟩
def HalfO (v:Value) (n:Nat) (lns:List Ln) (M:Hp):Prop:= ∃(lps:List Lp) (lp:Option Addr) (lc:Nat) (W FM:Hp),v= .slice lp n lc∧lps.map (·.ln)=lns∧OwnS 114 2 (.slice lp n lc) n (jay lps) W∧OwnF lps FM∧M=W++FM
theorem HalfO.rd {v:Value} (o:HalfO v n lns M): ∃p c,v= .slice p n c∧RdLn B M (.slice p n c) n lns:=by
 obtain ⟨lps,lp,lc,W,FM,rfl,e,ow,of',rfl⟩:=o
 exact ⟨lp,lc,rfl,lps,e,ow.rd (gI _ _),fun x hx=>⟨(of'.rd (B:=B) x hx).1,fun _=>(of'.rd x hx).2.keeps (gM _ _)⟩⟩
theorem jiQ {α:Type} [Enc α k] [Inhabited α] (xs:List α) (i:Nat) (h:i<xs.length) (x:α):jay (xs.set i x)=(jay xs).take (i*k)++Enc.enc x++(jay xs).drop ((i+1)*k):=by
 have e:xs.set i x=xs.take i++[x]++xs.drop (i+1):=by rw [Gi,if_pos h];simp
 rw [e,jaX,jaX,jmd,jiR];simp [jay]
theorem jbx (xs:List Lp):(jay xs).length=xs.length*2:=jaW xs
theorem jq0 (xs:List Lp) (i:Nat) (h:i<xs.length) (j:Nat) (hj:j<2):(jay xs)[i*2+j]?=(lpL (xs.getD i default))[j]?:=by
 have e:xs=xs.take i++[xs.getD i default]++xs.drop (i+1):=by
  rw [gG,Vw];rw [gC,gD h];simp
 have e2:jay xs=jay (xs.take i)++lpL (xs.getD i default)++jay (xs.drop (i+1)):=by
  conv=>lhs;rw [e]
  rw [jaX,jaX];simp only [jay,gd]
  rfl
 have hl:(jay (xs.take i)).length=i*2:=by rw [jbx,GH];congr 1;omega
 rw [e2,gG,gm zO,hl,show i*2+j-i*2=j by omega,ge zN]
theorem jlt (h:i<xs.length) {x:Lp} (hln:x.ln=(xs.getD i default).ln):SetSeg (jay xs++junk) (0+(i:Int).toNat*2+1) [.slice x.p x.ln.figs.length x.c] (jay (xs.set i x)++junk):=by
 have hl:=jbx xs
 refine jcI zN ?_
 rw [gb,GD,vq _ _ zO];congr 1
 refine List.ext_getElem? fun a=>?_
 rw [jiQ xs i h,vo];have h1:=jq0 xs i h 0 zO
 have hlt:((jay xs).take (i*2)).length=i*2:=by rw [GH];omega
 by_cases e:i*2+1=a
 ·subst e
  rw [if_pos rfl,if_pos zO,gG,gm zO,hlt,show i*2+1-i*2=1 by omega];rfl
 ·rw [if_neg e];by_cases e1:a<i*2
  ·rw [gG,ge zO,GZ,if_pos e1]
  ·by_cases e2:a=i*2
   ·subst e2
    rw [gG,gm zO,hlt,VM,show i*2=i*2+0 by omega,h1];show some (Value.int .i64 x.ln.lat)=_
    rw [hln];rfl
   ·have hen:(Enc.enc x).length=2:=rfl
    rw [gG,gm zO,hlt,gm (by rw [hen];omega),hen,vK];congr 1
    omega
theorem jdh (h:i<xs.length) {x:Lp} (hx:lpL x=lpL (xs.getD i default)):jay (xs.set i x)=jay xs:=by
 rw [jiQ xs i h];have e:=jiQ xs i h (xs.getD i default)
 have hs:xs.set i (xs.getD i default)=xs:=by
  rw [gC,gD h];simp
 rw [hs] at e
 conv=>rhs;rw [e]
 show _++lpL x++_=_++lpL _++_
 rw [hx]
theorem f113_c (m:Md Tryz.prog B) (h:Hp) {c:Nat} (rd:RdS B h 1 (.slice p n c) n (jay ss)) (hn:n≤1000):FnC m 113 #[.slice p n c] h fun v h'=> ∃new,h'=h++new∧OwnS 9 1 v n (jay ss) new:=by
 refine jae Tryz.func113 rfl rfl (l:=(.slice p n c)::uu7) rfl ?_
 intro cf cs K hK
 refine Z8 ?_
 rcases (by cases p<;>simp:p=none∨ ∃pa,p=some pa) with rfl|⟨pa,rfl⟩
 ·refine jgd (e:=9) rfl zq zK ?_;refine Z7 ?_;refine jac (h) rfl Tryz.func113 rfl jaa ?_;refine Zs ?_;have hys:=jnF rd
  have hn0:n=0:=by
   have h1:=rd.elen zA
   have h2:=congrArg List.length hys
   rw [jaW,h1] at h2
   simp at h2
   omega
  subst hn0
  rw [hys];exact ⟨[],by simp,OwnS.nil⟩
 ·refine jgd (e:=9) rfl zq zK ?_;refine Z5 ?_;refine jfa kdq rfl zq (fun q5=>jap (jad ?_));refine Zs ?_
  refine jgQ (F:=h) rfl zq (Weak.refl B _) (jlJ 9 1 q5) (rd.keeps SubH.sub) (jdJ ss) (.inl rfl) zO zO (fun v' new' o'=>jad ?_);rw [GD,GI] at o'
  refine Z3 ?_;refine jac (h++new') rfl Tryz.func113 rfl jaa ?_;refine Zs ?_
  exact ⟨new',rfl,o'⟩
theorem f114_c (m:Md Tryz.prog B) (h:Hp) {c:Nat} {ss:List Lp} (rd:RdS B h 2 (.slice p n c) n (jay ss)) (hn:n≤1000):FnC m 114 #[.slice p n c] h fun v h'=> ∃new,h'=h++new∧OwnS 114 2 v n (jay ss) new:=by
 refine jae Tryz.func114 rfl rfl (l:=(.slice p n c)::uu7) rfl ?_
 intro cf cs K hK
 refine Z8 ?_
 rcases (by cases p<;>simp:p=none∨ ∃pa,p=some pa) with rfl|⟨pa,rfl⟩
 ·refine jgd (e:=114) rfl zq zK ?_;refine Z7 ?_;refine jac (h) rfl Tryz.func114 rfl jaa ?_;refine Zs ?_;have hys:=jnF rd
  have hn0:n=0:=by
   have h1:=rd.elen zA
   have h2:=congrArg List.length hys
   rw [jaW,h1] at h2
   simp at h2
   omega
  subst hn0
  rw [hys];exact ⟨[],by simp,OwnS.nil⟩
 ·refine jgd (e:=114) rfl zq zK ?_;refine Z5 ?_;refine jfa kdq rfl zq (fun q5=>jap (jad ?_));refine Zs ?_
  refine jgQ (F:=h) rfl zq (Weak.refl B _) (jlJ 114 2 q5) (rd.keeps SubH.sub) (jdJ ss) (.inl rfl) zO zO (fun v' new' o'=>jad ?_);rw [GD,GI] at o'
  refine Z3 ?_;refine jac (h++new') rfl Tryz.func114 rfl jaa ?_;refine Zs ?_
  exact ⟨new',rfl,o'⟩
end
section
variable [LaidO B]
theorem lp_rd {rw:Bool} {fr:Nat×Nat} [hh:Has h q rw (.cells (jay xs++junk).toArray t fr)] {j:Int} (hj:j=i) (hi:i<xs.length):Rd B h ⟨q,0+j.toNat*2+1,none⟩ (.slice (xs.getD i default).p (xs.getD i default).ln.figs.length (xs.getD i default).c):=by
 subst hj
 refine Rd.held hh.mem ?_
 have:=jbx xs
 rw [gZ,ge zO,show 0+(i:Int).toNat*2+1=i*2+1 by omega,jq0 xs i hi 1 zO];rfl
theorem jhi {y:Lp} (hy:y.ln=(xs.getD i default).ln):(xs.set i y).map (·.ln)=xs.map (·.ln):=by
 refine vE zS fun a h1 h2=>?_
 simp only [vw,List.getElem_set]
 split
 ·rename_i e
  subst e
  rw [hy,gC,gD (by simpa using h2)];rfl
 ·rfl
theorem jlh (h:i<xs.length) (y:Lp):(xs.set i y).take (i+1)=xs.take i++[y]:=by
 rw [Gi,if_pos h,List.take_append,GH,show i+1-min i xs.length=1 by omega];simp [List.take_take]
theorem jl1 (h:i≠j) (y:Lp):(xs.set i y).getD j default=xs.getD j default:=by
 rw [gC,vM h,gC]
theorem jgA {j:Int} (hj:j=i) (h:i<ss.length) (s:Str):SetSeg (jay ss++junk) (0+j.toNat*1) [str s] (jay (ss.set i s)++junk):=by
 subst hj
 have hl:(jay ss).length=ss.length:=by rw [jaW,GK]
 refine jcI zN ?_
 rw [gb,GD,GK,vq _ _ zO,jdg,jdg,Vf]
theorem jod {c:Ce} (hi:i<2) (h:c.butt=decide (i=1)):hL (jdR b c f) i=jpQ (hL b i) c.line.toNat c.st.toNat f:=by
 rw [jkP _ hi,jkP _ hi,jjE,if_pos h.symm]
theorem jrs {c:Ce} (hi:i<2) (h:c.butt≠decide (i=1)):hL (jdR b c f) i=hL b i:=by
 rw [jkP _ hi,jkP _ hi,jjE,if_neg (fun e=>h e.symm)]
theorem jpP (h: ∀l∈ls,l.figs.length≤1000∧ ∀f∈l.figs,f.length≤100000) (hf:f.length≤100000): ∀l∈jpQ ls i k f,l.figs.length≤1000∧ ∀f∈l.figs,f.length≤100000:=by
 intro l hl
 rcases List.mem_or_eq_of_mem_set hl with hl|rfl
 ·exact h l hl
 ·have hd:(ls.getD i default).figs.length≤1000∧ ∀f∈(ls.getD i default).figs,f.length≤100000:=by
   by_cases hi:i<ls.length
   ·exact h _ (jal hi)
   ·rw [gC,gl zO];exact ⟨Vr _,fun f hf=>by cases hf⟩
  refine ⟨by simpa using hd.1,fun g hg=>?_⟩
  rcases List.mem_or_eq_of_mem_set hg with hg|rfl
  ·exact hd.2 g hg
  ·exact hf
theorem setF_sm (h:TbSm b) {c:Ce} (hf:f.length≤100000):TbSm (jdR b c f):=by
 unfold jdR
 split
 ·exact ⟨h.sts,h.wat,jpP h.but hf⟩
 ·exact ⟨h.sts,jpP h.wat hf,h.but⟩
theorem jhA (A W M:Hp) (x:Chunk):Weak B (A++[x]++W++M) (A++(W++M)):=by
 rw [gG (A++[x])];exact (Weak.sub ((gI A [x]).append_right _))
theorem jhG (e:xs.map (·.ln)=ls) (h:i<xs.length) (f:Str) (p:Option Addr) (c:Nat):(xs.set i ⟨⟨(xs.getD i default).ln.lat,(xs.getD i default).ln.figs.set k f⟩,p,c⟩).map (·.ln)=jpQ ls i k f:=by
 subst e
 rw [jpQ,Vf];congr 1
 have:(xs.map (·.ln)).getD i default=(xs.getD i default).ln:=by
  rw [gC,ga,gD h,gC,gD h];rfl
 rw [this]
theorem f81_c (m:Md Tryz.prog B) (h:Hp) (rd:RdTb B h b ps ns ks pw nw cw pb nb cb) {c:Ce} (hc0:jeu b c=true) (f:Str) (hf:f.length≤100000):FnC m 81 #[tbV b ps ns ks pw nw cw pb nb cb,cV c.butt c.line c.st,str f] h fun v h'=> ∃new ps' ks' pw' cw' pb' cb',h'=h++new∧v=tbV (jdR b c f) ps' ns ks' pw' nw cw' pb' nb cb'∧RawTb B new (jdR b c f) ps' ns ks' pw' nw cw' pb' nb cb':=by
 have hsl0:=rd.sl
 have hn1:=rd.n1
 have hn3:=rd.n3
 have hw2:=rd.w2
 have hb2:=rd.b2
 refine jae Tryz.func81 rfl rfl (l:=(tbV b ps ns ks pw nw cw pb nb cb)::(cV c.butt c.line c.st)::(str f)::uu64) rfl ?_
 intro cf cs K hK
 refine Z2 ?_
 refine jaF rfl zq (fun q3=>jap (jad ?_));refine jaF rfl zq (fun q4=>jap (jad ?_));refine jaB rfl zq (fun q6=>jap (jad ?_));refine Z5 ?_;refine jaJ rfl zq zK (Post:=fun v nz=>OwnS 9 1 v ns (jay b.sts) nz) (fun H' hH=>f113_c m H' (rd.s.keeps (sq hH)) zO) ?_
 rintro v n14 o14;refine jaG (jad ?_);obtain ⟨p14,c14,rfl,hc14,r14⟩:=jas (B:=B) o14
 refine Zs ?_;refine D9 ?_;refine Z4 ?_;refine jca (vs:=halvesL) rfl zq rfl jfB ?_;refine Z3 ?_
 refine jaf (fun nn l h'=> ∃(i:Nat) (wp:Option Addr) (wc:Nat) (bp:Option Addr) (bc:Nat) (M0 M1:Hp),nn=2-i∧(i≤2)∧(i=0→pw=wp∧cw=wc∧M0=[])∧(i≤1→pb=bp∧cb=bc∧M1=[])∧(1≤i→HalfO (.slice wp nw wc) nw (hL (jdR b c f) 0) M0)∧(2≤i→HalfO (.slice bp nb bc) nb (hL (jdR b c f) 1) M1)∧(∃U:Nat→Value,l=((tbV b ps ns ks pw nw cw pb nb cb)::(cV c.butt c.line c.st)::(str f)::(.pointer (some ⟨q3,0,none⟩))::(.pointer (some ⟨q4,0,none⟩))::(U 5)::(.pointer (some ⟨q6,0,none⟩))::vw9 U 7 ((.agg halvesL.toArray)::(.int .i64 (i:Int))::vw49 U 18 [])))∧h++[⟨true,q3,.cells [.int .i64 b.wrong,.slice p14 ns c14,.slice wp nw wc,.slice bp nb bc].toArray 25 (0,0)⟩,⟨true,q4,.cells [.bool c.butt,.int .i64 c.line,.int .i64 c.st].toArray 28 (0,0)⟩,⟨true,q6,.cells [.int .i64 0,.slice none 0 0,.slice none 0 0,.slice none 0 0].toArray 25 (0,0)⟩]++n14++M0++M1=h') _ ⟨0,pw,cw,pb,cb,[],[],rfl,by omega,fun _=>⟨rfl,rfl,rfl⟩,fun _=>⟨rfl,rfl,rfl⟩,fun e=>by omega,fun e=>by omega,exU rfl,(by rw [gd,gd])⟩ ?_;rintro nn l h' ⟨i,wp,wc,bp,bc,M0,M1,rfl,hi,hz0,hz1,hz2,hz3,⟨U,rfl⟩,rfl⟩ hnext1;refine Z2 ?_
 refine jak rfl zq (fun hc=>?_) (fun hc=>?_)
 ·refine Z7 ?_
  rcases (by omega:i=0∨i=1) with rfl|rfl
  obtain ⟨rfl,rfl,rfl⟩:=hz0 rfl
  obtain ⟨rfl,rfl,rfl⟩:=hz1 zO
  obtain ⟨lps0,hle,rl,hfig⟩:=rd.w
  have hll:=rl.elen zA
  replace hle:lps0.map (·.ln)=hL b 0:=hle
  have hwf: ∀l∈hL b 0,l.figs.length=ns∧ ∀f∈l.figs,jbw f=true:=rd.wf
  rw [gd,gd];refine Zs ?_;refine jn3 rfl zq zO zO (jiF 0 zO) ?_
  refine jaB rfl zq (fun q8=>jap (jad ?_));refine D7 ?_;refine Z5 ?_;refine jfi (Post:=fun v=>v= .pointer (some ⟨q3,2,none⟩)) rfl zq (jiG 0 zO) (fun H' hH=>jrt m H' q3 0 zO) ?_
  rintro v rfl;refine Z9 ?_;refine jaJ rfl zq zK (Post:=fun v nz=>OwnS 114 2 v nw (jay lps0) nz) (fun H' hH=>f114_c m H' (rl.keeps (sq hH)) zO) ?_
  rotate_left
  obtain ⟨rfl,rfl,rfl⟩:=hz1 zO
  have hh0:=hz2 zO
  obtain ⟨lps0,hle,rl,hfig⟩:=rd.u
  have hll:=rl.elen zA
  replace hle:lps0.map (·.ln)=hL b 1:=hle
  have hwf: ∀l∈hL b 1,l.figs.length=ns∧ ∀f∈l.figs,jbw f=true:=rd.bf
  rw [gd];refine Zs ?_;refine jn3 rfl zq zO zO (jiF 1 zO) ?_
  refine jaB rfl zq (fun q8=>jap (jad ?_));refine D7 ?_;refine Z5 ?_;refine jfi (Post:=fun v=>v= .pointer (some ⟨q3,3,none⟩)) rfl zq (jiG 1 zO) (fun H' hH=>jrt m H' q3 1 zO) ?_
  rintro v rfl;refine Z9 ?_;refine jaJ rfl zq zK (Post:=fun v nz=>OwnS 114 2 v nb (jay lps0) nz) (fun H' hH=>f114_c m H' (rl.keeps (sq hH)) zO) ?_
  all_goals
   rintro v n27 o27;refine jaG (jad ?_);obtain ⟨p27,c27,rfl,hc27,r27⟩:=jas (B:=B) o27
   refine Zs ?_;refine D9 ?_;refine Z11 ?_
  ·refine jaf (fun nn l h'=> ∃(k:Nat) (lps:List Lp) (W FM:Hp),nn=nb-k∧(k≤nb)∧(lps.length=nb)∧(lps.map (·.ln)=hL b 1)∧(∀j,k≤j→lps.getD j default=lps0.getD j default)∧(OwnS 114 2 (.slice p27 nb c27) nb (jay lps) W)∧(OwnF (lps.take k) FM)∧(∃U:Nat→Value,l=((tbV b ps ns ks pw nw cw pb nb cb)::(cV c.butt c.line c.st)::(str f)::(.pointer (some ⟨q3,0,none⟩))::(.pointer (some ⟨q4,0,none⟩))::(U 5)::(.pointer (some ⟨q6,0,none⟩))::(U 7)::(.pointer (some ⟨q8,0,none⟩))::(.pointer (some ⟨q3,3,none⟩))::vw6 U 10 ((.agg halvesL.toArray)::(.int .i64 1)::vw13 U 18 ((.slice p27 nb c27)::(.int .i64 (nb:Int))::(.int .i64 (k:Int))::vw33 U 34 []))))∧h++[⟨true,q3,.cells [.int .i64 b.wrong,.slice p14 ns c14,.slice wp nw wc,.slice p27 nb c27].toArray 25 (0,0)⟩,⟨true,q4,.cells [.bool c.butt,.int .i64 c.line,.int .i64 c.st].toArray 28 (0,0)⟩,⟨true,q6,.cells [.int .i64 0,.slice none 0 0,.slice none 0 0,.slice none 0 0].toArray 25 (0,0)⟩]++n14++M0++[⟨true,q8,.cells [str (hwS 1),.bool (decide (1=1)),.func (.func (207+1)) #[] #[]].toArray 135 (0,0)⟩]++W++FM=h') _ ⟨0,lps0,n27,[],rfl,by omega,hll,hle,fun j _=>rfl,o27,by rw [xT];exact .nil,exU rfl,(by rw [gd])⟩ ?_;rintro nn l h' ⟨k,lps,W,FM,rfl,hk,hlen,hmap,hsame,how,hof,⟨U,rfl⟩,rfl⟩ hnext2;refine Z2 ?_
   refine jak rfl zq (fun hc=>?_) (fun hc=>?_)
   ·refine Z7 ?_
    have rdW:=how.rd (B:=B) (gE _)
    obtain ⟨bl,lc1,junk,hwv,rfl,hwl,hwc,hwn⟩:=jcK how zO
    cases hwv
    have hxk:=hsame k (gL k)
    obtain ⟨x,hx⟩: ∃x,x=lps0.getD k default:=⟨_,rfl⟩
    rw [←hx] at hxk
    have hxm:x∈lps0:=hx▸jal zO
    obtain ⟨hxc,rdf0⟩:=hfig x hxm
    have hxf:x.ln.figs.length=ns:=(hwf x.ln (by rw [←hle];exact gP.2 ⟨x,hxm,rfl⟩)).1
    have rdf:=rdf0 (by have:=rd.n1;omega)
    refine Z2 ?_;refine D11 ?_;refine jca (vs:=lpL x) rfl zq rfl (hxk▸rdW.eat k zO zO) ?_
    refine jaB rfl zq (fun q11=>jap (jad ?_));refine Zs ?_;refine D7 ?_;refine Zs ?_;refine D66 ?_;refine Z6 ?_;refine D85 ?_
    rintro v n44 o44;refine jaG (jad ?_);obtain ⟨p44,c44,rfl,hc44,r44⟩:=jas (B:=B) o44
    refine D11 ?_;refine Zs ?_
    haveI hsl2:=jlt (xs:=lps) (junk:=junk) (i:=k) zO (x:=⟨x.ln,p44,c44⟩) (by rw [hxk])
    refine D9 ?_;refine Z6 ?_;refine m.weak (h':=h++[⟨true,q3,.cells [.int .i64 b.wrong,.slice p14 ns c14,.slice wp nw wc,.slice (some ⟨bl,0,none⟩) nb c27].toArray 25 (0,0)⟩,⟨true,q4,.cells [.bool c.butt,.int .i64 c.line,.int .i64 c.st].toArray 28 (0,0)⟩,⟨true,q6,.cells [.int .i64 0,.slice none 0 0,.slice none 0 0,.slice none 0 0].toArray 25 (0,0)⟩]++n14++M0++[⟨true,q8,.cells [str (hwS 1),.bool (decide (1=1)),.func (.func (207+1)) #[] #[]].toArray 135 (0,0)⟩]++[⟨true,bl,.cells (jay (lps.set k ⟨x.ln,p44,c44⟩)++junk).toArray 114 (0,0)⟩]++(FM++n44)) jey ?_
    exact E62
   ·refine Z10 ?_
    obtain rfl:nb=k:=by omega
    rw [gh zO] at hof
    refine jge rfl zq zK (fun hbt=>?_) (fun hbt=>?_)
    ·refine Z2 ?_
     have hbe:c.butt=decide (1=1):=hbt.symm
     have hce:=jgU.1 hc0
     have hlL:c.line.toNat<lps.length:=by
      have h1:(jbo b c.butt).length=nb:=by rw [hbe,←jkP b zO,←hmap,gU,hlen]
      omega
     obtain ⟨li,hli⟩:=Gs hce.1
     obtain ⟨sj,hsj⟩:=Gs hce.2.2.1
     obtain ⟨M1f,Fb,M2f,rfl,hofb,hset⟩:=hof.at hlL
     obtain ⟨bl,lc1,junk,hwv,rfl,hwl,hwc,hwn⟩:=jcK how zO
     cases hwv
     rw [show c.line.toNat=li by omega] at hlL hofb hset
     obtain ⟨y,hy⟩: ∃y,y=lps.getD li default:=⟨_,rfl⟩
     rw [←hy] at hofb
     have hyl:y.ln∈hL b 1:=by rw [←hmap];exact gP.2 ⟨y,hy▸jal hlL,rfl⟩
     have hyf:y.ln.figs.length=ns:=(hwf y.ln hyl).1
     obtain ⟨bf,fc,junkf,hfv,rfl,hfl,hfc,hfn⟩:=jcK hofb zO
     injection hfv with hyp _ hyc
     haveI hsf:=jgA (ss:=y.ln.figs) (junk:=junkf) (j:=c.st) (i:=sj) hsj zO f
     refine D51 ?_;refine Z7 ?_;refine D11 ?_;refine Zs ?_;refine jaI rfl zq (lp_rd (xs:=lps) (junk:=junk) hli hlL) ?_
     rw [←hy];refine Zs ?_;refine D129 ?_;refine D9 ?_;refine Z6 ?_
     have hy2:OwnS 9 1 (.slice y.p (y.ln.figs.set sj f).length y.c) (y.ln.figs.set sj f).length (jay (y.ln.figs.set sj f)) [⟨true,bf,.cells (jay (y.ln.figs.set sj f)++junkf).toArray 9 (0,0)⟩]:=by
      rw [hyp,hyc];exact E63
     have hnew:=hset ⟨⟨y.ln.lat,y.ln.figs.set sj f⟩,y.p,y.c⟩ _ hy2
     have hHalf:HalfO (.slice (some ⟨bl,0,none⟩) nb c27) nb (hL (jdR b c f) 1) ([⟨true,bl,.cells (jay lps++junk).toArray 114 (0,0)⟩]++(M1f++[⟨true,bf,.cells (jay (y.ln.figs.set sj f)++junkf).toArray 9 (0,0)⟩]++M2f)):=by
      refine ⟨_,_,_,_,_,rfl,?_,?_,hnew,rfl⟩
      ·rw [jod zO hbe,show c.line.toNat=li by omega,show c.st.toNat=sj by omega];have:=jhG hmap hlL (k:=sj) f y.p y.c
       rw [←hy] at this
       exact this
      ·rw [jdh hlL (by rw [←hy];simp [lpL])];exact how
     refine m.weak (h':=h++[⟨true,q3,.cells [.int .i64 b.wrong,.slice p14 ns c14,.slice wp nw wc,.slice (some ⟨bl,0,none⟩) nb c27].toArray 25 (0,0)⟩,⟨true,q4,.cells [.bool c.butt,.int .i64 c.line,.int .i64 c.st].toArray 28 (0,0)⟩,⟨true,q6,.cells [.int .i64 0,.slice none 0 0,.slice none 0 0,.slice none 0 0].toArray 25 (0,0)⟩]++n14++M0++([⟨true,bl,.cells (jay lps++junk).toArray 114 (0,0)⟩]++(M1f++[⟨true,bf,.cells (jay (y.ln.figs.set sj f)++junkf).toArray 9 (0,0)⟩]++M2f))) (jhA _ _ _ _) ?_
     exact E64
    ·refine Z8 ?_
     have hHalf:HalfO (.slice p27 nb c27) nb (hL (jdR b c f) 1) (W++FM):=⟨lps,p27,c27,W,FM,rfl,by rw [jrs zO (fun e=>hbt e.symm)];exact hmap,how,hof,rfl⟩
     refine m.weak (h':=h++[⟨true,q3,.cells [.int .i64 b.wrong,.slice p14 ns c14,.slice wp nw wc,.slice p27 nb c27].toArray 25 (0,0)⟩,⟨true,q4,.cells [.bool c.butt,.int .i64 c.line,.int .i64 c.st].toArray 28 (0,0)⟩,⟨true,q6,.cells [.int .i64 0,.slice none 0 0,.slice none 0 0,.slice none 0 0].toArray 25 (0,0)⟩]++n14++M0++(W++FM)) (jhA _ _ _ _) ?_
     exact E64
  ·refine jaf (fun nn l h'=> ∃(k:Nat) (lps:List Lp) (W FM:Hp),nn=nw-k∧(k≤nw)∧(lps.length=nw)∧(lps.map (·.ln)=hL b 0)∧(∀j,k≤j→lps.getD j default=lps0.getD j default)∧(OwnS 114 2 (.slice p27 nw c27) nw (jay lps) W)∧(OwnF (lps.take k) FM)∧(∃U:Nat→Value,l=((tbV b ps ns ks pw nw cw pb nb cb)::(cV c.butt c.line c.st)::(str f)::(.pointer (some ⟨q3,0,none⟩))::(.pointer (some ⟨q4,0,none⟩))::(U 5)::(.pointer (some ⟨q6,0,none⟩))::(U 7)::(.pointer (some ⟨q8,0,none⟩))::(.pointer (some ⟨q3,2,none⟩))::vw6 U 10 ((.agg halvesL.toArray)::(.int .i64 0)::vw13 U 18 ((.slice p27 nw c27)::(.int .i64 (nw:Int))::(.int .i64 (k:Int))::vw33 U 34 []))))∧h++[⟨true,q3,.cells [.int .i64 b.wrong,.slice p14 ns c14,.slice p27 nw c27,.slice pb nb cb].toArray 25 (0,0)⟩,⟨true,q4,.cells [.bool c.butt,.int .i64 c.line,.int .i64 c.st].toArray 28 (0,0)⟩,⟨true,q6,.cells [.int .i64 0,.slice none 0 0,.slice none 0 0,.slice none 0 0].toArray 25 (0,0)⟩]++n14++[⟨true,q8,.cells [str (hwS 0),.bool (decide (0=1)),.func (.func (207+0)) #[] #[]].toArray 135 (0,0)⟩]++W++FM=h') _ ⟨0,lps0,n27,[],rfl,by omega,hll,hle,fun j _=>rfl,o27,by rw [xT];exact .nil,exU rfl,(by rw [gd])⟩ ?_;rintro nn l h' ⟨k,lps,W,FM,rfl,hk,hlen,hmap,hsame,how,hof,⟨U,rfl⟩,rfl⟩ hnext2;refine Z2 ?_
   refine jak rfl zq (fun hc=>?_) (fun hc=>?_)
   ·refine Z7 ?_
    have rdW:=how.rd (B:=B) (gE _)
    obtain ⟨bl,lc1,junk,hwv,rfl,hwl,hwc,hwn⟩:=jcK how zO
    cases hwv
    have hxk:=hsame k (gL k)
    obtain ⟨x,hx⟩: ∃x,x=lps0.getD k default:=⟨_,rfl⟩
    rw [←hx] at hxk
    have hxm:x∈lps0:=hx▸jal zO
    obtain ⟨hxc,rdf0⟩:=hfig x hxm
    have hxf:x.ln.figs.length=ns:=(hwf x.ln (by rw [←hle];exact gP.2 ⟨x,hxm,rfl⟩)).1
    have rdf:=rdf0 (by have:=rd.n1;omega)
    refine Z2 ?_;refine D11 ?_;refine jca (vs:=lpL x) rfl zq rfl (hxk▸rdW.eat k zO zO) ?_
    refine jaB rfl zq (fun q11=>jap (jad ?_));refine Zs ?_;refine D7 ?_;refine Zs ?_;refine D66 ?_;refine Z6 ?_;refine D85 ?_
    rintro v n44 o44;refine jaG (jad ?_);obtain ⟨p44,c44,rfl,hc44,r44⟩:=jas (B:=B) o44
    refine D11 ?_;refine Zs ?_
    haveI hsl2:=jlt (xs:=lps) (junk:=junk) (i:=k) zO (x:=⟨x.ln,p44,c44⟩) (by rw [hxk])
    refine D9 ?_;refine Z6 ?_;refine m.weak (h':=h++[⟨true,q3,.cells [.int .i64 b.wrong,.slice p14 ns c14,.slice (some ⟨bl,0,none⟩) nw c27,.slice pb nb cb].toArray 25 (0,0)⟩,⟨true,q4,.cells [.bool c.butt,.int .i64 c.line,.int .i64 c.st].toArray 28 (0,0)⟩,⟨true,q6,.cells [.int .i64 0,.slice none 0 0,.slice none 0 0,.slice none 0 0].toArray 25 (0,0)⟩]++n14++[⟨true,q8,.cells [str (hwS 0),.bool (decide (0=1)),.func (.func (207+0)) #[] #[]].toArray 135 (0,0)⟩]++[⟨true,bl,.cells (jay (lps.set k ⟨x.ln,p44,c44⟩)++junk).toArray 114 (0,0)⟩]++(FM++n44)) jey ?_
    exact E62
   ·refine Z10 ?_
    obtain rfl:nw=k:=by omega
    rw [gh zO] at hof
    refine jge rfl zq zK (fun hbt=>?_) (fun hbt=>?_)
    ·refine Z2 ?_
     have hbe:c.butt=decide (0=1):=hbt.symm
     have hce:=jgU.1 hc0
     have hlL:c.line.toNat<lps.length:=by
      have h1:(jbo b c.butt).length=nw:=by rw [hbe,←jkP b zO,←hmap,gU,hlen]
      omega
     obtain ⟨li,hli⟩:=Gs hce.1
     obtain ⟨sj,hsj⟩:=Gs hce.2.2.1
     obtain ⟨M1f,Fb,M2f,rfl,hofb,hset⟩:=hof.at hlL
     obtain ⟨bl,lc1,junk,hwv,rfl,hwl,hwc,hwn⟩:=jcK how zO
     cases hwv
     rw [show c.line.toNat=li by omega] at hlL hofb hset
     obtain ⟨y,hy⟩: ∃y,y=lps.getD li default:=⟨_,rfl⟩
     rw [←hy] at hofb
     have hyl:y.ln∈hL b 0:=by rw [←hmap];exact gP.2 ⟨y,hy▸jal hlL,rfl⟩
     have hyf:y.ln.figs.length=ns:=(hwf y.ln hyl).1
     obtain ⟨bf,fc,junkf,hfv,rfl,hfl,hfc,hfn⟩:=jcK hofb zO
     injection hfv with hyp _ hyc
     haveI hsf:=jgA (ss:=y.ln.figs) (junk:=junkf) (j:=c.st) (i:=sj) hsj zO f
     refine D51 ?_;refine Z7 ?_;refine D11 ?_;refine Zs ?_;refine jaI rfl zq (lp_rd (xs:=lps) (junk:=junk) hli hlL) ?_
     rw [←hy];refine Zs ?_;refine D129 ?_;refine D9 ?_;refine Z6 ?_
     have hy2:OwnS 9 1 (.slice y.p (y.ln.figs.set sj f).length y.c) (y.ln.figs.set sj f).length (jay (y.ln.figs.set sj f)) [⟨true,bf,.cells (jay (y.ln.figs.set sj f)++junkf).toArray 9 (0,0)⟩]:=by
      rw [hyp,hyc];exact E63
     have hnew:=hset ⟨⟨y.ln.lat,y.ln.figs.set sj f⟩,y.p,y.c⟩ _ hy2
     have hHalf:HalfO (.slice (some ⟨bl,0,none⟩) nw c27) nw (hL (jdR b c f) 0) ([⟨true,bl,.cells (jay lps++junk).toArray 114 (0,0)⟩]++(M1f++[⟨true,bf,.cells (jay (y.ln.figs.set sj f)++junkf).toArray 9 (0,0)⟩]++M2f)):=by
      refine ⟨_,_,_,_,_,rfl,?_,?_,hnew,rfl⟩
      ·rw [jod zO hbe,show c.line.toNat=li by omega,show c.st.toNat=sj by omega];have:=jhG hmap hlL (k:=sj) f y.p y.c
       rw [←hy] at this
       exact this
      ·rw [jdh hlL (by rw [←hy];simp [lpL])];exact how
     refine m.weak (h':=h++[⟨true,q3,.cells [.int .i64 b.wrong,.slice p14 ns c14,.slice (some ⟨bl,0,none⟩) nw c27,.slice pb nb cb].toArray 25 (0,0)⟩,⟨true,q4,.cells [.bool c.butt,.int .i64 c.line,.int .i64 c.st].toArray 28 (0,0)⟩,⟨true,q6,.cells [.int .i64 0,.slice none 0 0,.slice none 0 0,.slice none 0 0].toArray 25 (0,0)⟩]++n14++([⟨true,bl,.cells (jay lps++junk).toArray 114 (0,0)⟩]++(M1f++[⟨true,bf,.cells (jay (y.ln.figs.set sj f)++junkf).toArray 9 (0,0)⟩]++M2f))) (jhA _ _ _ _) ?_
     exact E65
    ·refine Z8 ?_
     have hHalf:HalfO (.slice p27 nw c27) nw (hL (jdR b c f) 0) (W++FM):=⟨lps,p27,c27,W,FM,rfl,by rw [jrs zO (fun e=>hbt e.symm)];exact hmap,how,hof,rfl⟩
     refine m.weak (h':=h++[⟨true,q3,.cells [.int .i64 b.wrong,.slice p14 ns c14,.slice p27 nw c27,.slice pb nb cb].toArray 25 (0,0)⟩,⟨true,q4,.cells [.bool c.butt,.int .i64 c.line,.int .i64 c.st].toArray 28 (0,0)⟩,⟨true,q6,.cells [.int .i64 0,.slice none 0 0,.slice none 0 0,.slice none 0 0].toArray 25 (0,0)⟩]++n14++(W++FM)) (jhA _ _ _ _) ?_
     exact E65
 ·refine Z5 ?_
  obtain rfl:i=2:=by omega
  obtain ⟨_,_,hw1,hwr⟩:=(hz2 zO).rd (B:=B)
  cases hw1
  obtain ⟨_,_,hb1,hbr⟩:=(hz3 zO).rd (B:=B)
  cases hb1
  refine Z2 ?_;refine D7 ?_;refine Z2 ?_;refine jac (h++n14++M0++M1) rfl Tryz.func81 rfl jaa ?_;refine Zs ?_
  exact ⟨n14++M0++M1,p14,c14,wp,wc,bp,bc,by simp only [gG],by rw [tbV,tbL,setF_wrong],⟨by rw [jnx];exact r14.keeps (Gj (gI _ _) (gI _ _)),hc14,by omega,hwr.keeps (Gj (gM _ _) (gI _ _)),by omega,hbr.keeps (gM _ _),by omega,setF_sm rd.sm hf⟩⟩
end
section
variable [LaidO B]
def jja (b:Tb) (c:Ce) (f:Str):Int:=if tbS b≠0 then tbS b else if c∉jab b then 6 else if jbc f=false then 3 else 0
def jpL (b:Tb) (c:Ce) (f:Str):List Int:=if jja b c f=0 then jau (jcG b c) else [0,0,0]
def jqP (b:Tb) (c:Ce) (f:Str):List Int:=if jja b c f=0 then jau f else [0,0,0]
theorem jl8 {c:Ce} (h:jja b c f=0):tbS b=0∧c∈jab b∧jbc f=true:=by
 unfold jja at h
 split at h
 ·contradiction
 ·rename_i h1
  split at h
  ·cases h
  ·rename_i h2
   split at h
   ·cases h
   ·rename_i h3
    exact ⟨Gq.1 h1,Gq.1 h2,by simpa using h3⟩
abbrev zeroL:List Value:=[.int .i64 0,.slice none 0 0,.slice none 0 0,.slice none 0 0]
def TabO (B:Array Obj) (s:Int) (b:Tb) (new:Hp) (v:Value):Prop:= ∃x0 y1 z1 w1 y2 z2 w2 y3 z3 w3,v= .tuple [.agg [Value.int .i64 x0,.slice y1 z1 w1,.slice y2 z2 w2,.slice y3 z3 w3].toArray,.int .i64 s].toArray∧(s≠0→[Value.int .i64 x0,.slice y1 z1 w1,.slice y2 z2 w2,.slice y3 z3 w3]=zeroL)∧(s=0→ ∃ps ns ks pw nw cw pb nb cb,[Value.int .i64 x0,.slice y1 z1 w1,.slice y2 z2 w2,.slice y3 z3 w3]=tbL b ps ns ks pw nw cw pb nb cb∧RawTb B new b ps ns ks pw nw cw pb nb cb)
theorem jmC (h:s≠0):TabO B s b [] (.tuple [.agg zeroL.toArray,.int .i64 s].toArray):=⟨_,_,_,_,_,_,_,_,_,_,rfl,fun _=>rfl,fun e=>absurd e h⟩
theorem jnk {p o:List Int} (hp:PtOk p) (ho:PtOk o):PtOk (jex p o):=by
 have e: ∀j,j<3→(jex p o).getD j 0=if p.getD j 0= -1 then o.getD j 0 else p.getD j 0:=fun j hj=>by
  rw [jex,gC,ga,Gp hj];rfl
 refine ⟨by simp [jex],fun j=>?_,fun j hj=>?_⟩
 ·by_cases hj:j<3
  ·rw [e j hj];split
   ·exact ho.lo j
   ·exact hp.lo j
  ·rw [gC,gl (by simp [jex];omega)];decide
 ·rw [e j hj];split
  ·exact ho.hi j hj
  ·exact hp.hi j hj
theorem digS_le (n:Nat):(digS n).length≤2:=by unfold digS;split<;>simp
theorem jil (x:Int):(jeq x).length≤2:=by unfold jeq;split;simp;exact digS_le _
theorem textS_le {v:List Int} (h:v.length=3):(jeD v).length≤8:=by
 match v,h with
 |[a,b,c],_=>
  have h1:=jil a
  have h2:=jil b
  have h3:=jil c
  simp [jeD,jpa]
  omega
def jfH (b:Tb) (c:Ce) (f:Str):List Int:=jex (jpL b c f) (jqP b c f)
def jkw (b:Tb) (c:Ce) (f:Str):Int:=if jja b c f≠0 then jja b c f else if jex (jqP b c f) (jpL b c f)≠jfH b c f then 9 else jaO (jdR b c (jeD (jfH b c f))) 0
def putS (b:Tb) (c:Ce) (f:Str):Int:=if jja b c f≠0 then jja b c f else jaO (jdR b c f) 0
theorem callB112:jbM Tryz.prog 112=true:=by kernel_rfl
theorem lp_get2 (h:lps.map (·.ln)=ls) (k:Nat):(lps.getD k default).ln=ls.getD k default:=by
 subst h
 rw [gC,gC,ga];cases lps[k]?<;>rfl
theorem figT_sm (h:TbSm b) (c:Ce):(jcG b c).length≤100000:=by
 have gen: ∀ls:List Ln,(∀l∈ls,l.figs.length≤1000∧ ∀f∈l.figs,f.length≤100000)→ ∀i j,((ls.getD i default).figs.getD j []).length≤100000:=fun ls hl i j=>by
  by_cases hi:i<ls.length
  ·by_cases hj:j<(ls.getD i default).figs.length
   ·exact (hl _ (jal hi)).2 _ (jal (l:=(ls.getD i default).figs) hj)
   ·rw [gC (l:=(ls.getD i default).figs),gl zO];simp
  ·rw [gC (l:=ls),gl zO];simp [default,instInhabitedLn.default]
 unfold jcG jcF jbo
 split
 ·exact gen _ h.but _ _
 ·exact gen _ h.wat _ _
theorem f78_c (m:Md Tryz.prog B) (h:Hp) (ra:RawTb B h b ps ns ks pw nw cw pb nb cb) (c:Ce) (f:Str) (hf:f.length≤100000):FnC m 78 #[tbV b ps ns ks pw nw cw pb nb cb,cV c.butt c.line c.st,str f] h fun v h'=>h'=h∧v= .tuple [.agg (jaq (jpL b c f)).toArray,.agg (jaq (jqP b c f)).toArray,.int .i64 (jja b c f)].toArray:=by
 refine jae Tryz.func78 rfl rfl (l:=(tbV b ps ns ks pw nw cw pb nb cb)::(cV c.butt c.line c.st)::(str f)::uu58) rfl ?_
 intro cf cs K hK
 refine Z2 ?_
 refine jaF rfl zq (fun q3=>jap (jad ?_));refine jaF rfl zq (fun q4=>jap (jad ?_));refine jaB rfl zq (fun q6=>jap (jad ?_));refine jaB rfl zq (fun q7=>jap (jad ?_));refine Z6 ?_;refine D56 ?_
 rintro v rfl;refine Z6 ?_
 refine jaP rfl zq (fun hc=>?_) (fun hc=>?_)
 ·refine Z4 ?_;refine D52 ?_;refine D52 ?_;refine Zs ?_;refine D7 ?_;refine jjr ?_;refine D130 ?_;refine Zs ?_
  have eb:jja b c f=tbS b:=by rw [jja,if_pos hc]
  exact ⟨rfl,by rw [jpL,jqP,eb,if_neg hc,if_neg hc];rfl⟩
 ·refine Z5 ?_
  have hz0:tbS b=0:=by omega
  have hk:=jbH.1 hz0
  refine jbr [0,1,2,3,4,5] zK zK (gE _) ?_;refine DrawT.leaf [Zr 0,Zr 2,Zk 1,Zk 3,Zk 4,Zp 5] zK ?_;refine Z2 ?_;refine D8 ?_;rintro v nz ⟨qs,rfl,rfl⟩;refine jaG (jad ?_);refine D19 ?_
  rintro v n9 ⟨q9,rfl,sh⟩;refine jaG (jad ?_);refine jfi (Post:=fun v=>v= .int .i64 (jdN b c)) rfl zq jrY (fun H' hH=>by
   have hs9:n9.Sublist H':=Gj zW hH
   simpa [jdN] using f95_c m H' (sh.keeps hs9) (c:=c) (RdN.keepsN (jnG (q:=qs)) hH)) ?_
  rintro v rfl;refine Z6 ?_
  refine jaP rfl zq (fun hc=>?_) (fun hc=>?_)
  ·refine Z4 ?_;refine D52 ?_;refine D52 ?_;refine Zs ?_;refine D7 ?_;refine jjr ?_;refine D130 ?_;refine Zs ?_
   have hno:c∉jab b:=fun e=>by
    have hcc:=hc
    rw [jdN,if_pos e] at hcc
    exact hcc rfl
   have e6:jja b c f=6:=by rw [jja,if_neg (fun e=>e hz0),if_pos hno]
   exact ⟨rfl,by rw [jpL,jqP,e6,jdN,if_neg hno];rfl⟩
  ·refine Z6 ?_;refine jag (Post:=fun v=>v=_) rfl zq zK (fun H' hH=>f67_c m H' _ hf) ?_
   rintro v rfl;refine Z4 ?_;refine D58 ?_;refine Z4 ?_
   cases hfo:jbc f
   refine Z7 ?_;refine D52 ?_;refine D52 ?_;refine D7 ?_
   haveI hsz:SetSeg (jaq (jau f)) 0 [.int .i64 0,.int .i64 0,.int .i64 0] [.int .i64 0,.int .i64 0,.int .i64 0]:=jjC (by rw [gU,(ja7 f).len];rfl)
   refine jjr ?_;refine D130 ?_;refine Zs ?_
   rotate_left
   refine Z7 ?_
   all_goals
    have hin:c∈jab b:=gw fun e=>by
     have hcc:=hc
     rw [jdN,if_neg e] at hcc
     omega
    have hht:=(jeT hin).1
   ·have hce:=jgU.1 hht
    obtain ⟨li,hli⟩:=Gs hce.1
    obtain ⟨sj,hsj⟩:=Gs hce.2.2.1
    have hf2:(jcG b c).length≤100000:=figT_sm ra.sm c
    have rd:=ra.rd hk
    have hsl:=rd.sl
    have e0:jja b c f=0:=by rw [jja,if_neg (fun e=>e hz0),if_neg (fun e=>e hin),if_neg (by rw [hfo];simp)]
    refine Z11 ?_
    refine jb7 (fun hc=>?_) (fun hc=>?_);first|replace hc:=of_decide_eq_true hc|replace hc:=of_decide_eq_false hc|skip
    refine Z5 ?_
    rotate_left
    first|replace hc:=of_decide_eq_true hc|replace hc:=of_decide_eq_false hc|skip
    refine Zs ?_
    all_goals
     refine Zs ?_;refine jan [Zp 0,Zp 1,Zp 6,Zr 2,Zp 3,Zp 4,Zr 5,Zr 7,Zp 8,Zr 9,Zk 10,Zp 11,Zp 12,Zp 13,Zf 14] zK zK (gE _) ?_
     have hlines: ∃p n c',RdLn B h (.slice p n c') n (jbo b c.butt)∧n≤1000∧(c.butt=true→p=pb∧n=nb∧c'=cb)∧(c.butt=false→p=pw∧n=nw∧c'=cw):=by
      cases hcb:c.butt with
      |true=>exact ⟨pb,nb,cb,ra.u,ra.un,fun _=>⟨rfl,rfl,rfl⟩,by intro e;cases e⟩
      |false=>exact ⟨pw,nw,cw,ra.w,ra.wn,(by intro e;cases e),fun _=>⟨rfl,rfl,rfl⟩⟩
     obtain ⟨pl,nl,cl,hln,hnl,hl1,hl2⟩:=hlines
     obtain ⟨lps,hle,rl,hfig⟩:=hln
     have hll:=rl.elen zA
     have hlen:(jbo b c.butt).length=nl:=by rw [←hle,gU,hll]
     have hlx:li<nl:=by omega
     obtain ⟨x,hx⟩: ∃x,x=lps.getD li default:=⟨_,rfl⟩
     have hxm:x∈lps:=hx▸jal zO
     obtain ⟨hxc,rdf0⟩:=hfig x hxm
     have hxl:x.ln=jcF b c:=by rw [hx,lp_get2 hle,jcF,show c.line.toNat=li by omega]
     have hxf:x.ln.figs.length=ns:=by rw [hxl,((hk.lines c.butt).ok _ (jhJ hht)).len,hsl]
     have hfg:jcG b c=x.ln.figs.getD sj []:=by rw [jcG,←hxl,show c.st.toNat=sj by omega]
     obtain ⟨rlb,rlo,hrlp⟩:=rl.ptr zO
     have rdf:=rdf0 zO
     obtain ⟨rfb,rfo,hrfp⟩:=rdf.ptr zO
     have rl':=rl
     rw [hrlp] at rl'
     have rdf':=rdf
     rw [hrfp] at rdf'
     first
      |(have hq:=hl1 hc;obtain ⟨rfl,rfl,rfl⟩:=hq)
      |(have hq:=hl2 hc;obtain ⟨rfl,rfl,rfl⟩:=hq)
     refine Z4 ?_;refine ja1 rfl zq hrlp zO zO ?_;refine Zs ?_;refine jaI (v:= .slice x.p x.ln.figs.length x.c) rfl zq (hx▸rl'.fat li 1 zO zO rfl) ?_;refine Zs ?_;refine ja1 rfl zq hrfp zO zO ?_;refine jaI rfl zq (rdf'.sat sj zO zO) ?_
     rw [←hfg];refine jag (Post:=fun v=>v= .tuple [.agg (jaq (jau (jcG b c))).toArray,.bool (jbc (jcG b c))].toArray) rfl zq zK (fun H' hH=>f67_c m H' _ hf2) ?_;rintro v rfl;refine Z4 ?_;refine D58 ?_;refine Z2 ?_
     haveI hs1:Seg (jaq (jau f)) 0 3 (jaq (jau f)):=seg_all (by rw [gU,(ja7 f).len])
     haveI hs2:Seg (jaq (jau (jcG b c))) 0 3 (jaq (jau (jcG b c))):=seg_all (by rw [gU,(ja7 (jcG b c)).len])
     refine jan (S:=[⟨true,q7,.cells (jaq (jau f)).toArray 117 (0,0)⟩]) [Zr 1,Zk 0,Zk 2,Zf 3,Zp 4] zK zK SubH.sub ?_;refine D43 ?_;refine D43 ?_;refine jer rfl zq (ja7 _).len (by rw [gU,(ja7 _).len]) ?_;refine jer rfl zq (ja7 _).len (by rw [gU,(ja7 _).len]) ?_;refine Z3 ?_;refine D130 ?_;refine Zs ?_;exact ⟨rfl,by rw [jpL,jqP,e0];rfl⟩
   ·have e3:jja b c f=3:=by rw [jja,if_neg (fun e=>e hz0),if_neg (fun e=>e hin),if_pos hfo]
    exact ⟨rfl,by rw [jpL,jqP,e3];rfl⟩
end
end Go.Proofs
