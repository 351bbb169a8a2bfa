/- A part of the proof of a law. Condition of each theorem: as its statement says. -/
import Derived.Test.YtggpepeiedkbbaaGreatDoorVR8
set_option linter.all false
variable {B:Array Go.Obj} {v s z st:Int} {i n q qx qm qc must N qw ns ks nw cw nb cb t fid k j:Nat} {l vs args tv a cs ys junk:List Go.Value} {P:Go.Program} {f:Go.Lo.Str} {h h0 H M:Go.Lo.Hp} {b:Go.Lo.Tb} {yv:Go.Value} {YI:List Go.Lo.Bo→Go.Lo.Hp→Prop} {YS:Go.Lo.Hp→Prop} {L:List Go.Lo.Bo} {ls lns:List Go.Lo.Ln} {ps pw pb p qv:Option Go.Addr} {xs lps:List Go.Lo.Lp} {ss:List Go.Lo.Str}
set_option maxHeartbeats 4000000
set_option maxRecDepth 100000
set_option synthInstance.maxHeartbeats 1000000
set_option synthInstance.maxSize 100000
namespace Go.Proofs
open Go.Lo
open Go.Conc (G)
section
variable [LaidO B]
theorem joS {D:List Cd} {x:Bo} {d:Cd} (h:x.length≤D.length):jaB d v D x=jaB d v (D.take x.length) x:=by
 have hl:x.length=(D.take x.length).length:=by rw [GN];omega
 have:=jdP (d:=d) (v:=v) (C:=D.drop x.length) hl
 rwa [Vr] at this
theorem jjl {D:List Cd} {x:Bo} (h:x.length<D.length) (h12:D.length≤12):fitsN D (jbX (x++[some v])) (jm9 (x++[some v])) x.length x.length↔jaB (dA D x.length) v D x=true:=by
 have hl:x.length=(D.take x.length).length:=by rw [GN];omega
 rw [joS zO,jda hl];have hv:(jm9 (x++[some v])).getD x.length 0=v:=by
  rw [jfc zO,xA,gB];simp
 have hj: ∀j,j<x.length→(jm9 (x++[some v])).getD j 0=(xA x j).getD 0:=fun j hj=>by
  rw [jfc zO,xA,xA,gB,gh hj,gB]
 have hd: ∀j,j<x.length→dA (D.take x.length) j=dA D j:=fun j hj=>by
  rw [dA,dA,gB,Gz,if_pos hj,gB]
 have hb: ∀j,j<x.length→((jbX (x++[some v])).testBit j=false↔ ∃u,xA x j=some u):=fun j hj=>by
  rw [jju,jcI];cases hx:xA x j with
  |none=>simp [hj]
  |some u=>simp
 constructor
 ·intro hh j u hu
  have hjl:j<x.length:=gu fun e=>by
   rw [xA,gB,ge zO] at hu
   cases hu
  have:=hh j hjl ((hb j hjl).2 ⟨u,hu⟩)
  rw [hv,hj j hjl,hu] at this
  rw [hd j hjl,jfv];exact this
 ·intro hh j hjl hbj
  obtain ⟨u,hu⟩:=(hb j hjl).1 hbj
  have:=hh j u hu
  rw [hd j hjl,jfv] at this
  rw [hv,hj j hjl,hu];exact this
theorem jni (s:Str):(jcr s).length≤960:=by
 rw [jcr];split
 ·rw [jhR,gY];have:=Gy (jef (jap s)) (List.range 960)
  rwa [List.length_range] at this
 ·simp
theorem jmv (b:Tb) (hi:i<(jac b).length):(dA (cdT b) i).can.length≤960:=by
 rw [jaq b hi];exact jni _
theorem bo_some {x:Bo} (h:x.length<12):SetSeg (boL x) (1+(x.length:Int).toNat*1) [.int .i64 v] (boL (x++[some v])):=by
 refine jct (by rw [jaG];omega) ?_
 rw [boL,boL,jju,jpU h,show 1+(x.length:Int).toNat*1=x.length+1 by omega,List.set_cons_succ,Va]
theorem jrk {x:Bo} (h:x.length<12):SetSeg (boL x) 0 [.int .u64 ((jbX x|||2^x.length:Nat):Int)] (boL (x++[none])):=by
 refine jct (by rw [jaG];omega) ?_
 rw [boL,boL,joO,jpV h,List.set_cons_zero]
instance {x:Bo}:Ones (boL x):=⟨jrl x⟩
instance {x:Bo}:LenIs (boL x) 13:=⟨jaG x⟩
instance {x:Bo}:At (boL x) 0 (.int .u64 (jbX x:Int)):=⟨rfl⟩
theorem seg_all (h:l.length=n):Seg l 0 n l:=⟨by rw [List.drop_zero];exact gf zO,h⟩
instance {x:Bo}:Seg (boL x) 0 13 (boL x):=seg_all (jaG x)
theorem ji0 {r:List Value} (h:l.length=r.length):SetSeg l 0 r r:=⟨by rw [gR zO];simp,by omega⟩
instance {v1 v2 v3 v4 v5 v6 v7 v8 v9 v10 v11 v12 v13:Value} {x:Bo}:SetSeg [v1,v2,v3,v4,v5,v6,v7,v8,v9,v10,v11,v12,v13] 0 (boL x) (boL x):=ji0 (by rw [jaG];rfl)
theorem CallV.fn' {m:Md P B} {f:FuncId} {first cap vs:Array Value} {Post:Value→Hp→Prop} (hf:jbE P f=true) (e:first++args.toArray++cap=vs) (c:FnC m f vs h Post):CallV m (.func (.func f) first cap) args h Post:=CallV.fn hf (e▸c)
theorem jhb:jbE Tryz.prog 180=true:=by kernel_rfl
def EachO {P:Program} {B:Array Obj} (m:Md P B) (h0:Hp) (G:List Bo) (N:Nat) (yv:Value) (YI:List Bo→Hp→Prop) (YS:Hp→Prop):Prop:=
 ∀(F R:Hp) (dn:List Bo) (x:Bo),h0.Sublist F→x∈G→dn.length<N→YI dn R→CallV m yv [boV x] (F++R) fun v h'=> ∃R',h'=F++R'∧((v= .bool true∧YI (dn++[x]) R')∨(v= .bool false∧YS R'))
theorem f180_c (m:Md Tryz.prog B) (sh:Sheet B h0 b q tv) (rx:Rd B h0 ⟨qx,0,none⟩ (.pointer (some ⟨q,0,none⟩))) {can:Nat} (rm:Rd B h0 ⟨qm,0,none⟩ (.int .u64 (must:Int))) (rc:Rd B h0 ⟨qc,0,none⟩ (.int .u64 (can:Int))) (hmu:must<4096) (hca:can<4096) [CellsV yv [yv]] {G:List Bo} (hY:EachO m h0 G N yv YI YS) (qy qn:Nat):
  ∀(d w:Nat) (x:Bo) (dn:List Bo) (X R:Hp),x.length+d=(jac b).length→w≤100→(∀y∈jdB (cdT b) can must d w x,y∈G)→dn.length+(jdB (cdT b) can must d w x).length≤N→YI dn R→
   FnC m 180 #[boV x,.int .i64 (x.length:Int),.int .i64 (w:Int),.pointer (some ⟨qx,0,none⟩),.pointer (some ⟨qy,0,none⟩),.pointer (some ⟨qm,0,none⟩),.pointer (some ⟨qn,0,none⟩),.pointer (some ⟨qc,0,none⟩)] (((h0++[⟨true,qy,.cells [yv].toArray 220 (0,0)⟩,⟨true,qn,.cells [.func (.func 180) #[] [.pointer (some ⟨qx,0,none⟩),.pointer (some ⟨qy,0,none⟩),.pointer (some ⟨qm,0,none⟩),.pointer (some ⟨qn,0,none⟩),.pointer (some ⟨qc,0,none⟩)].toArray].toArray 221 (0,0)⟩])++X)++R) fun v h'=> ∃R',h'=((h0++[⟨true,qy,.cells [yv].toArray 220 (0,0)⟩,⟨true,qn,.cells [.func (.func 180) #[] [.pointer (some ⟨qx,0,none⟩),.pointer (some ⟨qy,0,none⟩),.pointer (some ⟨qm,0,none⟩),.pointer (some ⟨qn,0,none⟩),.pointer (some ⟨qc,0,none⟩)].toArray].toArray 221 (0,0)⟩])++X)++R'∧((v= .bool true∧YI (dn++jdB (cdT b) can must d w x) R')∨(v= .bool false∧YS R')):=by
 intro d
 induction d using Nat.strongRecOn
 rename_i d ih
 intro w x dn X R hid hw hok hdn hR
 have h12:=sh.twelve
 obtain ⟨pc,cc0,hcv,hcc,hcr0⟩:=sh.cells
 refine jad Tryz.func180 rfl rfl (l:=(boV x)::(.int .i64 (x.length:Int))::(.int .i64 (w:Int))::(.pointer (some ⟨qx,0,none⟩))::(.pointer (some ⟨qy,0,none⟩))::(.pointer (some ⟨qm,0,none⟩))::(.pointer (some ⟨qn,0,none⟩))::(.pointer (some ⟨qc,0,none⟩))::uu71) rfl ?_
 intro cf cs K hK
 refine Z2 ?_
 refine jaK rfl zq (fun q8=>jk8 (Weak.mid ((h0++[⟨true,qy,.cells [yv].toArray 220 (0,0)⟩,⟨true,qn,.cells [.func (.func 180) #[] [.pointer (some ⟨qx,0,none⟩),.pointer (some ⟨qy,0,none⟩),.pointer (some ⟨qm,0,none⟩),.pointer (some ⟨qn,0,none⟩),.pointer (some ⟨qc,0,none⟩)].toArray].toArray 221 (0,0)⟩])++X) R _) (jae ?_));refine Z6 ?_;refine D119 ?_;refine Z2 ?_;refine D67 ?_;refine Zs ?_
 refine jaC rfl zq (fun hc=>?_) (fun hc=>?_)
 ·obtain rfl:d=0:=by omega
  have hgn:jdB (cdT b) can must 0 w x=[x]:=rfl
  rw [hgn] at hdn hok
  refine Z6 ?_
  have hcv2:=hY (((h0++[⟨true,qy,.cells [yv].toArray 220 (0,0)⟩,⟨true,qn,.cells [.func (.func 180) #[] [.pointer (some ⟨qx,0,none⟩),.pointer (some ⟨qy,0,none⟩),.pointer (some ⟨qm,0,none⟩),.pointer (some ⟨qn,0,none⟩),.pointer (some ⟨qc,0,none⟩)].toArray].toArray 221 (0,0)⟩])++X)++[⟨true,q8,.cells (boL x).toArray 136 (0,0)⟩]) R dn x zS (hok x zS) (by simp at hdn;omega) hR
  refine jgi rfl zq hcv2 ?_;rintro v h' ⟨R2,rfl,hh⟩;refine Z4 ?_;refine D10 ?_;refine Zs ?_
  exact ⟨R2,rfl,by rw [hgn];exact hh⟩
 ·obtain ⟨d1,rfl⟩: ∃d1,d=d1+1:=⟨d-1,by omega⟩
  have hxl:x.length<(jac b).length:=by omega
  have hx12:x.length<12:=by omega
  have hbs:=jcz (x:=x) zO
  refine Z6 ?_;refine jaR rfl zq (rm.keeps SubH.sub) ?_;refine Zs ?_;refine jah (Post:=fun v=>IsB _ v) rfl zq zK (fun H' hH=>f98_b m H' must x.length hmu hx12) ?_
  rintro v (⟨hc,rfl⟩|⟨hc,rfl⟩)
  ·refine Zs ?_
   have hmb:must.testBit x.length=true:=hc
   have hgm:=jlj (D:=cdT b) (can:=can) (f:=d1) (w:=w) hmb
   refine Z6 ?_
   first
    |have hpre: ∃pre,jdB (cdT b) can must (d1+1) w x=pre++(if w=0∨can.testBit x.length=false then [] else jdB (cdT b) can must d1 (w-1) (x++[none]))∧YI (dn++pre) R1:=⟨_,hgf j zO,hR1⟩
    |have hpre: ∃pre,jdB (cdT b) can must (d1+1) w x=pre++(if w=0∨can.testBit x.length=false then [] else jdB (cdT b) can must d1 (w-1) (x++[none]))∧YI (dn++pre) R:=⟨[],hgm,by rw [gb];exact hR⟩
   obtain ⟨pre,hgp,hRp⟩:=hpre
   refine Z2 ?_
   refine jaC rfl zq (fun hc=>?_) (fun hc=>?_)
   ·refine Z13 ?_;refine D26 ?_;refine Zs ?_
    exact E51
   ·refine Zs ?_;refine jaR rfl rfl (rc.keeps SubH.sub) ?_;refine Zs ?_;refine jah (Post:=fun v=>IsB _ v) rfl rfl zK (fun H' hH=>f98_b m H' can x.length hca hx12) ?_
    rintro v (⟨hc,rfl⟩|⟨hc,rfl⟩)
    ·refine Z11 ?_;refine D80 ?_
     rintro v rfl;refine Z2 ?_
     haveI hsn:=jrk (x:=x) hx12
     refine D9 ?_;refine Z9 ?_
     have hw1:w≠0:=by omega
     have hcb:can.testBit x.length=true:=by assumption
     have hgg:(if w=0∨can.testBit x.length=false then [] else jdB (cdT b) can must d1 (w-1) (x++[none]))=jdB (cdT b) can must d1 (w-1) (x++[none]):=if_neg (by rw [hcb];simp;exact hw1)
     have hrec:=ih d1 zO (w-1) (x++[none]) (dn++pre) (X++[⟨true,q8,.cells (boL (x++[none])).toArray 136 (0,0)⟩]) _ zN zO (fun y hy=>hok y (by
      rw [hgp,hgg];exact GA _ hy)) (by
      rw [hgp,hgg,gJ] at hdn
      rw [gJ];omega) hRp
     rw [show (((x++[none]:Bo).length:Nat):Int)=(x.length:Int)+1 by simp,show ((w-1:Nat):Int)=(w:Int)-1 by omega,←gG (h0++_) X] at hrec
     have hcv2:=CallV.fn' (first:= #[]) (args:=[boV (x++[none]),.int .i64 ((x.length:Int)+1),.int .i64 ((w:Int)-1)]) (cap:=[Value.pointer (some ⟨qx,0,none⟩),Value.pointer (some ⟨qy,0,none⟩),Value.pointer (some ⟨qm,0,none⟩),Value.pointer (some ⟨qn,0,none⟩),Value.pointer (some ⟨qc,0,none⟩)].toArray) jhb zS hrec
     refine jgi rfl zq hcv2 ?_;clear hcv2 hrec
     rintro v h' ⟨R2,rfl,hh⟩;refine Z4 ?_;refine D10 ?_;refine Zs ?_
     exact ⟨R2,rfl,by rw [hgp,hgg,←gG];exact hh⟩
    ·refine D127 ?_;refine Z8 ?_;refine D26 ?_;refine Zs ?_
     exact E51
  ·refine Zs ?_
   have hmb:must.testBit x.length=false:=by simpa using hc
   have hgf:=fun j=>jqO (D:=cdT b) (can:=can) (f:=d1) (w:=w) (j:=j) hmb
   obtain ⟨cp,cc,hcan,hccl,hcr⟩:=sh.can x.length hxl
   have h960:=jmv b hxl
   have hcan2:Rd B h0 ⟨q,18+(x.length:Int).toNat*1,none⟩ (.slice cp (dA (cdT b) x.length).can.length cc):=by rw [gZ,Ge];exact hcan
   refine Z5 ?_;refine D119 ?_;refine Z4 ?_;refine jaR rfl zq (hcan2.keeps SubH.sub) ?_;refine Z4 ?_
   refine jag (fun nn l h'=> ∃(j:Nat) (R1:Hp),nn=(dA (cdT b) x.length).can.length-j∧(j≤(dA (cdT b) x.length).can.length)∧(YI (dn++jfO (cdT b) can must d1 w x j) R1)∧(∃U:Nat→Value,l=((boV x)::(.int .i64 (x.length:Int))::(.int .i64 (w:Int))::(.pointer (some ⟨qx,0,none⟩))::(.pointer (some ⟨qy,0,none⟩))::(.pointer (some ⟨qm,0,none⟩))::(.pointer (some ⟨qn,0,none⟩))::(.pointer (some ⟨qc,0,none⟩))::(.pointer (some ⟨q8,0,none⟩))::vw25 U 9 ((.slice cp (dA (cdT b) x.length).can.length cc)::(.int .i64 ((dA (cdT b) x.length).can.length:Int))::(.int .i64 (j:Int))::vw42 U 37 [])))∧(((h0++[⟨true,qy,.cells [yv].toArray 220 (0,0)⟩,⟨true,qn,.cells [.func (.func 180) #[] [.pointer (some ⟨qx,0,none⟩),.pointer (some ⟨qy,0,none⟩),.pointer (some ⟨qm,0,none⟩),.pointer (some ⟨qn,0,none⟩),.pointer (some ⟨qc,0,none⟩)].toArray].toArray 221 (0,0)⟩])++X)++[⟨true,q8,.cells (boL x).toArray 136 (0,0)⟩])++R1=h') _ ⟨0,R,rfl,by omega,by rw [joG,gb];exact hR,exU rfl,rfl⟩ ?_;rintro nn l h' ⟨j,R1,rfl,hj,hR1,⟨U,rfl⟩,rfl⟩ hnext1;refine Z2 ?_
   refine jal rfl zq (fun hc=>?_) (fun hc=>?_)
   ·refine Z7 ?_
    obtain ⟨cpb,cpo,hcp⟩:=hcr.ptr zO
    have hcr':=hcr
    rw [hcp] at hcr'
    refine Zs ?_;refine jcR rfl zq hcp zO zO ?_;refine jaR rfl zq (hcr'.iat j zO zO) ?_;refine Z5 ?_
    refine jaw rfl zq (fun q14=>jk8 (Weak.mid (((h0++[⟨true,qy,.cells [yv].toArray 220 (0,0)⟩,⟨true,qn,.cells [.func (.func 180) #[] [.pointer (some ⟨qx,0,none⟩),.pointer (some ⟨qy,0,none⟩),.pointer (some ⟨qm,0,none⟩),.pointer (some ⟨qn,0,none⟩),.pointer (some ⟨qc,0,none⟩)].toArray].toArray 221 (0,0)⟩])++X)++[⟨true,q8,.cells (boL x).toArray 136 (0,0)⟩]) R1 _) (jae ?_));refine jk9 rfl zq (jaG x) ?_;refine Z7 ?_;haveI hss:=bo_some (x:=x) (v:=((dA (cdT b) x.length).can.getD j 0)) hx12
    refine D9 ?_;refine Z2 ?_;refine rr13 ?_;refine D119 ?_;refine Z2 ?_;refine jah (Post:=fun v=>IsB _ v) rfl zq zK (fun H' hH=>f139_c m H' (sh.keeps (sq hH)) hxl (jbX (x++[some ((dA (cdT b) x.length).can.getD j 0)])) (jcz zN) (ms:=jm9 (x++[some ((dA (cdT b) x.length).can.getD j 0)])) (jby _)) ?_
    rintro v (⟨hc,rfl⟩|⟨hc,rfl⟩)
    ·refine Zs ?_
     have hag:=(jjl (by rw [jay];exact hxl) (by rw [jay];exact h12)).1 hc
     have hgs:=jqP (D:=cdT b) (can:=can) (must:=must) (f:=d1) (w:=w) (j:=j) zO hag
     refine Z2 ?_;refine jj2 rfl rfl ?_;refine Zs ?_;refine joz rfl rfl (by unfold jeB;omega) ?_;refine Zs ?_
     have hle:=genMJ_le (D:=cdT b) (can:=can) (f:=d1) (w:=w) (j:=j+1) hmb
     have hgfl:=hgf _ (gK _)
     have hrec:=ih d1 zO w (x++[some ((dA (cdT b) x.length).can.getD j 0)]) (dn++jfO (cdT b) can must d1 w x j) (X++([⟨true,q8,.cells (boL x).toArray 136 (0,0)⟩]++[⟨true,q14,.cells (boL (x++[some ((dA (cdT b) x.length).can.getD j 0)])).toArray 136 (0,0)⟩])) R1 zN hw (fun y hy=>hok y (by
      rw [hgfl];refine GH _ ?_
      rw [jjk (gK _)];refine vV.2 ⟨_,gS.2 ⟨?_,hag⟩,hy⟩
      rw [gB,gC zO];exact GR _)) (by
      rw [hgs,gJ] at hle
      rw [gJ];omega) hR1
     rw [show (((x++[some ((dA (cdT b) x.length).can.getD j 0)]).length:Nat):Int)=(x.length:Int)+1 by simp,←gG (h0++_) X,←gG (_++X) _ _] at hrec
     have hcv2:=CallV.fn' (first:= #[]) (args:=[boV (x++[some ((dA (cdT b) x.length).can.getD j 0)]),.int .i64 ((x.length:Int)+1),.int .i64 (w:Int)]) (cap:=[Value.pointer (some ⟨qx,0,none⟩),Value.pointer (some ⟨qy,0,none⟩),Value.pointer (some ⟨qm,0,none⟩),Value.pointer (some ⟨qn,0,none⟩),Value.pointer (some ⟨qc,0,none⟩)].toArray) jhb zS hrec
     refine jgi rfl rfl hcv2 ?_;clear hcv2 hrec
     rintro v h' ⟨R2,rfl,(⟨rfl,hR2⟩|⟨rfl,hR2⟩)⟩
     ·refine Z11 ?_
      exact m.weak jaa (hnext1 _ _ _ zO ⟨j+1,R2,rfl,by omega,by rw [hgs,←gG];exact hR2,exU rfl,rfl⟩)
     ·refine D127 ?_;refine Z8 ?_;refine D10 ?_;refine Zs ?_
      exact ⟨R2,rfl,.inr ⟨rfl,hR2⟩⟩
    ·refine Zs ?_
     have hag:jaB (dA (cdT b) x.length) ((dA (cdT b) x.length).can.getD j 0) (cdT b) x=false:=by
      cases e:jaB (dA (cdT b) x.length) ((dA (cdT b) x.length).can.getD j 0) (cdT b) x with
      |false=>rfl
      |true=>exact absurd ((jjl (by rw [jay];exact hxl) (by rw [jay];exact h12)).2 e) hc
     have hgs:=genMJ_no (D:=cdT b) (can:=can) (must:=must) (f:=d1) (w:=w) (j:=j) zO hag
     refine Z17 ?_
     exact m.weak jaa (hnext1 _ _ _ zO ⟨j+1,R1,rfl,by omega,by rw [hgs];exact hR1,exU rfl,rfl⟩)
   ·refine Z6 ?_
    first
     |have hpre: ∃pre,jdB (cdT b) can must (d1+1) w x=pre++(if w=0∨can.testBit x.length=false then [] else jdB (cdT b) can must d1 (w-1) (x++[none]))∧YI (dn++pre) R1:=⟨_,hgf j zO,hR1⟩
     |have hpre: ∃pre,jdB (cdT b) can must (d1+1) w x=pre++(if w=0∨can.testBit x.length=false then [] else jdB (cdT b) can must d1 (w-1) (x++[none]))∧YI (dn++pre) R:=⟨[],hgm,by rw [gb];exact hR⟩
    obtain ⟨pre,hgp,hRp⟩:=hpre
    refine Z2 ?_
    refine jaC rfl zq (fun hc=>?_) (fun hc=>?_)
    ·refine Z13 ?_;refine D25 ?_;refine Zs ?_
     exact E51
    ·refine Zs ?_;refine jaR rfl rfl (rc.keeps SubH.sub) ?_;refine Zs ?_;refine jah (Post:=fun v=>IsB _ v) rfl rfl zK (fun H' hH=>f98_b m H' can x.length hca hx12) ?_
     rintro v (⟨hc,rfl⟩|⟨hc,rfl⟩)
     ·refine Z11 ?_;refine D80 ?_
      rintro v rfl;refine Z2 ?_
      haveI hsn:=jrk (x:=x) hx12
      refine D9 ?_;refine Z9 ?_
      have hw1:w≠0:=by omega
      have hcb:can.testBit x.length=true:=by assumption
      have hgg:(if w=0∨can.testBit x.length=false then [] else jdB (cdT b) can must d1 (w-1) (x++[none]))=jdB (cdT b) can must d1 (w-1) (x++[none]):=if_neg (by rw [hcb];simp;exact hw1)
      have hrec:=ih d1 zO (w-1) (x++[none]) (dn++pre) (X++[⟨true,q8,.cells (boL (x++[none])).toArray 136 (0,0)⟩]) _ zN zO (fun y hy=>hok y (by
       rw [hgp,hgg];exact GA _ hy)) (by
       rw [hgp,hgg,gJ] at hdn
       rw [gJ];omega) hRp
      rw [show (((x++[none]:Bo).length:Nat):Int)=(x.length:Int)+1 by simp,show ((w-1:Nat):Int)=(w:Int)-1 by omega,←gG (h0++_) X] at hrec
      have hcv2:=CallV.fn' (first:= #[]) (args:=[boV (x++[none]),.int .i64 ((x.length:Int)+1),.int .i64 ((w:Int)-1)]) (cap:=[Value.pointer (some ⟨qx,0,none⟩),Value.pointer (some ⟨qy,0,none⟩),Value.pointer (some ⟨qm,0,none⟩),Value.pointer (some ⟨qn,0,none⟩),Value.pointer (some ⟨qc,0,none⟩)].toArray) jhb zS hrec
      refine jgi rfl zq hcv2 ?_;clear hcv2 hrec
      rintro v h' ⟨R2,rfl,hh⟩;refine Z4 ?_;refine D10 ?_;refine Zs ?_
      exact ⟨R2,rfl,by rw [hgp,hgg,←gG];exact hh⟩
     ·refine D127 ?_;refine Z8 ?_;refine D25 ?_;refine Zs ?_
      exact E51
end
section
variable [LaidO B]
theorem jjA {h' F1 L:Hp} [a:Off h' L F1] [s:SubH H F1]:Weak B h' (H++L):=(Weak.perm a.perm).trans ((Weak.sub s.sub).apps L)
theorem weak_beg (F nw:Hp) (a b c d:Chunk):Weak B ((F++[a,b])++c::(nw++[d])) (F++[a,b,c,d]++nw):=Weak.perm (by
 rw [gG,gG];refine Gm F ?_
 show (a::b::c::(nw++[d])).Perm (a::b::c::d::nw)
 exact .cons _ (.cons _ (.cons _ (Gx (l₁:=nw) (l₂:=[d])))))
theorem weak179 (h0 R:Hp) (y n:Chunk):Weak B ((h0++R)++[y,n]) (((h0++[y,n])++[])++R):=Weak.perm (by
 rw [gb,gG,gG];exact Gm h0 Gx)
theorem negs_smu (s:Str):negs (jap s)=jfs s:=by
 rw [negs,jfs];refine Vh fun x hx=>?_
 obtain ⟨j,hj,rfl⟩:=GE.1 hx
 have:=(jaT s).lo j
 rw [gB,gC hj] at this
 simp only [GB] at this
 simp only [decide_eq_true_eq]
 omega
theorem smuF_nil:jfs []=0:=by decide
theorem smu_line {l:Ln} (h:l.figs.length≤n):((List.range n).map fun j=>jfs (l.figs.getD j [])).sum=jgQ l:=by
 rw [jgQ,←jiD (l.figs.map jfs) n (by simpa using h)];congr 1
 refine GW fun j _=>?_
 simp only [gB,gk]
 cases l.figs[j]? with
 |none=>simp [smuF_nil]
 |some f=>rfl
theorem jkG:jgQ default=0:=by decide
theorem jpm (h:ls.length≤2):jgQ (ls.getD 0 default)+jgQ (ls.getD 1 default)=jiE ls:=by
 match ls,h with
 |[],_=>decide
 |[a],_=>simp [jiE,jkG]
 |[a,c],_=>simp [jiE]
theorem jpo (k:TbOk b):((jac b).map fun c=>jfs (jci b c)).sum≤2:=by
 have h1:((jac b).map fun c=>jfs (jci b c)).sum≤((jdu b.sts.length).map fun c=>jfs (jci b c)).sum:=by
  rw [jc4];exact jfp _ _ _
 have row: ∀(bt:Bool) (i:Nat),((jpE b.sts.length bt i).map fun c=>jfs (jci b c)).sum=jgQ ((ja7 b bt).getD i default):=by
  intro bt i
  have hl:((ja7 b bt).getD i default).figs.length≤b.sts.length:=by
   by_cases hi:i<(ja7 b bt).length
   ·rw [((k.lines bt).ok _ (jak hi)).len];exact gK _
   ·rw [gB,ge zO];exact Nat.zero_le _
  rw [←smu_line hl,jpE,Vx];congr 1
 have h2:((jdu b.sts.length).map fun c=>jfs (jci b c)).sum=jiE b.waters+jiE b.butts:=by
  rw [jdu];simp only [GI,VU,row]
  rw [show ja7 b false=b.waters from rfl,show ja7 b true=b.butts from rfl,jpm k.waters.two,jpm k.butts.two]
 have:=k.smu
 omega
theorem meaS_12 (s:Str):(jcr s).length≤12^jfs s:=by
 rw [jcr];split
 ·rw [←negs_smu];exact meaP_12 (jaT s).len
 ·exact Nat.zero_le _
theorem prod_144 (k:TbOk b):jeR (cdT b)≤144:=by
 have gen: ∀l:List Ce,jeR (l.map (jha b))≤12^(l.map fun c=>jfs (jci b c)).sum:=by
  intro l
  induction l with
  |nil=>simp [jeR]
  |cons c l ih=>
   rw [gx,jeR,gx,vI,Nat.pow_add];refine Vf ?_ ih
   have h1:=meaS_12 (jci b c)
   have h2:1≤12^jfs (jci b c):=Nat.pow_pos zO
   show max 1 (jcr (jci b c)).length≤_
   omega
 refine GM (gen _) ?_
 have:=GT (show 0<12 by omega) (jpo k)
 exact this
theorem jbM (k:TbOk b):(jaf b).length≤12000:=by
 have h1:=jgq (cdT b) b.wrong.toNat
 have h2:=prod_144 k
 have h3:jho (cdT b).length b.wrong.toNat≤jho 12 2:=jel (by rw [jay];exact jbu k) (by have:=k.wrong;omega)
 have h4:jho 12 2=79:=by decide
 have h5:=Vf (GM h3 (Nat.le_of_eq h4)) h2
 rw [jaf];omega
instance:AppL a [] a:=⟨gb a⟩
theorem jq7 {x:Bo}:jax [x]=boL x:=by simp [jax,Enc.enc]
abbrev B4 (q qx qw qc qm w can must:Nat):Hp:=[⟨true,qx,.cells [.pointer (some ⟨q,0,none⟩)].toArray 109 (0,0)⟩,⟨true,qw,.cells [.int .i64 (w:Int)].toArray 3 (0,0)⟩,⟨true,qc,.cells [.int .u64 (can:Int)].toArray 134 (0,0)⟩,⟨true,qm,.cells [.int .u64 (must:Int)].toArray 134 (0,0)⟩]
theorem B4.x {w can:Nat}:Rd B (h++B4 q qx qw qc qm w can must) ⟨qx,0,none⟩ (.pointer (some ⟨q,0,none⟩)):=Rd.held (c:=[.pointer (some ⟨q,0,none⟩)].toArray) (t:=109) (f:=(0,0)) (rw:=true) (GA _ gd) rfl
theorem B4.w {w can:Nat}:Rd B (h++B4 q qx qw qc qm w can must) ⟨qw,0,none⟩ (.int .i64 (w:Int)):=Rd.held (c:=[.int .i64 (w:Int)].toArray) (t:=3) (f:=(0,0)) (rw:=true) (GA _ (gL _ gd)) rfl
theorem B4.c {w can:Nat}:Rd B (h++B4 q qx qw qc qm w can must) ⟨qc,0,none⟩ (.int .u64 (can:Int)):=Rd.held (c:=[.int .u64 (can:Int)].toArray) (t:=134) (f:=(0,0)) (rw:=true) (GA _ (gL _ (gL _ gd))) rfl
theorem B4.m {w can:Nat}:Rd B (h++B4 q qx qw qc qm w can must) ⟨qm,0,none⟩ (.int .u64 (must:Int)):=Rd.held (c:=[.int .u64 (must:Int)].toArray) (t:=134) (f:=(0,0)) (rw:=true) (GA _ (gL _ (gL _ (gL _ gd)))) rfl
theorem f148_c (m:Md Tryz.prog B) (h:Hp) {w can:Nat}:FnC m 148 #[.pointer (some ⟨q,0,none⟩),.int .i64 (w:Int),.int .u64 (can:Int),.int .u64 (must:Int)] h fun v h'=> ∃qx qw qc qm,h'=h++B4 q qx qw qc qm w can must∧v= .func (.func 179) #[] [.pointer (some ⟨qx,0,none⟩),.pointer (some ⟨qm,0,none⟩),.pointer (some ⟨qc,0,none⟩),.pointer (some ⟨qw,0,none⟩)].toArray:=by
 refine jad Tryz.func148 rfl rfl (l:=(.pointer (some ⟨q,0,none⟩))::(.int .i64 (w:Int))::(.int .u64 (can:Int))::(.int .u64 (must:Int))::uu6) rfl ?_
 intro cf cs K hK
 refine Z2 ?_
 refine jaK rfl zq (fun qx=>jar (jae ?_));refine jaK rfl zq (fun qw=>jar (jae ?_));refine jaK rfl zq (fun qc=>jar (jae ?_));refine jaK rfl zq (fun qm=>jar (jae ?_));refine Z4 ?_;refine jgT rfl zq ?_;refine Z3 ?_;refine jab (h++B4 q qx qw qc qm w can must) rfl Tryz.func148 rfl jaa ?_;refine Zs ?_
 exact ⟨qx,qw,qc,qm,rfl,rfl⟩
theorem f179_c (m:Md Tryz.prog B) (sh:Sheet B h0 b q tv) (rx:Rd B h0 ⟨qx,0,none⟩ (.pointer (some ⟨q,0,none⟩))) {can:Nat} (rm:Rd B h0 ⟨qm,0,none⟩ (.int .u64 (must:Int))) (rc:Rd B h0 ⟨qc,0,none⟩ (.int .u64 (can:Int))) (hmu:must<4096) (hca:can<4096) {w:Nat} (rw:Rd B h0 ⟨qw,0,none⟩ (.int .i64 (w:Int))) (hw:w≤100) [CellsV yv [yv]] {G:List Bo} (hY:EachO m h0 G N yv YI YS) (hG:G=jdB (cdT b) can must (jac b).length w []) (hN:G.length≤N) {R:Hp} (hR:YI [] R):
  FnC m 179 #[yv,.pointer (some ⟨qx,0,none⟩),.pointer (some ⟨qm,0,none⟩),.pointer (some ⟨qc,0,none⟩),.pointer (some ⟨qw,0,none⟩)] (h0++R) fun v h'=>v= .tuple [].toArray∧ ∃R',h'=h0++R'∧(YI G R'∨YS R'):=by
 refine jad Tryz.func179 rfl rfl (l:=yv::(.pointer (some ⟨qx,0,none⟩))::(.pointer (some ⟨qm,0,none⟩))::(.pointer (some ⟨qc,0,none⟩))::(.pointer (some ⟨qw,0,none⟩))::uu7) rfl ?_
 intro cf cs K hK
 refine Z2 ?_
 refine jaK rfl zq (fun qy=>jar (jae ?_));refine Z3 ?_
 refine jaw rfl zq (fun qn=>jar (jae ?_));refine Z3 ?_;refine jgT rfl zq ?_;refine D9 ?_;refine Z3 ?_;refine D37 ?_;refine jaR rfl zq (rw.keeps SubH.sub) ?_;refine jk8 (weak179 h0 R _ _) ?_
 have hw2:=f180_c m sh rx rm rc hmu hca hY qy qn (jac b).length w [] [] [] R zS hw (fun y hy=>hG▸hy) (by rw [←hG];simpa using hN) hR
 rw [←hG,GC] at hw2
 have hcv:=CallV.fn' (first:= #[]) (args:=[boV [],.int .i64 0,.int .i64 (w:Int)]) (cap:=[Value.pointer (some ⟨qx,0,none⟩),Value.pointer (some ⟨qy,0,none⟩),Value.pointer (some ⟨qm,0,none⟩),Value.pointer (some ⟨qn,0,none⟩),Value.pointer (some ⟨qc,0,none⟩)].toArray) jhb zS hw2
 refine jgi rfl zq hcv ?_;clear hcv hw2
 rintro v h' ⟨R2,rfl,hh⟩;refine Z2 ?_;refine jcu rfl ?_;refine jab (h0++R2) rfl Tryz.func179 rfl jaa ?_;refine Zs ?_
 exact ⟨rfl,R2,rfl,hh.elim (fun h=> .inl h.2) (fun h=> .inr h.2)⟩
theorem f96_c (m:Md Tryz.prog B) (h:Hp) {a1 a2 a3:Value} (sh:Sheet B h b q [.int .i64 b.wrong,a1,a2,a3]) (hk:TbOk b):FnC m 96 #[.pointer (some ⟨q,0,none⟩)] h fun v h'=> ∃nw,h'=h++nw∧OwnS 136 13 v (jaf b).length (jax (jaf b)) nw:=by
 have hwr:=hk.wrong
 refine jad Tryz.func96 rfl rfl (l:=(.pointer (some ⟨q,0,none⟩))::uu19) rfl ?_
 intro cf cs K hK
 refine Z6 ?_
 refine jaw rfl zq (fun q3=>jar (jae ?_));refine Z3 ?_;refine jao [Zp 0,Zp 1,Zp 2,Zp 3,Zp 4,Zp 5,Zr 6,Zk 7,Zk 8] zK zK (gE _) ?_;refine Z6 ?_;refine jaR rfl zq ((sh.tb 0 zS).keeps SubH.sub) ?_;refine jah (Post:=fun v=>v=_) rfl zq zK (fun H' hH=>f106_c m H' 12 zO) ?_
 rintro v rfl;refine Zs ?_
 refine ja8 (Post:=fun v nw=> ∃qx qw qc qm,nw=B4 q qx qw qc qm b.wrong.toNat 4095 0∧v= .func (.func 179) #[] [.pointer (some ⟨qx,0,none⟩),.pointer (some ⟨qm,0,none⟩),.pointer (some ⟨qc,0,none⟩),.pointer (some ⟨qw,0,none⟩)].toArray) rfl zq zK (fun H' hH=>by
  have h1:=f148_c m H' (q:=q) (w:=b.wrong.toNat) (can:=4095) (must:=0)
  rw [show ((b.wrong.toNat:Nat):Int)=b.wrong by omega] at h1
  exact CallF.mono h1 fun v h' ⟨qx,qw,qc,qm,e1,e2⟩=>⟨_,e1,qx,qw,qc,qm,rfl,e2⟩) ?_
 rintro v _ ⟨qx,qw,qc,qm,rfl,rfl⟩;refine Zs ?_;refine jk8 (Weak.mid h [⟨true,q3,.cells [.slice none 0 0].toArray 110 (0,0)⟩] (B4 q qx qw qc qm b.wrong.toNat 4095 0)) ?_;refine Z2 ?_
 refine ji3 rfl rfl zK (fun q11 q12=>?_);generalize hrec:jfi _ _ _ _ _ _ LoopState.ready=rec0
 have hY:EachO m (h++B4 q qx qw qc qm b.wrong.toNat 4095 0) (jaf b) 12000 (.func (.yield q12) #[] #[]) (fun dn R=> ∃bp bc nw,R=[⟨true,q3,.cells [.slice bp dn.length bc].toArray 110 (0,0)⟩,⟨true,q11,.deferred (some [])⟩,⟨true,q12,rec0⟩]++nw∧OwnS 136 13 (.slice bp dn.length bc) dn.length (jax dn) nw) (fun _=>False):=?hY
 rotate_left
 intro F R dn x hF hx hdn hR
 obtain ⟨bp,bc,nw,rfl,ho⟩:=hR
 subst hrec
 haveI hsF:SubH (h++B4 q qx qw qc qm b.wrong.toNat 4095 0) F:=⟨hF⟩
 refine CallV.yield (rw:=true) (q1:=q11) (st:= .ready) (GA _ (GH _ (gL _ (gL _ gd)))) rfl (by simp;rfl) ?_
 intro cf2 cs2 K2 hK2
 ·refine Zs ?_
  refine jaw rfl zq (fun q14=>jar (jae ?_));refine jk9 rfl zq (jaG x) ?_;refine Zs ?_;apply jeX (F:=F++[⟨true,q3,.cells [.slice bp dn.length bc].toArray 110 (0,0)⟩,⟨true,q11,.deferred (some [])⟩]) (E:=nw++[⟨true,q14,.cells (boL x).toArray 136 (0,0)⟩])
  case hh=>
   simp only [gG,gm,GC]
   rfl
  generalize hbz:jfi _ _ _ _ _ _ LoopState.busy=rec1
  refine m.weak (h':=F++[⟨true,q3,.cells [.slice bp dn.length bc].toArray 110 (0,0)⟩,⟨true,q11,.deferred (some [])⟩,⟨true,q12,rec1⟩,⟨true,q14,.cells (boL x).toArray 136 (0,0)⟩]++nw) (weak_beg _ _ _ _ _ _) ?_;refine Z4 ?_
  refine jdx kdq rfl zq zA zA rfl (fun q17=>jar (jae ?_));refine ja2 rfl zq (jaG x) ho kdq zO zO (fun w9 n9 o9=>jae ?_);obtain ⟨p9,c9,rfl,hc9,r9⟩:=jas (B:=B) o9
  have e1:dn.length+1=(dn++[x]).length:=by simp
  have e2:jax dn++boL x=jax (dn++[x]):=by rw [ja3,jq7]
  have ho2:=o9
  rw [e2,e1] at ho2
  rw [e1];refine D9 ?_;refine Z2 ?_;refine m.weak (h':=F++[⟨true,q3,.cells [.slice p9 (dn++[x]).length c9].toArray 110 (0,0)⟩,⟨true,q11,.deferred (some [])⟩,⟨true,q12,rec1⟩]++n9) jjA ?_
  subst hbz
  apply jkP (F:=F++[⟨true,q3,.cells [.slice p9 (dn++[x]).length c9].toArray 110 (0,0)⟩,⟨true,q11,.deferred (some [])⟩]) (E:=n9)
  case hh=>
   simp only [gG,gm,GC]
   rfl
  rw [show F++[⟨true,q3,.cells [.slice p9 (dn++[x]).length c9].toArray 110 (0,0)⟩,⟨true,q11,.deferred (some [])⟩]++(_::n9)=F++([⟨true,q3,.cells [.slice p9 (dn++[x]).length c9].toArray 110 (0,0)⟩,⟨true,q11,.deferred (some [])⟩,_]++n9) by simp;rfl];exact hK2 _ _ ⟨_,rfl,.inl ⟨rfl,_,_,n9,rfl,ho2⟩⟩
 ·have hl:=f179_c m (sh.keeps (gI _ _)) B4.x B4.m B4.c zO zO B4.w (by have:=hk.wrong;omega) hY (by rw [jaf,←jay];exact (genM_all fun i hi=>by
   have:=jbu hk
   rw [jay] at hi
   rw [show 4095=2^12-1 by rfl,Nat.testBit_two_pow_sub_one];exact decide_eq_true zO).symm) (jbM hk) (R:=[⟨true,q3,.cells [.slice none 0 0].toArray 110 (0,0)⟩,⟨true,q11,.deferred (some [])⟩,⟨true,q12,rec0⟩]) ⟨none,0,[],by simp,OwnS.nil⟩
  rw [show (h++B4 q qx qw qc qm b.wrong.toNat 4095 0)++[⟨true,q3,.cells [.slice none 0 0].toArray 110 (0,0)⟩,⟨true,q11,.deferred (some [])⟩,⟨true,q12,rec0⟩]=(h++B4 q qx qw qc qm b.wrong.toNat 4095 0)++[⟨true,q3,.cells [.slice none 0 0].toArray 110 (0,0)⟩]++[⟨true,q11,.deferred (some [])⟩,⟨true,q12,rec0⟩] by simp] at hl
  refine CallF.mono hl ?_
  rintro v h' ⟨rfl,R',rfl,(⟨bp,bc,nw,rfl,ho⟩|hF)⟩;case inr=>exact hF.elim
  subst hrec
  apply jgy (F:=(h++B4 q qx qw qc qm b.wrong.toNat 4095 0)++[⟨true,q3,.cells [.slice bp (jaf b).length bc].toArray 110 (0,0)⟩,⟨true,q11,.deferred (some [])⟩]) (E:=nw)
  case hh=>
   simp only [gG,gm,GC]
   rfl
  case hst=>exact .inl rfl
  refine Z7 ?_;refine jdV (F:=(h++B4 q qx qw qc qm b.wrong.toNat 4095 0)++[⟨true,q3,.cells [.slice bp (jaf b).length bc].toArray 110 (0,0)⟩]) (E:=nw) zS ?_;refine jab (h++nw) rfl Tryz.func96 rfl jaa ?_;refine Zs ?_
  exact ⟨nw,rfl,ho⟩
theorem f104_c (m:Md Tryz.prog B) (h:Hp) (sh:Sheet B h b q tv) {s:Nat} (hs:s<4096):FnC m 104 #[.pointer (some ⟨q,0,none⟩),.int .u64 (s:Int)] h fun v h'=>h'=h∧IsB (jfx (cdT b) (jeo s (jac b).length)≠[]) v:=by
 refine jad Tryz.func104 rfl rfl (l:=(.pointer (some ⟨q,0,none⟩))::(.int .u64 (s:Int))::uu8) rfl ?_
 intro cf cs K hK
 refine Z2 ?_
 refine jaw rfl zq (fun q4=>jar (jae ?_));refine Z7 ?_;refine jbj (Post:=fun v h'=> ∃qx qw qc qm,h'=h++[⟨true,q4,.cells [.bool false].toArray 4 (0,0)⟩]++B4 q qx qw qc qm 12 s s∧v= .func (.func 179) #[] [.pointer (some ⟨qx,0,none⟩),.pointer (some ⟨qm,0,none⟩),.pointer (some ⟨qc,0,none⟩),.pointer (some ⟨qw,0,none⟩)].toArray) rfl zq zK (f148_c m _ (q:=q) (w:=12) (can:=s) (must:=s)) ?_
 rintro v _ ⟨qx,qw,qc,qm,rfl,rfl⟩;refine Zs ?_;refine jk8 (Weak.mid h [⟨true,q4,.cells [.bool false].toArray 4 (0,0)⟩] (B4 q qx qw qc qm 12 s s)) ?_;refine Z2 ?_
 refine ji3 rfl rfl zK (fun q11 q12=>?_);generalize hrec:jfi _ _ _ _ _ _ LoopState.ready=rec0
 obtain ⟨GS,hGS⟩: ∃GS,GS=jdB (cdT b) s s (jac b).length 12 []:=⟨_,rfl⟩
 have hY:EachO m (h++B4 q qx qw qc qm 12 s s) GS (GS.length+1) (.func (.yield q12) #[] #[]) (fun dn R=>dn=[]∧R=[⟨true,q4,.cells [.bool false].toArray 4 (0,0)⟩,⟨true,q11,.deferred (some [])⟩,⟨true,q12,rec0⟩]) (fun R=>GS≠[]∧ ∃fn9 l9 ps9 a9 c9,R=[⟨true,q4,.cells [.bool true].toArray 4 (0,0)⟩,⟨true,q11,.deferred (some [])⟩,⟨true,q12,jos fn9 l9 ps9 a9 c9 q11⟩]):=?hY
 rotate_left
 intro F R dn x hF hx hdn hR
 obtain ⟨rfl,rfl⟩:=hR
 subst hrec
 haveI hsF:SubH (h++B4 q qx qw qc qm 12 s s) F:=⟨hF⟩
 refine CallV.yield (rw:=true) (q1:=q11) (st:= .ready) (GA _ (gL _ (gL _ gd))) rfl (by simp;rfl) ?_
 intro cf2 cs2 K2 hK2
 ·refine Zs ?_
  apply jeX (F:=F++[⟨true,q4,.cells [.bool false].toArray 4 (0,0)⟩,⟨true,q11,.deferred (some [])⟩]) (E:=[])
  case hh=>
   simp only [gG,gm,GC]
   rfl
  generalize hbz:jfi _ _ _ _ _ _ LoopState.busy=rec1
  refine Z3 ?_;refine D9 ?_;refine Zs ?_
  subst hbz
  apply jkN (F:=F++[⟨true,q4,.cells [.bool true].toArray 4 (0,0)⟩,⟨true,q11,.deferred (some [])⟩]) (E:=[])
  case hh=>
   simp only [gG,gm,GC]
   rfl
  rw [gG];exact hK2 _ _ ⟨_,rfl,.inr ⟨rfl,(fun e=>by rw [e] at hx;cases hx),_,_,_,_,_,rfl⟩⟩
 ·have hl:=f179_c m (sh.keeps (gI _ _)) B4.x B4.m B4.c hs hs B4.w zO hY hGS zO (R:=[⟨true,q4,.cells [.bool false].toArray 4 (0,0)⟩,⟨true,q11,.deferred (some [])⟩,⟨true,q12,rec0⟩]) ⟨rfl,rfl⟩
  rw [show (h++B4 q qx qw qc qm 12 s s)++[⟨true,q4,.cells [.bool false].toArray 4 (0,0)⟩,⟨true,q11,.deferred (some [])⟩,⟨true,q12,rec0⟩]=(h++B4 q qx qw qc qm 12 s s)++[⟨true,q4,.cells [.bool false].toArray 4 (0,0)⟩]++[⟨true,q11,.deferred (some [])⟩,⟨true,q12,rec0⟩] by simp] at hl
  have hG2:GS=jfx (cdT b) (jeo s (jac b).length):=by
   rw [hGS,←jay];exact jqN (by rw [jay];exact sh.twelve)
  refine CallF.mono hl ?_
  rintro v h' ⟨rfl,R',rfl,(⟨hbo,rfl⟩|⟨hbo,fn9,l9,ps9,a9,c9,rfl⟩)⟩
  ·subst hrec
   apply jgy (F:=(h++B4 q qx qw qc qm 12 s s)++[⟨true,q4,.cells [.bool false].toArray 4 (0,0)⟩,⟨true,q11,.deferred (some [])⟩]) (E:=[])
   case hh=>
    simp only [gG,gm,GC]
    rfl
   case hst=>exact .inl rfl
   refine Z3 ?_;refine D9 ?_;refine Z2 ?_;refine jdV (F:=(h++B4 q qx qw qc qm 12 s s)++[⟨true,q4,.cells [.bool false].toArray 4 (0,0)⟩]) (E:=[]) zS ?_;refine jab (h) rfl Tryz.func104 rfl jaa ?_;refine Zs ?_
   first|exact ⟨rfl,IsB.yes (hG2▸hbo)⟩|exact ⟨rfl,IsB.no fun e=>e (hG2▸hbo)⟩
  ·apply jjR (F:=(h++B4 q qx qw qc qm 12 s s)++[⟨true,q4,.cells [.bool true].toArray 4 (0,0)⟩,⟨true,q11,.deferred (some [])⟩]) (E:=[])
   case hh=>
    simp only [gG,gm,GC]
    rfl
   refine Zs ?_;refine jdV (F:=(h++B4 q qx qw qc qm 12 s s)++[⟨true,q4,.cells [.bool true].toArray 4 (0,0)⟩]) (E:=[]) zS ?_;refine jab (h) rfl Tryz.func104 rfl jaa ?_;refine Zs ?_
   first|exact ⟨rfl,IsB.yes (hG2▸hbo)⟩|exact ⟨rfl,IsB.no fun e=>e (hG2▸hbo)⟩
end
section
variable [LaidO B]
structure RawTb (B:Array Obj) (h:Hp) (b:Tb) (ps:Option Addr) (ns ks:Nat) (pw:Option Addr) (nw cw:Nat) (pb:Option Addr) (nb cb:Nat):Prop where
 s:RdS B h 1 (.slice ps ns ks) ns (jax b.sts)
 sc:ns≤ks
 sn:ns≤1000
 w:RdLn B h (.slice pw nw cw) nw b.waters
 wn:nw≤1000
 u:RdLn B h (.slice pb nb cb) nb b.butts
 un:nb≤1000
 sm:TbSm b
section
theorem RawTb.keeps (r:RawTb B h b ps ns ks pw nw cw pb nb cb) (s:h.Sublist H):RawTb B H b ps ns ks pw nw cw pb nb cb:=
 ⟨r.s.keeps s,r.sc,r.sn,r.w.keeps s,r.wn,r.u.keeps s,r.un,r.sm⟩
theorem RawTb.rd (r:RawTb B h b ps ns ks pw nw cw pb nb cb) (k:TbOk b):RdTb B h b ps ns ks pw nw cw pb nb cb:=rdTb_of r.s r.sc r.w r.u r.sm k
theorem f65_r (m:Md Tryz.prog B) (h:Hp) (r:RawTb B h b ps ns ks pw nw cw pb nb cb):FnC m 65 #[tbV b ps ns ks pw nw cw pb nb cb] h fun v h'=>h'=h∧v= .int .i64 (tbS b):=f65_c m h r.s r.sc r.sn r.sm.sts r.w r.wn r.u r.un r.sm
theorem f95_r (m:Md Tryz.prog B) (h:Hp) (r:RawTb B h b ps ns ks pw nw cw pb nb cb) (k:TbOk b):FnC m 95 #[tbV b ps ns ks pw nw cw pb nb cb] h fun v h'=> ∃new,h'=h++new∧ ∃q,v= .pointer (some ⟨q,0,none⟩)∧Sheet B new b q (tbL b ps ns ks pw nw cw pb nb cb):=
 CallF.mono (f95_c m h (r.rd k)) fun v h' ⟨new,q,e1,e2,e3⟩=>⟨new,e1,q,e2,e3⟩
end
theorem jhj {xs:List Int} (hs:SortR xs 0 xs.length): ∀t,t≤xs.length→Asc (jcL xs t)∧(∀z∈jcL xs t,∃i,i<t∧z=xs.getD i 0)
 |0,_=>⟨List.Pairwise.nil,by simp [jcL]⟩
 |t+1,h=>by
  obtain ⟨h1,h2⟩:=jhj hs t zO
  rw [jcL];by_cases e:t=0∨xs.getD t 0≠xs.getD (t-1) 0
  ·rw [if_pos e];refine ⟨?_,fun z hz=>?_⟩
   ·unfold Asc at h1⊢
    rw [gy];refine ⟨h1,by simp,fun x hx y hy=>?_⟩
    simp only [gq] at hy
    subst hy
    obtain ⟨i,hi,rfl⟩:=h2 x hx
    have e1:xs.getD i 0≤xs.getD (t-1) 0:=by
     by_cases e2:i=t-1
     ·subst e2
      exact vD _
     ·exact hs i (t-1) zO zO zO
    have e3:xs.getD (t-1) 0≤xs.getD t 0:=hs (t-1) t zO zO zO
    rcases e with e|e
    ·omega
    ·omega
   ·rcases gO.1 hz with hz|hz
    ·obtain ⟨i,hi,e⟩:=h2 z hz
     exact ⟨i,by omega,e⟩
    ·simp only [gq] at hz
     exact ⟨t,by omega,hz⟩
  ·rw [if_neg e,gb];exact ⟨h1,fun z hz=>by obtain ⟨i,hi,e⟩:=h2 z hz;exact ⟨i,by omega,e⟩⟩
theorem jhi {xs:List Int}: ∀t i,i<t→xs.getD i 0∈jcL xs t
 |0,i,h=>by omega
 |t+1,i,h=>by
  rw [jcL,gO];rcases GX i t with h1|h1
  ·exact .inl (jhi t i h1)
  ·obtain rfl:i=t:=by omega
   by_cases e:i=0∨xs.getD i 0≠xs.getD (i-1) 0
   ·rw [if_pos e];exact .inr zS
   ·have h0:i≠0:=fun x=>e (.inl x)
    have e2:xs.getD i 0=xs.getD (i-1) 0:=gu fun x=>e (.inr x)
    rw [e2];exact .inl (jhi i (i-1) zO)
theorem rd_has {rw:Bool} {f:Nat×Nat} {v:Value} [x:Has h q rw (.cells [v].toArray t f)]:Rd B h ⟨q,0,none⟩ v:=Rd.held x.mem rfl
theorem jpW {v:Value} {xs:List Int} {new:Hp} (o:OwnS 3 1 v n (jav xs) new) (h:0<n): ∃b c junk,v= .slice (some ⟨b,0,none⟩) n c∧new=[jbc b xs junk]∧xs.length=n∧n+junk.length=c:=by
 unfold jbc
 generalize hg:jav xs=ys at o⊢
 have hy:ys.length=xs.length:=by rw [←hg];simp
 cases o with
 |nil=>omega
 |blk hl hc hn=>exact ⟨_,_,_,rfl,rfl,by omega,by omega⟩
theorem jp7 {xs:List Int} (hs:SortR xs 0 xs.length):z∈jcL xs xs.length↔z∈xs:=by
 constructor
 ·intro h
  obtain ⟨i,hi,rfl⟩:=(jhj hs _ (gK _)).2 z h
  exact jcn.2 ⟨i,hi,rfl⟩
 ·intro h
  obtain ⟨i,hi,rfl⟩:=jcn.1 h
  exact jhi _ i hi
theorem jnQ: ∀{xs ys:List Int},Asc xs→Asc ys→(∀z,z∈xs↔z∈ys)→xs=ys:=fun hx hy h=>List.Perm.eq_of_pairwise (fun a b _ _ h1 h2=>by omega) hx hy ((List.perm_ext_iff_of_nodup (jix hx) (jix hy)).2 h)
theorem jm6 {α:Type}: ∀{l:List α} {n:Nat},l.length=n→jbe (List.replicate n true) l=l
 |[],_,h=>by subst h;rfl
 |a::l,n,h=>by
  obtain ⟨k,rfl⟩: ∃k,n=k+1:=⟨n-1,by simp at h;omega⟩
  rw [List.replicate_succ,jbe,jm6 (by simpa using h)]
theorem jpR (n:Nat):jeo 0 n=(List.replicate n true).map (!·):=by
 rw [jeo];refine vB zS fun i h1 h2=>by simp
theorem pat_none:jfx (cdT b) (jeo 0 (jac b).length)≠[]↔jb9 (cdT b)=true:=by
 have:=jgb (D:=cdT b) (p:=List.replicate (jac b).length true) (by simp [jay])
 rw [jpR,this,jm6 (jay b)]
def jgw (B:Array Obj) (b:Tb) (tv:List Value) (s:Int) (nw:Hp) (v:Value):Prop:= ∃qp p n c,v= .tuple [.agg [.pointer qp,.slice p n c].toArray,.int .i64 s].toArray∧
 (s=0→ ∃q,qp=some ⟨q,0,none⟩∧Sheet B nw b q tv∧n=(jaf b).length∧n≤c∧RdS B nw 13 (.slice p n c) n (jax (jaf b)))
theorem jgd (h:s≠0):jgw B b tv s [] (.tuple [.agg [.pointer none,.slice none 0 0].toArray,.int .i64 s].toArray):=⟨none,none,0,0,rfl,fun e=>absurd e h⟩
def plN (b:Tb) (c:Ce):Nat:=(jac b).findIdx fun x=>decide (x=c)
theorem ji8 {c:Ce}:plN b c<(jac b).length↔c∈jac b:=by
 rw [plN,List.findIdx_lt_length];simp
theorem plN_get {c:Ce} (h:c∈jac b):(jac b).getD (plN b c) default=c:=by
 have hl:=ji8.2 h
 have:=List.findIdx_getElem (w:=hl)
 rw [gB,gC hl];exact of_decide_eq_true this
theorem jhI {c:Ce} (h:c∈jac b):jcW (jac b) c=some (plN b c:Int):=by
 have hh:(jac b).findIdx (fun x=>decide (x=c))<(jac b).length:=ji8.2 h
 rw [jcW,jfR,if_pos hh,gz];rfl
theorem jon {c:Ce} (h:c∉jac b):jcW (jac b) c=none:=by
 have hh: ¬(jac b).findIdx (fun x=>decide (x=c))<(jac b).length:=fun e=>h (ji8.1 e)
 rw [jcW,jfR,if_neg hh];rfl
theorem f181_z (m:Md Tryz.prog B) (h:Hp):FnC m 181 #[.slice none 0 0,.int .i64 0,.int .i64 0] h fun v h'=>h'=h:=by
 refine jad Tryz.func181 rfl rfl (l:=(.slice none 0 0)::(.int .i64 0)::(.int .i64 0)::uu46) rfl ?_
 intro cf cs K hK
 refine Z7 ?_
 refine jag (fun nn l h'=>nn=0∧(True)∧(∃U:Nat→Value,l=((.slice none 0 0)::(.int .i64 0)::(.int .i64 0)::(U 3)::(U 4)::(U 5)::(.int .i64 1)::vw42 U 7 []))∧h=h') _ ⟨rfl,trivial,exU rfl,rfl⟩ ?_;rintro nn l h' ⟨rfl,htt,⟨U,rfl⟩,rfl⟩ hnext;refine Z5 ?_;refine jnr rfl zq zO ?_;refine Z3 ?_;refine jcu rfl ?_;refine jab (h) rfl Tryz.func181 rfl jaa ?_;refine Zs ?_
 rfl
theorem f150_z (m:Md Tryz.prog B) (h:Hp) (lim:Int):FnC m 150 #[.slice none 0 0,.int .i64 0,.int .i64 0,.int .i64 lim] h fun v h'=>h'=h:=by
 refine jad Tryz.func150 rfl rfl (l:=(.slice none 0 0)::(.int .i64 0)::(.int .i64 0)::(.int .i64 lim)::jo7) rfl ?_
 intro cf cs K hK
 refine Z9 ?_
 refine jag (fun nn l h'=>nn=0∧(True)∧(∃U:Nat→Value,l=((.slice none 0 0)::(.int .i64 0)::(.int .i64 0)::(.int .i64 lim)::vw130 U 4 []))∧h=h') _ ⟨rfl,trivial,exU rfl,rfl⟩ ?_;rintro nn l h' ⟨rfl,htt,⟨U,rfl⟩,rfl⟩ hnext;refine Z12 ?_;refine jqr rfl zq zO ?_;refine Z7 ?_;refine jah (Post:=fun _=>True) rfl zq zK (fun H' hH=>CallF.mono (f181_z m H') fun v h' e=>⟨e,trivial⟩) ?_
 rintro v _;refine Z3 ?_;refine jab (h) rfl Tryz.func150 rfl jaa ?_;refine Zs ?_
 rfl
theorem f99_z (m:Md Tryz.prog B) (h:Hp):FnC m 99 #[.slice none 0 0] h fun v h'=>h'=h:=by
 refine jad Tryz.func99 rfl rfl (l:=(.slice none 0 0)::uu10) rfl ?_
 intro cf cs K hK
 refine Z10 ?_;refine jco rfl zq zK (n':=0) zA ?_;refine jah (Post:=fun v=> ∃k:Int,v= .int .i64 k∧0≤k∧k≤1000) rfl zq zK (fun H' hH=>f151_c m H' 0 zO) ?_
 rintro v ⟨lim,rfl,_⟩;refine Zs ?_;refine jah (Post:=fun _=>True) rfl zq zK (fun H' hH=>CallF.mono (f150_z m H' lim) fun v h' e=>⟨e,trivial⟩) ?_
 rintro v _;refine Z2 ?_;refine jcu rfl ?_;refine jab (h) rfl Tryz.func99 rfl jaa ?_;refine Zs ?_
 rfl
theorem f100_z (m:Md Tryz.prog B) (h:Hp):FnC m 100 #[.slice none 0 0] h fun v h'=>h'=h∧v= .slice none 0 0:=by
 refine jad Tryz.func100 rfl rfl (l:=(.slice none 0 0)::uu60) rfl ?_
 intro cf cs K hK
 refine Z9 ?_;refine jnq rfl zq zO ?_;refine Z8 ?_;refine jab (h) rfl Tryz.func100 rfl jaa ?_;refine Zs ?_
 exact ⟨rfl,rfl⟩
theorem f28_c (m:Md Tryz.prog B) (h:Hp) (ra:RawTb B h b ps ns ks pw nw cw pb nb cb):FnC m 28 #[tbV b ps ns ks pw nw cw pb nb cb] h fun v h'=>h'=h∧v= .tuple [.int .i64 (if tbS b=0 then ((jaf b).length:Int) else 0),.int .i64 (tbS b)].toArray:=by
 refine jad Tryz.func28 rfl rfl (l:=(tbV b ps ns ks pw nw cw pb nb cb)::uu13) rfl ?_
 intro cf cs K hK
 refine Z2 ?_
 refine jaK rfl zq (fun q1=>jar (jae ?_));refine Z7 ?_;refine D53 ?_
 rintro v rfl;refine Z6 ?_
 refine ja5 rfl zq (fun hc=>?_) (fun hc=>?_);refine Z5 ?_
 rotate_left
 refine Z4 ?_
 have hz0:tbS b=0:=by omega
 have hk:=jbo.1 hz0
 have hbl:=jbM hk
 have h12:=jbu hk
 refine Z2 ?_;refine D18 ?_
 rintro v n9 ⟨q9,rfl,sh⟩;refine jaQ (jae ?_);refine D34 ?_
 rintro v n8 o8;refine jaQ (jae ?_);obtain ⟨p8,c8,rfl,_⟩:=jas (B:=B) o8
 refine Zs ?_
 all_goals
  refine Z4 ?_;refine jab (h) rfl Tryz.func28 rfl jaa ?_;refine Zs ?_
 ·exact ⟨rfl,by rw [if_pos hz0,hz0]⟩
 ·exact ⟨rfl,by rw [if_neg zD]⟩
theorem f45_c (m:Md Tryz.prog B) (h:Hp) (ra:RawTb B h b ps ns ks pw nw cw pb nb cb):FnC m 45 #[tbV b ps ns ks pw nw cw pb nb cb] h fun v h'=>h'=h∧ ∃w,v= .tuple [w,.int .i64 (tbS b)].toArray∧IsB (tbS b=0∧jb9 (cdT b)=true) w:=by
 refine jad Tryz.func45 rfl rfl (l:=(tbV b ps ns ks pw nw cw pb nb cb)::uu12) rfl ?_
 intro cf cs K hK
 refine Z2 ?_
 refine jaK rfl zq (fun q1=>jar (jae ?_));refine Z7 ?_;refine D53 ?_
 rintro v rfl;refine Z6 ?_
 refine ja5 rfl zq (fun hc=>?_) (fun hc=>?_);refine Z5 ?_
 rotate_left
 refine Z4 ?_
 have hz0:tbS b=0:=by omega
 have hk:=jbo.1 hz0
 have hbl:=jbM hk
 have h12:=jbu hk
 refine Z2 ?_;refine D18 ?_
 rintro v n9 ⟨q9,rfl,sh⟩;refine jaQ (jae ?_);refine jah (Post:=fun v=>IsB (jfx (cdT b) (jeo 0 (jac b).length)≠[]) v) rfl zq zK (fun H' hH=>f104_c m H' (sh.keeps (Ga zW hH)) zO) ?_;rintro v hv9;refine Zs ?_
 all_goals
  refine Z4 ?_;refine jab (h) rfl Tryz.func45 rfl jaa ?_;refine Zs ?_
 ·exact ⟨rfl,_,by rw [hz0],hv9.iff (by rw [pat_none];exact ⟨fun e=>⟨hz0,e⟩,fun e=>e.2⟩)⟩
 ·exact ⟨rfl,_,rfl,IsB.no fun e=>absurd e.1 zD⟩
theorem f137_c (m:Md Tryz.prog B) (h:Hp) (x:Int):FnC m 137 #[.int .i64 x] h fun v h'=>h'=h∧IsB (¬(0≤x∧x≤959)) v:=by
 refine jad Tryz.func137 rfl rfl (l:=[.int .i64 x,undef,undef,undef,undef,undef]) rfl ?_
 intro cf cs K hK
 refine Z7 ?_;refine D20 ?_
 rintro v (⟨hc,rfl⟩|⟨hc,rfl⟩);refine Z2 ?_
 rotate_left
 refine Z2 ?_
 all_goals
  refine Z3 ?_;refine jab (h) rfl Tryz.func137 rfl jaa ?_;refine Zs ?_
  exact E0
theorem f108_c (m:Md Tryz.prog B) (h:Hp) (v0:Value):FnC m 108 #[v0] h fun v h'=>h'=h∧v= .int .i64 0:=by
 refine jad Tryz.func108 rfl rfl (l:=[v0,undef,undef]) rfl ?_
 intro cf cs K hK
 refine Z9 ?_;refine jab (h) rfl Tryz.func108 rfl jaa ?_;refine Zs ?_
 exact ⟨rfl,rfl⟩
theorem f161_c (m:Md Tryz.prog B) (h:Hp) (v0:Value):FnC m 161 #[v0] h fun v h'=>h'=h∧v= .int .i64 0:=by
 refine jad Tryz.func161 rfl rfl (l:=[v0,undef,undef]) rfl ?_
 intro cf cs K hK
 refine Z9 ?_;refine jab (h) rfl Tryz.func161 rfl jaa ?_;refine Zs ?_
 exact ⟨rfl,rfl⟩
theorem f97_c (m:Md Tryz.prog B) (h:Hp) (c:Ce):FnC m 97 #[cV c.butt c.line c.st] h fun v h'=> ∃nw,h'=h++nw∧ ∃q,nw=[⟨true,q,.cells (ceL c).toArray 37 (0,0)⟩]∧v= .func (.func 149) #[] [.pointer (some ⟨q,0,none⟩)].toArray:=by
 refine jad Tryz.func97 rfl rfl (l:=[cV c.butt c.line c.st,undef,undef,undef]) rfl ?_
 intro cf cs K hK
 refine Z2 ?_
 refine jaK rfl zq (fun q1=>jar (jae ?_));refine Z4 ?_;refine jgT rfl zq ?_;refine Z3 ?_;refine jab (h++[⟨true,q1,.cells (ceL c).toArray 37 (0,0)⟩]) rfl Tryz.func97 rfl jaa ?_;refine Zs ?_
 exact ⟨_,rfl,q1,rfl,rfl⟩
theorem f89_c (m:Md Tryz.prog B) (h:Hp) (x y:Int):FnC m 89 #[.int .i64 x,.int .i64 y] h fun v h'=> ∃nw,h'=h++nw∧ ∃q q',nw=[⟨true,q,.cells [.int .i64 x].toArray 3 (0,0)⟩,⟨true,q',.cells [.int .i64 y].toArray 3 (0,0)⟩]∧v= .func (.func 145) #[] [.pointer (some ⟨q,0,none⟩),.pointer (some ⟨q',0,none⟩)].toArray:=by
 refine jad Tryz.func89 rfl rfl (l:=[.int .i64 x,.int .i64 y,undef,undef,undef,undef]) rfl ?_
 intro cf cs K hK
 refine Z2 ?_
 refine jaK rfl zq (fun q2=>jar (jae ?_));refine jaK rfl zq (fun q3=>jar (jae ?_));refine Z4 ?_;refine jgT rfl zq ?_;refine Z3 ?_;refine jab (h++[⟨true,q2,.cells [.int .i64 x].toArray 3 (0,0)⟩,⟨true,q3,.cells [.int .i64 y].toArray 3 (0,0)⟩]) rfl Tryz.func89 rfl jaa ?_;refine Zs ?_
 exact ⟨_,rfl,q2,q3,rfl,rfl⟩
theorem f149_c (m:Md Tryz.prog B) (h:Hp) (sh:Sheet B h b q tv) {c:Ce} (rq:RdN B h qc 0 (ceL c)):FnC m 149 #[.pointer (some ⟨q,0,none⟩),.pointer (some ⟨qc,0,none⟩)] h fun v h'=>h'=h∧v= .int .i64 (if c∈jac b then 0 else 6):=by
 obtain ⟨mrw,qm,hm1,hm2⟩:=sh.map
 haveI hmh:Has h qm mrw (jf3 (jac b)):=⟨hm2⟩
 refine jad Tryz.func149 rfl rfl (l:=(.pointer (some ⟨q,0,none⟩))::(.pointer (some ⟨qc,0,none⟩))::uu15) rfl ?_
 intro cf cs K hK
 refine Z6 ?_;refine jao [Zp 0,Zp 1,Zp 2,Zr 3,Zr 4,Zr 5,Zp 6,Zp 7,Zp 8,Zp 9,Zp 10] zK zK (gE _) ?_;refine Z3 ?_;refine jaR rfl zq hm1 ?_;refine jcs (vs:=ceL c) rfl zq rfl rq ?_
 refine jox (c:=c) (cs:=jac b) (k:=37) (e:=3) zK rfl zq (jae ?_);refine Z7 ?_
 by_cases hin:c∈jac b
 rw [jhI hin];refine Z6 ?_
 rotate_left
 rw [jon hin];refine Z5 ?_
 all_goals
  refine Z5 ?_;refine jab (h) rfl Tryz.func149 rfl jaa ?_;refine Zs ?_
  first|exact ⟨rfl,by rw [if_pos hin]⟩|exact ⟨rfl,by rw [if_neg hin]⟩
theorem f145_c (m:Md Tryz.prog B) (h:Hp) (sh:Sheet B h b q (tbL b ps ns ks pw nw cw pb nb cb)) (hsl:b.sts.length=ns) (hn:ns≤1000) {qs qa:Nat} {x:Int} (r1:Rd B h ⟨qs,0,none⟩ (.int .i64 st)) (r2:Rd B h ⟨qa,0,none⟩ (.int .i64 x)):FnC m 145 #[.pointer (some ⟨q,0,none⟩),.pointer (some ⟨qs,0,none⟩),.pointer (some ⟨qa,0,none⟩)] h fun v h'=>h'=h∧v= .int .i64 (if¬(0≤st∧st≤(ns:Int)-1) then 6 else if¬(0≤x∧x≤959) then 1 else 0):=by
 have hst:Rd B h ⟨q,0+0+0+1,none⟩ (.slice ps ns ks):=sh.tb 1 zS
 refine jad Tryz.func145 rfl rfl (l:=(.pointer (some ⟨q,0,none⟩))::(.pointer (some ⟨qs,0,none⟩))::(.pointer (some ⟨qa,0,none⟩))::uu18) rfl ?_
 intro cf cs K hK
 refine Z7 ?_;refine jao [Zp 1,Zp 2,Zp 3,Zp 4,Zp 5,Zr 0,Zr 6,Zp 7,Zp 8,Zk 9,Zp 10,Zp 11] zK zK (gE _) ?_;refine Z5 ?_;refine jaR rfl zq (r1.keeps SubH.sub) ?_;refine jaR rfl zq (hst.keeps SubH.sub) ?_;refine Z2 ?_;refine D20 ?_
 rintro v (⟨hc,rfl⟩|⟨hc,rfl⟩)
 ·refine Z7 ?_;refine jaR rfl zq (r2.keeps SubH.sub) ?_;refine D20 ?_
  rintro v (⟨hc,rfl⟩|⟨hc,rfl⟩);refine Z7 ?_
  rotate_left
  refine Z5 ?_
  all_goals
   refine Z5 ?_;refine jab (h) rfl Tryz.func145 rfl jaa ?_;refine Zs ?_
   exact E2
 ·refine Z10 ?_;refine jab (h) rfl Tryz.func145 rfl jaa ?_;refine Zs ?_
  exact E2
theorem f88_c (m:Md Tryz.prog B) (h:Hp) (ra:RawTb B h b ps ns ks pw nw cw pb nb cb) {gc gp:Array Value} {own:Int} (hcall:jbE Tryz.prog fid=true) (hown:TbOk b→ ∀(H':Hp) (q:Nat),h.Sublist H'→Sheet B H' b q (tbL b ps ns ks pw nw cw pb nb cb)→FnC m fid (gc++[Value.pointer (some ⟨q,0,none⟩)].toArray++gp) H' fun v h'=>h'=H'∧v= .int .i64 own):FnC m 88 #[tbV b ps ns ks pw nw cw pb nb cb,.func (.func fid) gc gp] h fun v h'=> ∃nz,h'=h++nz∧jgw B b (tbL b ps ns ks pw nw cw pb nb cb) (jaX b own) nz v:=by
 refine jad Tryz.func88 rfl rfl (l:=(tbV b ps ns ks pw nw cw pb nb cb)::(.func (.func fid) gc gp)::uu34) rfl ?_
 intro cf cs K hK
 refine Z2 ?_
 refine jaK rfl zq (fun q2=>jar (jae ?_));refine jaw rfl zq (fun q4=>jar (jae ?_));refine Z6 ?_;refine D53 ?_
 rintro v rfl;refine Z6 ?_
 refine ja5 rfl zq (fun hc=>?_) (fun hc=>?_)
 ·refine Z4 ?_;refine D37 ?_;refine Zs ?_;refine jhd ?_;refine jab (h) rfl Tryz.func88 rfl jaa ?_;refine Zs ?_
  exact ⟨[],by simp,by rw [openS_b zD];exact jgd zD⟩
 ·refine Z4 ?_
  have hz0:tbS b=0:=by omega
  have hk:=jbo.1 hz0
  have hbl:=jbM hk
  have h12:=jbu hk
  refine Z2 ?_;refine D18 ?_
  rintro v n9 ⟨q9,rfl,sh⟩;refine jaQ (jae ?_);refine D37 ?_
  refine jaw rfl zq (fun q7=>jar (jae ?_));refine D6 ?_;refine Z7 ?_;refine jeZ (Post:=fun v=>v=_) rfl zq hcall (fun H' hH=>hown hk H' q9 (sq hH) (sh.keeps (Ga (Ga (gX _ _) (gI _ _)) hH))) ?_
  rintro v rfl;refine Z6 ?_
  refine ja5 rfl zq (fun hc=>?_) (fun hc=>?_)
  ·refine Z4 ?_;refine D37 ?_;refine Zs ?_;refine jhd ?_;refine jab (h) rfl Tryz.func88 rfl jaa ?_;refine Zs ?_
   exact ⟨[],by simp,by rw [openS_o hz0 zD];exact jgd zD⟩
  ·refine Z8 ?_;refine D34 ?_
   rintro v n8 o8;refine jaQ (jae ?_);obtain ⟨p8,c8,rfl,hc8,r8⟩:=jas (B:=B) o8
   refine Zs ?_;refine D9 ?_;refine Z6 ?_
   refine jaC rfl zq (fun hc=>?_) (fun hc=>?_)
   ·refine Z4 ?_;refine D37 ?_;refine jhd ?_;refine jab (h) rfl Tryz.func88 rfl jaa ?_;refine Zs ?_
    exact ⟨[],by simp,by rw [openS_9 hz0 zO (GQ.1 zO)];exact jgd zA⟩
   ·refine Z6 ?_;refine jhd ?_;refine jab (h++n9++n8) rfl Tryz.func88 rfl jaa ?_;refine Zs ?_
    have e:jaX b own=0:=jma hz0 zO (fun e=>hc (by rw [e];rfl))
    exact ⟨n9++n8,by rw [gG],_,_,_,_,by rw [e],fun _=>⟨q9,rfl,sh.keeps (gI _ _),rfl,hc8,r8.keeps (gX _ _)⟩⟩
end
section
variable [LaidO B]
def jgc (b:Tb) (c:Ce):Int:=if c∈jac b then 0 else 6
def jja (L:List Bo) (k j:Nat):List Int:=(L.take j).filterMap fun x=>xA x k
theorem jpX (hj:j<L.length) (h:xA (L.getD j []) k=some v):jja L k (j+1)=jja L k j++[v]:=by
 rw [jja,GY,gC hj,Gh,List.filterMap_append];rw [gB,gC hj] at h
 have h':xA L[j] k=some v:=h
 have e:[L[j]].filterMap (fun x=>xA x k)=[v]:=by simp only [List.filterMap_cons,h',List.filterMap_nil]
 rw [e];rfl
theorem jpY (hj:j<L.length) (h:xA (L.getD j []) k=none):jja L k (j+1)=jja L k j:=by
 rw [jja,GY,gC hj,Gh,List.filterMap_append];rw [gB,gC hj] at h
 have h':xA L[j] k=none:=h
 have e:[L[j]].filterMap (fun x=>xA x k)=[]:=by simp only [List.filterMap_cons,h',List.filterMap_nil]
 rw [e,gb];rfl
theorem outK_le (L:List Bo) (k j:Nat):(jja L k j).length≤j:=by
 have h1:=List.length_filterMap_le (fun x:Bo=>xA x k) (L.take j)
 have h2:=xI j L
 rw [jja];omega
theorem jng:z∈jja L k L.length↔ ∃x∈L,xA x k=some z:=by
 rw [jja,vC,List.mem_filterMap]
theorem asc_meaS (s:Str):Asc (jcr s):=by
 rw [jcr];split
 ·rw [jhR];unfold Asc
  rw [vf];exact ((Vl).filter _).imp fun h=>by omega
 ·exact List.Pairwise.nil
theorem asc_canS (h:k<(jac b).length):Asc (jlG (cdT b) L k):=by
 unfold Asc jlG
 rw [jaq b h];exact (asc_meaS _).filter _
theorem jnh (L:List Bo) (hL: ∀x∈L,okA (cdT b) x=true):z∈jlG (cdT b) L k↔ ∃x∈L,xA x k=some z:=by
 rw [jlG,gS,VN];simp only [decide_eq_true_eq]
 exact ⟨fun h=>h.2,fun ⟨x,hx,h⟩=>⟨(jdv.1 (hL x hx)).2.1 k z h,x,hx,h⟩⟩
theorem jis: ∀x∈jaf b,okA (cdT b) x=true:=fun x hx=>(jbf.1 hx).1
theorem jc9 {x:Bo} (h:x∈jaf b):x.length=(jac b).length:=by rw [←jay];exact jot h
theorem bo_at {e:Nat} {rw:Bool} {f:Nat×Nat} {x:Bo} [hx:Has h q rw (.cells (boL x).toArray e f)] (i:Nat) (hi:i<12):Rd B h ⟨q,1+(i:Int).toNat*1,none⟩ (.int .i64 ((xA x i).getD 0)):=by
 have:=bt_at (B:=B) (h:=h) (q:=q) (e:=e) (rw:=rw) (f:=f) (s:=jbX x) (ms:=jm9 x) (x:=hx) i (by rw [jby];exact hi)
 rw [jfc hi] at this
 exact this
theorem jgJ {x:Bo} (h:k<x.length):(jbX x).testBit k=(xA x k).isNone:=by
 rw [jcI];cases xA x k<;>simp [h]
def jdp (L:List Bo) (k j:Nat):Nat:=(L.take j).countP fun x=>(xA x k).isNone
theorem jhf (hj:j<L.length):jdp L k (j+1)=jdp L k j+if (xA (L.getD j []) k).isNone then 1 else 0:=by
 rw [jdp,GY,gC hj,Gh,Vd,gB,gC hj,List.countP_singleton];rfl
theorem jko (L:List Bo) (k j:Nat):jdp L k j≤j:=by
 have h1:=vM (p:=fun x:Bo=>(xA x k).isNone) (l:=L.take j)
 have h2:=xI j L
 rw [jdp];omega
theorem jiR (L:List Bo) (k:Nat):jdp L k L.length=jfk L k:=by rw [jdp,vC];rfl
def jmw (b:Tb) (c:Ce):List Int:=if jaX b (jgc b c)=0 then jlG (cdT b) (jaf b) (plN b c) else []
theorem jnN:jbE Tryz.prog 149=true:=by kernel_rfl
theorem jm1 {c:Ce} [x:Has h q true (.cells (ceL c).toArray 37 (0,0))]:RdN B h q 0 (ceL c):=fun j hj=>by
 rw [gz];refine Rd.held x.mem ?_
 rw [gV,gC hj,gB,gC hj];rfl
theorem RdN.keepsN {b o:Nat} (r:RdN B h b o vs) (k:h.Sublist H):RdN B H b o vs:=fun j hj=>(r j hj).keeps k
theorem f30_c (m:Md Tryz.prog B) (h:Hp) (ra:RawTb B h b ps ns ks pw nw cw pb nb cb) (c:Ce):FnC m 30 #[tbV b ps ns ks pw nw cw pb nb cb,cV c.butt c.line c.st] h fun v h'=>h'=h∧v= .tuple [.int .i64 (if jaX b (jgc b c)=0 then jeQ (jfk (jaf b) (plN b c)) (jaf b).length else 0),.int .i64 (jaX b (jgc b c))].toArray:=by
 refine jad Tryz.func30 rfl rfl (l:=(tbV b ps ns ks pw nw cw pb nb cb)::(cV c.butt c.line c.st)::uu47) rfl ?_
 intro cf cs K hK
 refine Z2 ?_
 refine jaK rfl zq (fun q2=>jar (jae ?_));refine jaK rfl zq (fun q3=>jar (jae ?_));refine Z4 ?_;refine jcF [0,1,2,3,4,5,6,7,8,9] zK zK (gE _) ?_
 refine DrawT.split 2 7 zA (DrawT.split 3 7 zA ?_ ?_) ?_
 refine D85 ?_;refine Z2 ?_;refine D7 ?_
 rintro v nz ⟨qs,rfl,rfl⟩;refine jaQ (jae ?_);refine D5 ?_
 rintro v n8 ⟨qp,p8,m8,c8,rfl,hz⟩;refine jaQ (jae ?_);refine Z3 ?_
 refine jaw rfl zq (fun q6=>jar (jae ?_));rotate_left
 refine D86 ?_;refine Z2 ?_;refine D7 ?_
 rintro v nz ⟨qs,rfl,rfl⟩;refine jaQ (jae ?_);refine jaw rfl zq (fun q6=>jar (jae ?_));refine D5 ?_
 rintro v n8 ⟨qp,p8,m8,c8,rfl,hz⟩;refine jaQ (jae ?_);refine Z3 ?_
 rotate_left
 refine D87 ?_;refine Z2 ?_
 refine jaw rfl zq (fun q6=>jar (jae ?_));refine D7 ?_
 rintro v nz ⟨qs,rfl,rfl⟩;refine jaQ (jae ?_);refine D5 ?_
 rintro v n8 ⟨qp,p8,m8,c8,rfl,hz⟩;refine jaQ (jae ?_);refine Z3 ?_
 all_goals
  refine D6 ?_;refine Z6 ?_
  refine ja5 rfl zq (fun hc=>?_) (fun hc=>?_)
  ·refine Z9 ?_;refine jab (h) rfl Tryz.func30 rfl jaa ?_;refine Zs ?_
   exact ⟨rfl,by rw [if_neg zD]⟩
  ·refine Z4 ?_
   have hz0:jaX b (jgc b c)=0:=by first|assumption|omega
   obtain ⟨q9,rfl,sh,rfl,hc8,rdB⟩:=hz hz0
   obtain ⟨hzb,hzo,hzn⟩:=jdG hz0
   have hk:=jbo.1 hzb
   have hbl:=jbM hk
   have h12:=jbu hk
   have hin:c∈jac b:=gu fun e=>by rw [jgc,if_neg e] at hzo;cases hzo
   have hpl:=ji8.2 hin
   obtain ⟨kk,hkk⟩: ∃kk,kk=plN b c:=⟨_,rfl⟩
   rw [←hkk] at hpl
   obtain ⟨mrw,qm,hm1,hm2⟩:=sh.map
   haveI hmh:Has n8 qm mrw (jf3 (jac b)):=⟨hm2⟩
   refine Z12 ?_;refine D30 ?_
   refine jag (fun nn l h'=> ∃(j:Nat),nn=(jaf b).length-j∧(j≤(jaf b).length)∧(∃U:Nat→Value,l=((tbV b ps ns ks pw nw cw pb nb cb)::(cV c.butt c.line c.st)::(U 2)::(.pointer (some ⟨q3,0,none⟩))::(U 4)::(U 5)::(.pointer (some ⟨q6,0,none⟩))::(U 7)::(.int .i64 (jdp (jaf b) kk j:Int))::vw13 U 9 ((.slice p8 (jaf b).length c8)::(.int .i64 ((jaf b).length:Int))::(.int .i64 (j:Int))::vw24 U 25 [])))∧h++[⟨true,q2,.cells (tbL b ps ns ks pw nw cw pb nb cb).toArray 25 (0,0)⟩,⟨true,q3,.cells (ceL c).toArray 37 (0,0)⟩]++[⟨true,qs,.cells (ceL c).toArray 37 (0,0)⟩]++n8++[⟨true,q6,.cells [.pointer (some ⟨q9,0,none⟩),.slice p8 (jaf b).length c8].toArray 112 (0,0)⟩]=h') _ ⟨0,rfl,by omega,exU rfl,rfl⟩ ?_;rintro nn l h' ⟨j,rfl,hj,⟨U,rfl⟩,rfl⟩ hnext;have hwk:=jko (jaf b) kk j
   refine Z2 ?_
   refine jal rfl zq (fun hc=>?_) (fun hc=>?_)
   ·refine Z7 ?_
    obtain ⟨rb,ro,hrp⟩:=rdB.ptr zO
    have rdB':=rdB
    rw [hrp] at rdB'
    have hxm:(jaf b).getD j []∈jaf b:=by rw [gB,gC zO];exact GR _
    have hxl:=jc9 hxm
    refine Zs ?_;refine D66 ?_;refine D84 ?_
    obtain ⟨x,hx⟩: ∃x,x=(jaf b).getD j []:=⟨_,rfl⟩
    rw [←hx] at hxm hxl⊢
    have hxb:=jcz (x:=x) zO
    refine jaw rfl zq (fun q10=>jar (jae ?_));refine jk9 rfl zq (jaG x) ?_;refine Z2 ?_;refine jao [Zp 0,Zp 2,Zr 1,Zr 3,Zp 4,Zp 5,Zr 6,Zr 7,Zr 8,Zk 9] zK zK (gE _) ?_;refine Z6 ?_;refine jaR rfl zq (hm1.keeps SubH.sub) ?_;refine Zs ?_;refine jlb (c:=c) (cs:=jac b) (k:=37) (e:=3) zK rfl zq ?_;refine jah (Post:=fun v=>IsB _ v) rfl zq zK (fun H' hH=>by
      rw [jhI hin,←hkk];exact f98_b m H' (jbX x) kk hxb zO) ?_
    rintro v (⟨hc,rfl⟩|⟨hc,rfl⟩);refine Z8 ?_
    rotate_left
    refine Z4 ?_
    all_goals
     refine Z5 ?_
    ·have hws:jdp (jaf b) kk (j+1)=jdp (jaf b) kk j:=by
      rw [jhf zO,←hx,←jgJ zO,if_neg hc];rfl
     rw [←hws];exact m.weak jaa (hnext _ _ _ zO ⟨j+1,rfl,by omega,exU rfl,rfl⟩)
    ·have hws:jdp (jaf b) kk (j+1)=jdp (jaf b) kk j+1:=by
      rw [jhf zO,←hx,←jgJ zO,hc];rfl
     rw [show (jdp (jaf b) kk j:Int)+1=((jdp (jaf b) kk (j+1):Nat):Int) by rw [hws];rfl];exact m.weak jaa (hnext _ _ _ zO ⟨j+1,rfl,by omega,exU rfl,rfl⟩)
   ·refine Z6 ?_
    have hjn:j=(jaf b).length:=by omega
    rw [hjn,jiR];have hwa:=jko (jaf b) kk (jaf b).length
    rw [jiR] at hwa
    refine Z6 ?_
    refine jaC rfl zq (fun hc=>?_) (fun hc=>?_)
    ·refine Z9 ?_;refine jab (h) rfl Tryz.func30 rfl jaa ?_;refine Zs ?_
     refine ⟨rfl,?_⟩
     rw [if_pos hz0,hz0,←hkk];first
      |rw [jeQ,if_pos zO]
      |rw [jeQ,if_neg zO,if_pos zO]
      |rw [jeQ,if_neg zO,if_neg zO]
    ·refine Z8 ?_
     refine jaC rfl zq (fun hc=>?_) (fun hc=>?_);refine Z3 ?_
     rotate_left
     refine Z5 ?_
     all_goals
      refine Z6 ?_;refine jab (h) rfl Tryz.func30 rfl jaa ?_;refine Zs ?_
      refine ⟨rfl,?_⟩
      rw [if_pos hz0,hz0,←hkk];first
       |rw [jeQ,if_pos zO]
       |rw [jeQ,if_neg zO,if_pos zO]
       |rw [jeQ,if_neg zO,if_neg zO]
end
section
variable [LaidO B]
theorem f150_s (m:Md Tryz.prog B):PdqC m 12:=by
 intro h bk n c xs junk lim hl hn hk0 hk1
 refine jad Tryz.func150 rfl rfl (l:=(.slice (some ⟨bk,0,none⟩) n c)::(.int .i64 0)::(.int .i64 (n:Int))::(.int .i64 lim)::jo7) rfl ?_
 intro cf cs K hK
 refine Z9 ?_
 refine jag (fun nn l h'=> ∃(k:Nat),nn=k+1∧(k=0)∧(∃U:Nat→Value,l=((.slice (some ⟨bk,0,none⟩) n c)::(.int .i64 0)::(.int .i64 (n:Int))::(.int .i64 lim)::vw130 U 4 []))∧h++[jbc bk xs junk]=h') _ ⟨0,rfl,rfl,exU rfl,rfl⟩ ?_;rintro nn l h' ⟨k,rfl,hk,⟨U,rfl⟩,rfl⟩ hnext;refine Z12 ?_
 refine jbL rfl zq (fun hc=>?_) (fun hc=>?_)
 ·refine Z7 ?_;refine jbj rfl zq zK (f181_c m h hl zO 0 n zO (gK _)) ?_
  rintro v h' ⟨rfl,ys,rfl,hsw,hso⟩;refine Z3 ?_;refine jab (h++[jbc bk ys junk]) rfl Tryz.func150 rfl jaa ?_;refine Zs ?_
  exact ⟨rfl,ys,rfl,hsw,hso⟩
 ·exfalso
  omega
theorem f29_n (m:Md Tryz.prog B) (h:Hp) (hP:PdqC m N) (hN:N≤60000) (ra:RawTb B h b ps ns ks pw nw cw pb nb cb) (c:Ce) (hbN:tbS b=0→(jaf b).length≤N):FnC m 29 #[tbV b ps ns ks pw nw cw pb nb cb,cV c.butt c.line c.st] h fun v h'=> ∃new,h'=h++new∧ ∃w,v= .tuple [w,.int .i64 (jaX b (jgc b c))].toArray∧RdI B new w (jmw b c):=by
 refine jad Tryz.func29 rfl rfl (l:=(tbV b ps ns ks pw nw cw pb nb cb)::(cV c.butt c.line c.st)::uu51) rfl ?_
 intro cf cs K hK
 refine Z2 ?_
 refine jaK rfl zq (fun q2=>jar (jae ?_));refine jaK rfl zq (fun q3=>jar (jae ?_));refine Z4 ?_;refine jcF [0,1,2,3,4,5,6,7,8,9] zK zK (gE _) ?_
 refine DrawT.split 2 7 zA (DrawT.split 3 7 zA ?_ ?_) ?_
 refine D85 ?_;refine Z2 ?_;refine D7 ?_
 rintro v nz ⟨qs,rfl,rfl⟩;refine jaQ (jae ?_);refine D5 ?_
 rintro v n8 ⟨qp,p8,m8,c8,rfl,hz⟩;refine jaQ (jae ?_);refine Z3 ?_
 refine jaw rfl zq (fun q6=>jar (jae ?_));rotate_left
 refine D86 ?_;refine Z2 ?_;refine D7 ?_
 rintro v nz ⟨qs,rfl,rfl⟩;refine jaQ (jae ?_);refine jaw rfl zq (fun q6=>jar (jae ?_));refine D5 ?_
 rintro v n8 ⟨qp,p8,m8,c8,rfl,hz⟩;refine jaQ (jae ?_);refine Z3 ?_
 rotate_left
 refine D87 ?_;refine Z2 ?_
 refine jaw rfl zq (fun q6=>jar (jae ?_));refine D7 ?_
 rintro v nz ⟨qs,rfl,rfl⟩;refine jaQ (jae ?_);refine D5 ?_
 rintro v n8 ⟨qp,p8,m8,c8,rfl,hz⟩;refine jaQ (jae ?_);refine Z3 ?_
 all_goals
  refine D6 ?_;refine Z6 ?_
  refine ja5 rfl zq (fun hc=>?_) (fun hc=>?_)
  ·refine Z9 ?_;refine jab (h) rfl Tryz.func29 rfl jaa ?_;refine Zs ?_
   exact ⟨[],by simp,_,rfl,by rw [jmw,if_neg zD];exact ⟨none,0,rfl,⟨none,0,rfl,rfl,.inl ⟨rfl,rfl⟩⟩⟩⟩
  ·refine Z4 ?_
   have hz0:jaX b (jgc b c)=0:=by first|assumption|omega
   obtain ⟨q9,rfl,sh,rfl,hc8,rdB⟩:=hz hz0
   obtain ⟨hzb,hzo,hzn⟩:=jdG hz0
   have hk:=jbo.1 hzb
   have hbl:=jbM hk
   have h12:=jbu hk
   have hin:c∈jac b:=gu fun e=>by rw [jgc,if_neg e] at hzo;cases hzo
   have hpl:=ji8.2 hin
   obtain ⟨kk,hkk⟩: ∃kk,kk=plN b c:=⟨_,rfl⟩
   rw [←hkk] at hpl
   obtain ⟨mrw,qm,hm1,hm2⟩:=sh.map
   haveI hmh:Has n8 qm mrw (jf3 (jac b)):=⟨hm2⟩
   refine jao [Zp 0,Zr 1,Zp 2,Zp 3,Zr 4,Zr 5,Zr 6,Zp 7] zK zK (gE _) ?_;refine Z4 ?_;refine jaR rfl zq (hm1.keeps (by first|exact SubH.sub|exact gX _ _)) ?_;refine Zs ?_;refine jlb (c:=c) (cs:=jac b) (k:=37) (e:=3) zK rfl zq ?_;rw [jhI hin,←hkk,GB];refine Z15 ?_;refine D30 ?_
   refine jag (fun nn l h'=> ∃(j:Nat) (wp:Option Addr) (wc:Nat) (M:Hp),nn=(jaf b).length-j∧(j≤(jaf b).length)∧(OwnS 3 1 (.slice wp (jja (jaf b) kk j).length wc) (jja (jaf b) kk j).length (jav (jja (jaf b) kk j)) M)∧((jja (jaf b) kk j)=[]→wp=none∧wc=0∧M=[])∧(∃U:Nat→Value,l=((tbV b ps ns ks pw nw cw pb nb cb)::(cV c.butt c.line c.st)::(U 2)::(.pointer (some ⟨q3,0,none⟩))::(U 4)::(U 5)::(.pointer (some ⟨q6,0,none⟩))::(U 7)::(.int .i64 (kk:Int))::(.slice wp (jja (jaf b) kk j).length wc)::vw20 U 10 ((.slice p8 (jaf b).length c8)::(.int .i64 ((jaf b).length:Int))::(.int .i64 (j:Int))::vw20 U 33 [])))∧h++[⟨true,q2,.cells (tbL b ps ns ks pw nw cw pb nb cb).toArray 25 (0,0)⟩,⟨true,q3,.cells (ceL c).toArray 37 (0,0)⟩]++[⟨true,qs,.cells (ceL c).toArray 37 (0,0)⟩]++n8++[⟨true,q6,.cells [.pointer (some ⟨q9,0,none⟩),.slice p8 (jaf b).length c8].toArray 112 (0,0)⟩]++M=h') _ ⟨0,none,0,[],rfl,by omega,OwnS.nil,fun _=>⟨rfl,rfl,rfl⟩,exU rfl,(by rw [gb])⟩ ?_;rintro nn l h' ⟨j,wp,wc,M,rfl,hj,how,hze,⟨U,rfl⟩,rfl⟩ hnext;have hol:=outK_le (jaf b) kk j
   refine Z2 ?_
   refine jal rfl zq (fun hc=>?_) (fun hc=>?_)
   ·refine Z7 ?_
    obtain ⟨rb,ro,hrp⟩:=rdB.ptr zO
    have rdB':=rdB
    rw [hrp] at rdB'
    have hxm:(jaf b).getD j []∈jaf b:=by rw [gB,gC zO];exact GR _
    have hxl:=jc9 hxm
    refine Zs ?_;refine D66 ?_;refine D84 ?_
    obtain ⟨x,hx⟩: ∃x,x=(jaf b).getD j []:=⟨_,rfl⟩
    rw [←hx] at hxm hxl⊢
    have hxb:=jcz (x:=x) zO
    refine jaw rfl zq (fun q11=>jar (jae ?_));refine jk9 rfl zq (jaG x) ?_;refine Z6 ?_;refine jah (Post:=fun v=>IsB _ v) rfl zq zK (fun H' hH=>f98_b m H' (jbX x) kk hxb zO) ?_;rintro v (⟨hc,rfl⟩|⟨hc,rfl⟩);refine Z5 ?_
    rotate_left
    refine Z9 ?_;refine jaR rfl zq (bo_at kk zO) ?_
    refine jdx kdq rfl zq zA zA rfl (fun q46=>jar (jae ?_));refine ja2 rfl zq rfl how kdq zO zO (fun w47 n47 o47=>jae ?_);obtain ⟨p47,c47,rfl,hc47,r47⟩:=jas (B:=B) o47
    refine Z2 ?_
    all_goals
     refine Z5 ?_
    ·have hxs:xA x kk=some ((xA x kk).getD 0):=by
      cases e:xA x kk with
      |none=>exact absurd (by rw [jgJ zO,e];rfl) hc
      |some v=>rfl
     have hks:=jpX (L:=jaf b) (k:=kk) (j:=j) zO (hx▸hxs)
     have hkl:(jja (jaf b) kk (j+1)).length=(jja (jaf b) kk j).length+1:=by rw [hks];simp
     rw [←hkl];refine m.weak (h':=h++[⟨true,q2,.cells (tbL b ps ns ks pw nw cw pb nb cb).toArray 25 (0,0)⟩,⟨true,q3,.cells (ceL c).toArray 37 (0,0)⟩]++[⟨true,qs,.cells (ceL c).toArray 37 (0,0)⟩]++n8++[⟨true,q6,.cells [.pointer (some ⟨q9,0,none⟩),.slice p8 (jaf b).length c8].toArray 112 (0,0)⟩]++n47) jjA ?_
     exact hnext _ _ _ zO ⟨j+1,p47,c47,n47,rfl,by omega,by rw [hkl,hks,jbh,←hx];exact o47,fun e=>by rw [hks] at e;simp at e,exU rfl,rfl⟩
    ·have hks:=jpY (L:=jaf b) (k:=kk) (j:=j) zO (by
      have e:=hc
      rw [jgJ zO,vl] at e
      rw [←hx];exact e)
     rw [←hks];refine m.weak (h':=h++[⟨true,q2,.cells (tbL b ps ns ks pw nw cw pb nb cb).toArray 25 (0,0)⟩,⟨true,q3,.cells (ceL c).toArray 37 (0,0)⟩]++[⟨true,qs,.cells (ceL c).toArray 37 (0,0)⟩]++n8++[⟨true,q6,.cells [.pointer (some ⟨q9,0,none⟩),.slice p8 (jaf b).length c8].toArray 112 (0,0)⟩]++M) jjA ?_
     exact hnext _ _ _ zO ⟨j+1,wp,wc,M,rfl,by omega,by rw [hks];exact how,by rw [hks];exact hze,exU rfl,rfl⟩
   ·refine Z5 ?_
    have hbN2:=hbN hzb
    obtain rfl:j=(jaf b).length:=by omega
    by_cases h0:jja (jaf b) kk (jaf b).length=[]
    ·obtain ⟨rfl,rfl,rfl⟩:=hze h0
     rw [show (jja (jaf b) kk (jaf b).length).length=0 by rw [h0];rfl];refine Z2 ?_;refine jah (Post:=fun _=>True) rfl zq zK (fun H' hH=>CallF.mono (f99_z m H') fun v h' e=>⟨e,trivial⟩) ?_
     rintro v _;refine Z5 ?_;refine jah (Post:=fun v=>v= .slice none 0 0) rfl zq zK (fun H' hH=>f100_z m H') ?_
     rintro v rfl;refine Z5 ?_;refine jab (h) rfl Tryz.func29 rfl jaa ?_;refine Zs ?_
     have hcl:jmw b c=jlG (cdT b) (jaf b) kk:=by rw [jmw,if_pos hz0,←hkk]
     have hce:jlG (cdT b) (jaf b) kk=[]:=by
      rw [List.eq_nil_iff_forall_not_mem];intro z hzz
      rw [jnh _ jis,←jng,h0] at hzz
      cases hzz
     exact ⟨[],by simp,_,by rw [hz0],by rw [hcl,hce];exact ⟨none,0,rfl,⟨none,0,rfl,rfl,.inl ⟨rfl,rfl⟩⟩⟩⟩
    ·obtain ⟨bk,c9,junk,hw9,rfl,hbk1,hbk2⟩:=jpW how (vT.2 h0)
     cases hw9
     refine Z2 ?_;refine jbj rfl zq zK (f99_c m _ hP hN hbk1 zO) ?_
     rintro v h' ⟨rfl,ys,rfl,hsw,hso⟩;refine Zs ?_
     have hyl:=hsw.length
     refine Z4 ?_;refine jbj rfl zq zK (f100_c m _ (show ys.length=_ by omega) hbk2 zO) ?_
     rintro v h' ⟨n11,rfl,k11,hk',ho'⟩;refine Z5 ?_;refine jab (h++n11) rfl Tryz.func29 rfl jaa ?_;refine Zs ?_
     have hcl:jmw b c=jlG (cdT b) (jaf b) kk:=by rw [jmw,if_pos hz0,←hkk]
     have hyn:ys.length=(jja (jaf b) kk (jaf b).length).length:=by omega
     rw [←hyn] at hso ho' hk'
     subst hk'
     have hye:jcL ys ys.length=jlG (cdT b) (jaf b) kk:=jnQ (jhj hso _ (gK _)).1 (asc_canS hpl) fun z=>by
      rw [jp7 hso,jnh _ jis,←jng];exact (hsw.perm zO).mem_iff
     rw [hye] at ho'
     obtain ⟨p11,c11,rfl,_,r11⟩:=jas (B:=B) ho'
     exact ⟨n11,rfl,_,by rw [hz0],by rw [hcl];exact ⟨p11,c11,rfl,r11⟩⟩
theorem f29_c (m:Md Tryz.prog B) (h:Hp) (ra:RawTb B h b ps ns ks pw nw cw pb nb cb) (c:Ce):FnC m 29 #[tbV b ps ns ks pw nw cw pb nb cb,cV c.butt c.line c.st] h fun v h'=> ∃new,h'=h++new∧ ∃w,v= .tuple [w,.int .i64 (jaX b (jgc b c))].toArray∧RdI B new w (jmw b c):=by
 exact f29_n m h (f150_all m) zA ra c fun hz=>GM (jbM (jbo.1 hz)) zA
theorem f29_s (m:Md Tryz.prog B) (h:Hp) (ra:RawTb B h b ps ns ks pw nw cw pb nb cb) (c:Ce) (hb:(jaf b).length≤12):FnC m 29 #[tbV b ps ns ks pw nw cw pb nb cb,cV c.butt c.line c.st] h fun v h'=> ∃new,h'=h++new∧ ∃w,v= .tuple [w,.int .i64 (jaX b (jgc b c))].toArray∧RdI B new w (jmw b c):=f29_n m h (f150_s m) zA ra c fun _=>hb
end
section
variable [LaidO B]
section
variable {bt:Bool} {st p v lo hi:Int} {d:Cd} {o:Option Int} {s:Int×Int}
theorem jcp (h:d.st≠st):jdN bt st p d o s=s:=by cases o with|none=>rfl|some v=>rw [jdN,if_pos h]
theorem jdz:jdN bt st p d none s=s:=rfl
theorem jdm (h:d.st=st) (hb:d.butt=bt):jdN bt st p d (some v) (lo,hi)=(if d.lat≤p then max lo v else lo,if p≤d.lat then min hi v else hi):=by
 rw [jdN,if_neg (fun e=>e h),if_pos hb]
theorem jcq (h:d.st=st) (hb:d.butt≠bt):jdN bt st p d (some v) (lo,hi)=(if v<p then max lo d.lat else lo,if p<v then min hi d.lat else hi):=by
 rw [jdN,if_neg (fun e=>e h),if_neg hb]
end
theorem jaj {a c:Prop} [Decidable a] [Decidable c] {x y w:Int}:(a→c→((if a then x else y,if c then z else w):Int×Int)=(x,z))∧(a→ ¬c→((if a then x else y,if c then z else w):Int×Int)=(x,w))∧(¬a→c→((if a then x else y,if c then z else w):Int×Int)=(y,z))∧(¬a→ ¬c→((if a then x else y,if c then z else w):Int×Int)=(y,w)):=
 ⟨fun h k=>by rw [if_pos h,if_pos k],fun h k=>by rw [if_pos h,if_neg k],fun h k=>by rw [if_neg h,if_pos k],fun h k=>by rw [if_neg h,if_neg k]⟩
theorem bdK_in {D:List Cd} {x:Bo} {bt:Bool} {st p:Int} (hd: ∀i,0≤(dA D i).lat∧(dA D i).lat≤959) (hx: ∀i v,xA x i=some v→0≤v∧v≤959): ∀k,(0≤(bdK D x bt st p k).1∧(bdK D x bt st p k).1≤959)∧(0≤(bdK D x bt st p k).2∧(bdK D x bt st p k).2≤959)
 |0=>⟨⟨vD 0,by show (0:Int)≤959;decide⟩,⟨by show (0:Int)≤959;decide,vD 959⟩⟩
 |k+1=>by
  have ih:=bdK_in (bt:=bt) (st:=st) (p:=p) hd hx k
  rw [jbR];generalize bdK D x bt st p k=s at ih⊢
  obtain ⟨lo,hi⟩:=s
  simp only at ih
  have h1:=hd k
  cases hv:xA x k with
  |none=>exact ih
  |some v=>
   have h2:=hx k v hv
   by_cases e:(dA D k).st=st
   ·by_cases e2:(dA D k).butt=bt
    ·rw [jdm e e2];simp only
     constructor<;>split<;>omega
    ·rw [jcq e e2];simp only
     constructor<;>split<;>omega
   ·rw [jcp e];exact ih
theorem meaS_in {s:Str} (h:z∈jcr s):0≤z∧z≤959:=by
 rw [jcr] at h
 split at h
 ·rw [jhR,gQ] at h
  obtain ⟨n,hn,rfl⟩:=h
  rw [gS,gP] at hn
  omega
 ·cases h
theorem cd_lat (k:TbOk b) (i:Nat):0≤(dA (cdT b) i).lat∧(dA (cdT b) i).lat≤959:=by
 by_cases h:i<(jac b).length
 ·rw [jaq b h];have hm:(jac b).getD i default∈jac b:=jak h
  exact ((k.lines _).ok _ (jd3 (jdl hm).1)).lat
 ·rw [dA,gB,ge (by rw [jay];omega)];decide
theorem boat_in {x:Bo} (h:x∈jaf b) (hv:xA x i=some v):0≤v∧v≤959:=by
 have h1:=(jdv.1 (jis x h)).2.1 i v hv
 have hi:i<(jac b).length:=gu fun e=>by
  rw [xA,gB,ge (by rw [jc9 h];omega)] at hv
  cases hv
 rw [jaq b hi] at h1
 exact meaS_in h1
theorem bdA_in (k:TbOk b) {x:Bo} (h:x∈jaf b) (bt:Bool) (st p:Int):(0≤(bdA (cdT b) x bt st p).1∧(bdA (cdT b) x bt st p).1≤959)∧(0≤(bdA (cdT b) x bt st p).2∧(bdA (cdT b) x bt st p).2≤959):=bdK_in (cd_lat k) (fun i v hv=>boat_in h hv) _
def jkB (b:Tb) (bt:Bool) (st p:Int):Int×Int:=spB (fun x=>bdA (cdT b) x bt st p) (jaf b)
def jl8 (b:Tb) (st p:Int):Int:=if¬(0≤st∧st≤(b.sts.length:Int)-1) then 6 else if¬(0≤p∧p≤959) then 1 else 0
def jcV (b:Tb) (bt:Bool) (st p:Int):Int×Int:=if jaX b (jl8 b st p)=0 then jkB b bt st p else (0,0)
theorem spBK_one {f:Bo→Int×Int} (h:0<L.length) (h1:(f (L.getD 0 [])).1≤959) (h2:0≤(f (L.getD 0 [])).2):jpl f L 1=f (L.getD 0 []):=by
 rw [jkC f L 0 h];have:jpl f L 0=(959,0):=by rw [jpl,xM];rfl
 rw [this];refine Prod.ext ?_ ?_
 ·show min 959 _=_
  omega
 ·show max 0 _=_
  omega
theorem f146_c (m:Md Tryz.prog B) (h:Hp) (sh:Sheet B h b q tv) {x:Bo} (hx:x.length=(jac b).length) (bt:Bool) (st p:Int):FnC m 146 #[.pointer (some ⟨q,0,none⟩),boV x,.bool bt,.int .i64 st,.int .i64 p] h fun v h'=>h'=h∧v= .tuple [.int .i64 (bdA (cdT b) x bt st p).1,.int .i64 (bdA (cdT b) x bt st p).2].toArray:=by
 have h12:=sh.twelve
 obtain ⟨pc,cc,hcv,hcc,hcr⟩:=sh.cells
 refine jad Tryz.func146 rfl rfl (l:=(.pointer (some ⟨q,0,none⟩))::(boV x)::(.bool bt)::(.int .i64 st)::(.int .i64 p)::uu81) rfl ?_
 intro cf cs K hK
 refine Z2 ?_
 refine jaK rfl zq (fun q6=>jar (jae ?_));refine Z13 ?_;refine D67 ?_;refine Z4 ?_
 refine jag (fun nn l h'=> ∃(i:Nat) (lo hi:Int),nn=(jac b).length-i∧(i≤(jac b).length)∧(bdK (cdT b) x bt st p i=(lo,hi))∧(∃U:Nat→Value,l=((.pointer (some ⟨q,0,none⟩))::(boV x)::(.bool bt)::(.int .i64 st)::(.int .i64 p)::(U 5)::(.pointer (some ⟨q6,0,none⟩))::(U 7)::(U 8)::(U 9)::(.int .i64 lo)::(.int .i64 hi)::vw8 U 12 ((.slice pc (jac b).length cc)::(.int .i64 ((jac b).length:Int))::(.int .i64 (i:Int))::vw63 U 23 [])))∧h++[⟨true,q6,.cells (boL x).toArray 136 (0,0)⟩]=h') _ ⟨0,0,959,rfl,by omega,rfl,exU rfl,rfl⟩ ?_;rintro nn l h' ⟨i,lo,hi,rfl,hi9,hbd,⟨U,rfl⟩,rfl⟩ hnext;refine Z2 ?_
 refine jal rfl zq (fun hc=>?_) (fun hc=>?_)
 ·refine Z7 ?_
  obtain ⟨pcb,pco,hpc⟩:=hcr.ptr zO
  have hcr':=hcr
  rw [hpc] at hcr'
  refine Z2 ?_;refine D94 ?_;refine jcs (vs:=[.bool (jha b ((jac b).getD i default)).butt,.int .i64 ((jac b).getD i default).line,.int .i64 (jha b ((jac b).getD i default)).st]) rfl zq rfl (hcr'.eat i zO zO) ?_
  refine jaw rfl zq (fun q13=>jar (jae ?_));refine Zs ?_;refine D6 ?_;refine Z7 ?_
  refine ja5 rfl zq (fun hc=>?_) (fun hc=>?_)
  ·refine Z13 ?_
   exact m.weak jaa (hnext _ _ _ zO ⟨i+1,_,_,rfl,by omega,by
    rw [jbR,hbd,jaq b zO];first
     |exact jcp zD
     |(rw [hv];first
       |exact jdz
       |(rw [jdm zD hbt];exact E53)
       |(rw [jcq zD hbt];exact E53)),exU rfl,rfl⟩)
  ·refine Z4 ?_;refine jah (Post:=fun v=>IsB _ v) rfl rfl zK (fun H' hH=>f98_b m H' (jbX x) i (jcz zO) zO) ?_
   rintro v (⟨hc,rfl⟩|⟨hc,rfl⟩)
   ·refine Zs ?_
    have hv:xA x i=none:=by
     rw [jgJ zO] at hc
     exact vl.1 hc
    refine Z8 ?_
    exact m.weak jaa (hnext _ _ _ zO ⟨i+1,_,_,rfl,by omega,by
     rw [jbR,hbd,jaq b zO];first
      |exact jcp zD
      |(rw [hv];first
        |exact jdz
        |(rw [jdm zD hbt];exact E53)
        |(rw [jcq zD hbt];exact E53)),exU rfl,rfl⟩)
   ·refine Zs ?_
    obtain ⟨v,hv⟩: ∃v,xA x i=some v:=by
     cases e:xA x i with
     |none=>exact absurd (by rw [jgJ zO,e];rfl) hc
     |some v=>exact ⟨v,rfl⟩
    refine Z5 ?_;refine jao [Zp 0,Zp 1,Zp 2,Zp 3,Zp 4,Zp 6,Zp 7,Zp 8,Zr 5,Zp 10,Zr 9,Zp 11] zK zK (gE _) ?_;refine Z8 ?_;refine D77 ?_;refine Zs ?_;refine jaR rfl zq (bo_at i zO) ?_
    rw [hv,GB];refine Z7 ?_
    refine jfL rfl zq zK (fun hbt=>?_) (fun hbt=>?_);refine Z10 ?_
    rotate_left
    refine Z15 ?_
    all_goals
     refine Z2 ?_;refine jog ?_;refine Z2 ?_
    ·refine jal rfl zq (fun hc=>?_) (fun hc=>?_)
     ·refine Z13 ?_;refine jqp rfl zq ?_;refine Z3 ?_;refine jog ?_;refine Z2 ?_
      refine jaD rfl zq (fun hc=>?_) (fun hc=>?_)
      ·refine Z13 ?_;refine jmg rfl zq ?_;refine Z7 ?_
       exact m.weak jaa (hnext _ _ _ zO ⟨i+1,_,_,rfl,by omega,by
        rw [jbR,hbd,jaq b zO];first
         |exact jcp zD
         |(rw [hv];first
           |exact jdz
           |(rw [jdm zD hbt];exact E53)
           |(rw [jcq zD hbt];exact E53)),exU rfl,rfl⟩)
      ·refine Z3 ?_
       refine jaC rfl rfl (fun hc=>?_) (fun hc=>?_);refine Z3 ?_
       rotate_left
       refine Z3 ?_
       all_goals
        refine Z9 ?_
        exact m.weak jaa (hnext _ _ _ zO ⟨i+1,_,_,rfl,by omega,by
         rw [jbR,hbd,jaq b zO];first
          |exact jcp zD
          |(rw [hv];first
            |exact jdz
            |(rw [jdm zD hbt];exact E53)
            |(rw [jcq zD hbt];exact E53)),exU rfl,rfl⟩)
     ·refine Z3 ?_
      refine jaC rfl rfl (fun hc=>?_) (fun hc=>?_);refine Z3 ?_
      rotate_left
      refine Z3 ?_
      all_goals
       refine Z5 ?_;refine jog ?_;refine Z2 ?_
       refine jaD rfl zq (fun hc=>?_) (fun hc=>?_)
       ·refine Z13 ?_;refine jmg rfl zq ?_;refine Z7 ?_
        exact m.weak jaa (hnext _ _ _ zO ⟨i+1,_,_,rfl,by omega,by
         rw [jbR,hbd,jaq b zO];first
          |exact jcp zD
          |(rw [hv];first
            |exact jdz
            |(rw [jdm zD hbt];exact E53)
            |(rw [jcq zD hbt];exact E53)),exU rfl,rfl⟩)
       ·refine Z3 ?_
        refine jaC rfl rfl (fun hc=>?_) (fun hc=>?_);refine Z3 ?_
        rotate_left
        refine Z3 ?_
        all_goals
         refine Z9 ?_
         exact m.weak jaa (hnext _ _ _ zO ⟨i+1,_,_,rfl,by omega,by
          rw [jbR,hbd,jaq b zO];first
           |exact jcp zD
           |(rw [hv];first
             |exact jdz
             |(rw [jdm zD hbt];exact E53)
             |(rw [jcq zD hbt];exact E53)),exU rfl,rfl⟩)
    ·refine jal rfl zq (fun hc=>?_) (fun hc=>?_)
     ·refine Z13 ?_;refine jqp rfl zq ?_;refine Z3 ?_;refine jog ?_;refine Z2 ?_
      refine jaD rfl zq (fun hc=>?_) (fun hc=>?_)
      ·refine Z13 ?_;refine jmg rfl zq ?_;refine Z7 ?_
       exact m.weak jaa (hnext _ _ _ zO ⟨i+1,_,_,rfl,by omega,by
        rw [jbR,hbd,jaq b zO];first
         |exact jcp zD
         |(rw [hv];first
           |exact jdz
           |(rw [jdm zD hbt];exact E53)
           |(rw [jcq zD hbt];exact E53)),exU rfl,rfl⟩)
      ·refine Z3 ?_
       refine jaC rfl rfl (fun hc=>?_) (fun hc=>?_);refine Z9 ?_;refine jmg rfl zq ?_;refine Z2 ?_
       rotate_left
       refine Z7 ?_
       all_goals
        refine Z5 ?_
        exact m.weak jaa (hnext _ _ _ zO ⟨i+1,_,_,rfl,by omega,by
         rw [jbR,hbd,jaq b zO];first
          |exact jcp zD
          |(rw [hv];first
            |exact jdz
            |(rw [jdm zD hbt];exact E53)
            |(rw [jcq zD hbt];exact E53)),exU rfl,rfl⟩)
     ·refine Z3 ?_
      refine jaC rfl rfl (fun hc=>?_) (fun hc=>?_);refine Z9 ?_;refine jqp rfl zq ?_;refine Z2 ?_
      rotate_left
      refine Z7 ?_
      all_goals
       refine Zs ?_;refine jog ?_;refine Z2 ?_
       refine jaD rfl zq (fun hc=>?_) (fun hc=>?_)
       ·refine Z13 ?_;refine jmg rfl zq ?_;refine Z7 ?_
        exact m.weak jaa (hnext _ _ _ zO ⟨i+1,_,_,rfl,by omega,by
         rw [jbR,hbd,jaq b zO];first
          |exact jcp zD
          |(rw [hv];first
            |exact jdz
            |(rw [jdm zD hbt];exact E53)
            |(rw [jcq zD hbt];exact E53)),exU rfl,rfl⟩)
       ·refine Z3 ?_
        refine jaC rfl rfl (fun hc=>?_) (fun hc=>?_);refine Z9 ?_;refine jmg rfl zq ?_;refine Z2 ?_
        rotate_left
        refine Z7 ?_
        all_goals
         refine Z5 ?_
         exact m.weak jaa (hnext _ _ _ zO ⟨i+1,_,_,rfl,by omega,by
          rw [jbR,hbd,jaq b zO];first
           |exact jcp zD
           |(rw [hv];first
             |exact jdz
             |(rw [jdm zD hbt];exact E53)
             |(rw [jcq zD hbt];exact E53)),exU rfl,rfl⟩)
 ·refine Z12 ?_;refine jab (h) rfl Tryz.func146 rfl jaa ?_;refine Zs ?_
  obtain rfl:i=(jac b).length:=by omega
  exact ⟨rfl,by rw [bdA,jay,hbd]⟩
theorem f91_c (m:Md Tryz.prog B) (h:Hp) (sh:Sheet B h b q tv) {x:Bo} (hx:x.length=(jac b).length) (st p:Int):FnC m 91 #[.pointer (some ⟨q,0,none⟩),boV x,.int .i64 st,.int .i64 p] h fun v h'=>h'=h∧v= .tuple [.int .i64 (bdA (cdT b) x false st p).1,.int .i64 (bdA (cdT b) x false st p).2].toArray:=by
 refine jad Tryz.func91 rfl rfl (l:=(.pointer (some ⟨q,0,none⟩))::(boV x)::(.int .i64 st)::(.int .i64 p)::uu13) rfl ?_
 intro cf cs K hK
 refine Z2 ?_
 refine jaK rfl zq (fun q5=>jar (jae ?_));refine Z6 ?_;refine jcs (vs:=boL x) rfl zq (jaG x) (jk0 (Has.mem (b:=q5)) (seg_all (jaG x)).eq) ?_;refine Z2 ?_;refine jah (Post:=fun v=>v=_) rfl zq zK (fun H' hH=>f146_c m H' (sh.keeps (sq hH)) hx false st p) ?_
 rintro v rfl;refine Z7 ?_;refine jab (h) rfl Tryz.func91 rfl jaa ?_;refine Zs ?_
 exact ⟨rfl,rfl⟩
theorem f93_c (m:Md Tryz.prog B) (h:Hp) (sh:Sheet B h b q tv) {x:Bo} (hx:x.length=(jac b).length) (st p:Int):FnC m 93 #[.pointer (some ⟨q,0,none⟩),boV x,.int .i64 st,.int .i64 p] h fun v h'=>h'=h∧v= .tuple [.int .i64 (bdA (cdT b) x true st p).1,.int .i64 (bdA (cdT b) x true st p).2].toArray:=by
 refine jad Tryz.func93 rfl rfl (l:=(.pointer (some ⟨q,0,none⟩))::(boV x)::(.int .i64 st)::(.int .i64 p)::uu13) rfl ?_
 intro cf cs K hK
 refine Z2 ?_
 refine jaK rfl zq (fun q5=>jar (jae ?_));refine Z6 ?_;refine jcs (vs:=boL x) rfl zq (jaG x) (jk0 (Has.mem (b:=q5)) (seg_all (jaG x)).eq) ?_;refine Z2 ?_;refine jah (Post:=fun v=>v=_) rfl zq zK (fun H' hH=>f146_c m H' (sh.keeps (sq hH)) hx true st p) ?_
 rintro v rfl;refine Z7 ?_;refine jab (h) rfl Tryz.func93 rfl jaa ?_;refine Zs ?_
 exact ⟨rfl,rfl⟩
theorem f90_c (m:Md Tryz.prog B) (h:Hp) {c:Nat} (rd:RdS B h 13 (.slice p n c) n (jax L)) (hc0:n≤c) (hn:0<n∧n≤100000) {gc gp:Array Value} {f:Bo→Int×Int} {x:Int} (hcall:jbE Tryz.prog fid=true) (hf: ∀i,i<n→ ∀H':Hp,h.Sublist H'→FnC m fid (gc++[boV (L.getD i []),.int .i64 st,.int .i64 x].toArray++gp) H' fun v h'=>h'=H'∧v= .tuple [.int .i64 (f (L.getD i [])).1,.int .i64 (f (L.getD i [])).2].toArray) (h1:(f (L.getD 0 [])).1≤959) (h2:0≤(f (L.getD 0 [])).2):FnC m 90 #[.agg [.pointer qv,.slice p n c].toArray,.func (.func fid) gc gp,.int .i64 st,.int .i64 x] h fun v h'=>h'=h∧v= .agg [.int .i64 (spB f L).1,.int .i64 (spB f L).2].toArray:=by
 refine jad Tryz.func90 rfl rfl (l:=(.agg [.pointer qv,.slice p n c].toArray)::(.func (.func fid) gc gp)::(.int .i64 st)::(.int .i64 x)::uu51) rfl ?_
 intro cf cs K hK
 refine Z2 ?_
 refine jaK rfl zq (fun q4=>jar (jae ?_));refine jaw rfl zq (fun q8=>jar (jae ?_));refine Z2 ?_
 obtain ⟨rb,ro,hrp⟩:=rd.ptr zO
 have rd':=rd
 rw [hrp] at rd'
 have hll:=rd.elen zA
 have rdc:=rd.cut (lo:=1) zO hc0
 rw [←jih] at rdc
 refine rr13 ?_;refine Z3 ?_;refine D66 ?_;refine jcs (vs:=boL (L.getD 0 [])) rfl zq (jaG _) (rd'.eat 0 zO zO) ?_;refine Z2 ?_;refine jeZ (Post:=fun v=>v=_) rfl zq hcall (fun H' hH=>hf 0 zO H' (sq hH)) ?_;rintro v rfl;refine Z11 ?_;refine D37 ?_
 refine jaw rfl zq (fun q11=>jar (jae ?_));refine D6 ?_;refine Z6 ?_;refine jg4 (a:=1) rfl zq rfl zO ?_;refine Z4 ?_
 refine jag (fun nn l h'=> ∃(k:Nat),nn=n-k∧(k+1≤n)∧(∃U:Nat→Value,l=((.agg [.pointer qv,.slice p n c].toArray)::(.func (.func fid) gc gp)::(.int .i64 st)::(.int .i64 x)::(.pointer (some ⟨q4,0,none⟩))::(U 5)::(U 6)::(U 7)::(.pointer (some ⟨q8,0,none⟩))::(U 9)::(U 10)::(.pointer (some ⟨q11,0,none⟩))::vw18 U 12 ((.slice (jlN 13 p c 1) (n-1) (c-1))::(.int .i64 ((n-1:Nat):Int))::(.int .i64 (k:Int))::vw22 U 33 [])))∧h++[⟨true,q4,.cells [.pointer qv,.slice p n c].toArray 112 (0,0)⟩,⟨true,q8,.cells [.int .i64 0,.int .i64 0].toArray 29 (0,0)⟩,⟨true,q11,.cells [.int .i64 (jpl f L (k+1)).1,.int .i64 (jpl f L (k+1)).2].toArray 29 (0,0)⟩]=h') _ ⟨0,rfl,by omega,exU rfl,(by rw [spBK_one zO h1 h2])⟩ ?_;rintro nn l h' ⟨k,rfl,hk,⟨U,rfl⟩,rfl⟩ hnext;refine Z2 ?_
 refine jal rfl zq (fun hc=>?_) (fun hc=>?_)
 ·refine Z7 ?_
  obtain ⟨cb,co,hcp⟩:=rdc.ptr zO
  have rdc':=rdc
  rw [hcp] at rdc'
  have hge:(L.drop 1).getD k default=L.getD (k+1) []:=by rw [gB,vA,vq 1 k,gB];rfl
  refine Zs ?_;refine jcR rfl zq hcp zO zO ?_;refine jcs (vs:=boL (L.getD (k+1) [])) rfl zq (jaG _) (hge▸rdc'.eat k zO zO) ?_
  refine jaw rfl zq (fun q13=>jar (jae ?_));refine jk9 rfl zq (jaG _) ?_;refine Z4 ?_;refine jcs (vs:=boL (L.getD (k+1) [])) rfl zq (jaG _) (jk0 (Has.mem (b:=q13)) (seg_all (jaG _)).eq) ?_;refine Z2 ?_;refine jeZ (Post:=fun v=>v=_) rfl zq hcall (fun H' hH=>hf (k+1) zO H' (sq hH)) ?_;rintro v rfl;refine Z11 ?_;refine jmg rfl zq ?_;refine Z3 ?_;refine jqp rfl zq ?_;refine D37 ?_;refine D6 ?_;refine Z6 ?_
  exact m.weak jaa (hnext _ _ _ zO ⟨k+1,rfl,by omega,exU rfl,(by rw [jkC f L (k+1) zO])⟩)
 ·refine Z7 ?_;refine D6 ?_;refine Z2 ?_;refine jab (h) rfl Tryz.func90 rfl jaa ?_;refine Zs ?_
  obtain rfl:n=k+1:=by omega
  rw [show k+1=L.length by omega,spBK_all];exact ⟨rfl,rfl⟩
theorem callB91:jbE Tryz.prog 91=true:=by kernel_rfl
theorem callB145:jbE Tryz.prog 145=true:=by kernel_rfl
theorem f21_c (m:Md Tryz.prog B) (h:Hp) (ra:RawTb B h b ps ns ks pw nw cw pb nb cb) (st x:Int):FnC m 21 #[tbV b ps ns ks pw nw cw pb nb cb,.int .i64 st,.int .i64 x] h fun v h'=>h'=h∧v= .tuple [.agg [.int .i64 (jcV b false st x).1,.int .i64 (jcV b false st x).2].toArray,.int .i64 (jaX b (jl8 b st x))].toArray:=by
 have hsl:b.sts.length=ns:=ra.s.elen zA
 have hns:=ra.sn
 refine jad Tryz.func21 rfl rfl (l:=(tbV b ps ns ks pw nw cw pb nb cb)::(.int .i64 st)::(.int .i64 x)::uu26) rfl ?_
 intro cf cs K hK
 refine Z2 ?_
 refine jaK rfl zq (fun q3=>jar (jae ?_));refine jaw rfl zq (fun q6=>jar (jae ?_));refine Z3 ?_;refine jcF [0,1,2,3,4,5,6,7,8,9,10] zK zK (gE _) ?_
 refine DrawT.split 3 8 zA (DrawT.split 4 8 zA ?_ ?_) ?_
 refine D74 ?_;refine Z3 ?_;refine D4 ?_
 rintro v nz ⟨qs,qa,rfl,rfl⟩;refine jaQ (jae ?_);refine D2 ?_
 rintro v n8 ⟨qp,p8,m8,c8,rfl,hz⟩;refine jaQ (jae ?_);refine Z3 ?_
 refine jaw rfl zq (fun q8=>jar (jae ?_));rotate_left
 refine D75 ?_;refine Z3 ?_;refine D4 ?_
 rintro v nz ⟨qs,qa,rfl,rfl⟩;refine jaQ (jae ?_);refine jaw rfl zq (fun q8=>jar (jae ?_));refine D2 ?_
 rintro v n8 ⟨qp,p8,m8,c8,rfl,hz⟩;refine jaQ (jae ?_);refine Z3 ?_
 rotate_left
 refine D76 ?_;refine Z3 ?_
 refine jaw rfl zq (fun q8=>jar (jae ?_));refine D4 ?_
 rintro v nz ⟨qs,qa,rfl,rfl⟩;refine jaQ (jae ?_);refine D2 ?_
 rintro v n8 ⟨qp,p8,m8,c8,rfl,hz⟩;refine jaQ (jae ?_);refine Z3 ?_
 all_goals
  refine D6 ?_;refine Z6 ?_
  refine ja5 rfl zq (fun hc=>?_) (fun hc=>?_)
  ·refine Z4 ?_;refine D37 ?_;refine Zs ?_;refine jhd ?_;refine jab (h) rfl Tryz.func21 rfl jaa ?_;refine Zs ?_
   exact ⟨rfl,by rw [jcV,if_neg zD]⟩
  ·refine Z4 ?_
   have hz0:jaX b (jl8 b st x)=0:=by first|assumption|omega
   obtain ⟨q9,rfl,sh,rfl,hc8,rdB⟩:=hz hz0
   obtain ⟨hzb,hzo,hzn⟩:=jdG hz0
   have hk:=jbo.1 hzb
   have hbl:=jbM hk
   have hpos:0<(jaf b).length:=vT.2 hzn
   have hxm: ∀i,i<(jaf b).length→(jaf b).getD i []∈jaf b:=fun i hi=>by rw [gB,gC hi];exact GR _
   have hin0:=bdA_in hk (hxm 0 hpos) false st x
   refine Z4 ?_;refine jgT rfl zq ?_;refine Z2 ?_;refine jah (Post:=fun v=>v= .agg [.int .i64 (jkB b false st x).1,.int .i64 (jkB b false st x).2].toArray) rfl zq zK (fun H' hH=>f90_c m H' (rdB.keeps (sq hH)) hc8 ⟨hpos,by omega⟩ (f:=fun y=>bdA (cdT b) y false st x) callB91 (fun i hi K hK=>by simpa using f91_c m K (sh.keeps (SubH.sub.trans (hH.trans hK))) (jc9 (hxm i hi)) st x) hin0.1.2 hin0.2.1) ?_
   rintro v rfl;refine Zs ?_;refine jhd ?_;refine jab (h) rfl Tryz.func21 rfl jaa ?_;refine Zs ?_
   exact ⟨rfl,by rw [jcV,if_pos hz0,hz0]⟩
theorem callB93:jbE Tryz.prog 93=true:=by kernel_rfl
theorem f23_c (m:Md Tryz.prog B) (h:Hp) (ra:RawTb B h b ps ns ks pw nw cw pb nb cb) (st x:Int):FnC m 23 #[tbV b ps ns ks pw nw cw pb nb cb,.int .i64 st,.int .i64 x] h fun v h'=>h'=h∧v= .tuple [.agg [.int .i64 (jcV b true st x).1,.int .i64 (jcV b true st x).2].toArray,.int .i64 (jaX b (jl8 b st x))].toArray:=by
 have hsl:b.sts.length=ns:=ra.s.elen zA
 have hns:=ra.sn
 refine jad Tryz.func23 rfl rfl (l:=(tbV b ps ns ks pw nw cw pb nb cb)::(.int .i64 st)::(.int .i64 x)::uu26) rfl ?_
 intro cf cs K hK
 refine Z2 ?_
 refine jaK rfl zq (fun q3=>jar (jae ?_));refine jaw rfl zq (fun q6=>jar (jae ?_));refine Z3 ?_;refine jcF [0,1,2,3,4,5,6,7,8,9,10] zK zK (gE _) ?_
 refine DrawT.split 3 8 zA (DrawT.split 4 8 zA ?_ ?_) ?_
 refine D74 ?_;refine Z3 ?_;refine D4 ?_
 rintro v nz ⟨qs,qa,rfl,rfl⟩;refine jaQ (jae ?_);refine D2 ?_
 rintro v n8 ⟨qp,p8,m8,c8,rfl,hz⟩;refine jaQ (jae ?_);refine Z3 ?_
 refine jaw rfl zq (fun q8=>jar (jae ?_));rotate_left
 refine D75 ?_;refine Z3 ?_;refine D4 ?_
 rintro v nz ⟨qs,qa,rfl,rfl⟩;refine jaQ (jae ?_);refine jaw rfl zq (fun q8=>jar (jae ?_));refine D2 ?_
 rintro v n8 ⟨qp,p8,m8,c8,rfl,hz⟩;refine jaQ (jae ?_);refine Z3 ?_
 rotate_left
 refine D76 ?_;refine Z3 ?_
 refine jaw rfl zq (fun q8=>jar (jae ?_));refine D4 ?_
 rintro v nz ⟨qs,qa,rfl,rfl⟩;refine jaQ (jae ?_);refine D2 ?_
 rintro v n8 ⟨qp,p8,m8,c8,rfl,hz⟩;refine jaQ (jae ?_);refine Z3 ?_
 all_goals
  refine D6 ?_;refine Z6 ?_
  refine ja5 rfl zq (fun hc=>?_) (fun hc=>?_)
  ·refine Z4 ?_;refine D37 ?_;refine Zs ?_;refine jhd ?_;refine jab (h) rfl Tryz.func23 rfl jaa ?_;refine Zs ?_
   exact ⟨rfl,by rw [jcV,if_neg zD]⟩
  ·refine Z4 ?_
   have hz0:jaX b (jl8 b st x)=0:=by first|assumption|omega
   obtain ⟨q9,rfl,sh,rfl,hc8,rdB⟩:=hz hz0
   obtain ⟨hzb,hzo,hzn⟩:=jdG hz0
   have hk:=jbo.1 hzb
   have hbl:=jbM hk
   have hpos:0<(jaf b).length:=vT.2 hzn
   have hxm: ∀i,i<(jaf b).length→(jaf b).getD i []∈jaf b:=fun i hi=>by rw [gB,gC hi];exact GR _
   have hin0:=bdA_in hk (hxm 0 hpos) true st x
   refine Z4 ?_;refine jgT rfl zq ?_;refine Z2 ?_;refine jah (Post:=fun v=>v= .agg [.int .i64 (jkB b true st x).1,.int .i64 (jkB b true st x).2].toArray) rfl zq zK (fun H' hH=>f90_c m H' (rdB.keeps (sq hH)) hc8 ⟨hpos,by omega⟩ (f:=fun y=>bdA (cdT b) y true st x) callB93 (fun i hi K hK=>by simpa using f93_c m K (sh.keeps (SubH.sub.trans (hH.trans hK))) (jc9 (hxm i hi)) st x) hin0.1.2 hin0.2.1) ?_
   rintro v rfl;refine Zs ?_;refine jhd ?_;refine jab (h) rfl Tryz.func23 rfl jaa ?_;refine Zs ?_
   exact ⟨rfl,by rw [jcV,if_pos hz0,hz0]⟩
end
section
variable [LaidO B]
theorem jfH (L:List Bo) (i:Nat): ∀(l:List Bo) (s:Nat),s≤(l.foldl (fun s x=>match xA x i with|some v=>max s (jfg L i v)|none=>s) s)∧(∀x∈l,∀v,xA x i=some v→jfg L i v≤(l.foldl (fun s x=>match xA x i with|some v=>max s (jfg L i v)|none=>s) s))∧((l.foldl (fun s x=>match xA x i with|some v=>max s (jfg L i v)|none=>s) s)=s∨ ∃x∈l,∃v,xA x i=some v∧(l.foldl (fun s x=>match xA x i with|some v=>max s (jfg L i v)|none=>s) s)=jfg L i v)
 |[],s=>⟨gK _,by simp,.inl rfl⟩
 |x::l,s=>by
  rw [vz];cases hx:xA x i with
  |none=>
   obtain ⟨h1,h2,h3⟩:=jfH L i l s
   refine ⟨h1,fun y hy v hv=>?_,h3.imp id fun ⟨y,hy,h⟩=>⟨y,gL _ hy,h⟩⟩
   rcases gN.1 hy with rfl|hy
   ·rw [hx] at hv
    cases hv
   ·exact h2 y hy v hv
  |some u=>
   obtain ⟨h1,h2,h3⟩:=jfH L i l (max s (jfg L i u))
   simp only
   refine ⟨by omega,fun y hy v hv=>?_,?_⟩
   ·rcases gN.1 hy with rfl|hy
    ·rw [hx] at hv
     cases hv
     omega
    ·exact h2 y hy v hv
   ·rcases h3 with h3|⟨y,hy,h⟩
    ·rcases (by omega:max s (jfg L i u)=s∨max s (jfg L i u)=jfg L i u) with e|e
     ·exact .inl (h3.trans e)
     ·exact .inr ⟨x,by simp,u,hx,h3.trans e⟩
    ·exact .inr ⟨y,gL _ hy,h⟩
theorem leftA_ge {x:Bo} (hx:x∈L) (hv:xA x i=some v):jfg L i v≤jdh L i:=(jfH L i L 0).2.1 x hx v hv
theorem jfG (L:List Bo) (i:Nat):jdh L i=0∨ ∃x∈L,∃v,xA x i=some v∧jdh L i=jfg L i v:=(jfH L i L 0).2.2
theorem jer (L:List Bo) (i:Nat) (v:Int):jfg L i v≤jdh L i:=by
 by_cases h: ∃x∈L,xA x i=some v
 ·obtain ⟨x,hx,hv⟩:=h
  exact leftA_ge hx hv
 ·have:jfg L i v=0:=by
   rw [jfg,vR];intro x hx hh
   exact h ⟨x,hx,of_decide_eq_true hh⟩
  omega
theorem jfW (L:List Bo) (i:Nat) (x:Bo) (v:Int):jfg (L++[x]) i v=jfg L i v+if xA x i=some v then 1 else 0:=by
 rw [jfg,Vd,List.countP_singleton];simp [jfg]
theorem jhV {x:Bo} (h:xA x i=none):jdh (L++[x]) i=jdh L i:=by
 have e: ∀v,jfg (L++[x]) i v=jfg L i v:=fun v=>by rw [jfW,h];simp
 refine Nat.le_antisymm ?_ ?_
 ·rcases jfG (L++[x]) i with h1|⟨y,_,v,_,h1⟩
  ·omega
  ·rw [h1,e];exact jer L i v
 ·rcases jfG L i with h1|⟨y,_,v,_,h1⟩
  ·omega
  ·rw [h1,←e];exact jer _ i v
theorem jhU {x:Bo} {u:Int} (h:xA x i=some u):jdh (L++[x]) i=max (jdh L i) (jfg L i u+1):=by
 have e: ∀v,jfg (L++[x]) i v=jfg L i v+if u=v then 1 else 0:=fun v=>by rw [jfW,h];simp
 refine Nat.le_antisymm ?_ ?_
 ·rcases jfG (L++[x]) i with h1|⟨y,_,v,_,h1⟩
  ·omega
  ·rw [h1,e];have:=jer L i v
   split
   ·rename_i e2
    subst e2
    omega
   ·omega
 ·have h1:=jer (L++[x]) i u
  rw [e,if_pos rfl] at h1
  have h2:jdh L i≤jdh (L++[x]) i:=by
   rcases jfG L i with h1|⟨y,_,v,_,h1⟩
   ·omega
   ·have:=jer (L++[x]) i v
    rw [e] at this
    omega
  omega
theorem jn4 (h:j<L.length):L.take (j+1)=L.take j++[L.getD j []]:=by
 rw [GY,gC h,gB,gC h];rfl
theorem leftA_le (L:List Bo) (i:Nat):jdh L i≤L.length:=by
 rcases jfG L i with h|⟨x,_,v,_,h⟩
 ·omega
 ·rw [h];exact vM
theorem jro (L:List Bo): ∀k,(jlJ L k).2≤L.length
 |0=>gK _
 |k+1=>by
  have:=jro L k
  rw [jfY,jgu];split
  ·simp only
   omega
  ·exact this
def cOfA (b:Tb) (o:Option Nat):Ce:=match o with|some j=>(jac b).getD j default|none=>default
def askR (b:Tb):Option Nat×Nat:=if jaX b 0=0 then jlJ (jaf b) (jac b).length else (none,0)
theorem callB108:jbE Tryz.prog 108=true:=by kernel_rfl
instance {c:Ce}:At (ceL c) 0 (.bool c.butt):=⟨rfl⟩
theorem f50_c (m:Md Tryz.prog B) (h:Hp) (ra:RawTb B h b ps ns ks pw nw cw pb nb cb):FnC m 50 #[tbV b ps ns ks pw nw cw pb nb cb] h fun v h'=>h'=h∧v= .tuple [ceV (cOfA b (askR b).1),.int .i64 ((askR b).2:Int),.bool (askR b).1.isSome,.int .i64 (jaX b 0)].toArray:=by
 refine jad Tryz.func50 rfl rfl (l:=(tbV b ps ns ks pw nw cw pb nb cb)::uu77) rfl ?_
 intro cf cs K hK
 refine Z2 ?_
 refine jaK rfl zq (fun q1=>jar (jae ?_));refine jaw rfl zq (fun q2=>jar (jae ?_));refine Z7 ?_;refine ja8 rfl zq zK (Post:=fun v nz=>jgw B b (tbL b ps ns ks pw nw cw pb nb cb) (jaX b 0) nz v) (fun H' hH=>f88_c m H' (ra.keeps (sq hH)) callB108 (fun hk K q hKs hs=>by simpa using f108_c m K _)) ?_
 rintro v n8 ⟨qp,p8,m8,c8,rfl,hz⟩;refine jaQ (jae ?_);refine Z3 ?_
 refine jaw rfl zq (fun q6=>jar (jae ?_));refine D6 ?_;refine Z6 ?_
 refine ja5 rfl zq (fun hc=>?_) (fun hc=>?_)
 ·refine Z4 ?_;refine D37 ?_;refine Zs ?_;refine D6 ?_;refine Z5 ?_;refine jab (h) rfl Tryz.func50 rfl jaa ?_;refine Zs ?_
  exact ⟨rfl,by rw [askR,if_neg zD];rfl⟩
 ·refine Z4 ?_
  have hz0:jaX b 0=0:=by first|assumption|omega
  obtain ⟨q9,rfl,sh,rfl,hc8,rdB⟩:=hz hz0
  obtain ⟨hzb,hzo,hzn⟩:=jdG hz0
  have hk:=jbo.1 hzb
  have hbl:=jbM hk
  have h12:=jbu hk
  obtain ⟨pc,cc,hcv,hcc,hcr⟩:=sh.cells
  refine Z13 ?_;refine D67 ?_;refine Z4 ?_
  refine jag (fun nn l h'=> ∃(i:Nat) (fd:Bool),nn=(jac b).length-i∧(i≤(jac b).length)∧(fd=(jlJ (jaf b) i).1.isSome)∧(∃U:Nat→Value,l=((tbV b ps ns ks pw nw cw pb nb cb)::(U 1)::(.pointer (some ⟨q2,0,none⟩))::(.int .i64 ((jlJ (jaf b) i).2:Int))::(.bool fd)::(U 5)::(.pointer (some ⟨q6,0,none⟩))::vw22 U 7 ((.slice pc (jac b).length cc)::(.int .i64 ((jac b).length:Int))::(.int .i64 (i:Int))::vw46 U 32 [])))∧h++[⟨true,q1,.cells (tbL b ps ns ks pw nw cw pb nb cb).toArray 25 (0,0)⟩,⟨true,q2,.cells (ceL (cOfA b (jlJ (jaf b) i).1)).toArray 37 (0,0)⟩]++n8++[⟨true,q6,.cells [.pointer (some ⟨q9,0,none⟩),.slice p8 (jaf b).length c8].toArray 112 (0,0)⟩]=h') _ ⟨0,false,rfl,by omega,rfl,exU rfl,rfl⟩ ?_;rintro nn l h' ⟨i,fd,rfl,hi,hfd,⟨U,rfl⟩,rfl⟩ hnext1;have hal:=jro (jaf b) i
  refine Z2 ?_
  refine jal rfl zq (fun hc=>?_) (fun hc=>?_)
  ·refine Z7 ?_
   obtain ⟨pcb,pco,hpc⟩:=hcr.ptr zO
   have hcr':=hcr
   rw [hpc] at hcr'
   refine Z2 ?_;refine D94 ?_;refine jcs (vs:=ceL ((jac b).getD i default)) rfl zq rfl (hcr'.eat i zO zO) ?_
   refine jaw rfl zq (fun q8=>jar (jae ?_));refine Zs ?_;refine jhd ?_
   refine k_mkmapI rfl zq (fun qm=>jar (jae ?_));refine Z15 ?_
   refine jag (fun nn l h'=> ∃(j:Nat) (es:List (Int×Int)),nn=(jaf b).length-j∧(j≤(jaf b).length)∧(∀v,cntI es v=(jfg ((jaf b).take j) i v:Int))∧(∃U:Nat→Value,l=((tbV b ps ns ks pw nw cw pb nb cb)::(U 1)::(.pointer (some ⟨q2,0,none⟩))::(.int .i64 ((jlJ (jaf b) i).2:Int))::(.bool fd)::(U 5)::(.pointer (some ⟨q6,0,none⟩))::(.int .i64 (i:Int))::(.pointer (some ⟨q8,0,none⟩))::(.map (some qm))::(.int .i64 (jdh ((jaf b).take j) i:Int))::vw18 U 11 ((.slice pc (jac b).length cc)::(.int .i64 ((jac b).length:Int))::(.int .i64 (i:Int))::vw6 U 32 ((.slice p8 (jaf b).length c8)::(.int .i64 ((jaf b).length:Int))::(.int .i64 (j:Int))::vw37 U 41 []))))∧h++[⟨true,q1,.cells (tbL b ps ns ks pw nw cw pb nb cb).toArray 25 (0,0)⟩,⟨true,q2,.cells (ceL (cOfA b (jlJ (jaf b) i).1)).toArray 37 (0,0)⟩]++n8++[⟨true,q6,.cells [.pointer (some ⟨q9,0,none⟩),.slice p8 (jaf b).length c8].toArray 112 (0,0)⟩,⟨true,q8,.cells (ceL ((jac b).getD i default)).toArray 37 (0,0)⟩,⟨true,qm,jqa es⟩]=h') _ ⟨0,[],rfl,by omega,fun v=>rfl,exU rfl,rfl⟩ ?_;rintro nn l h' ⟨j,es,rfl,hj,hes,⟨U,rfl⟩,rfl⟩ hnext2;have hlt:=leftA_le ((jaf b).take j) i
   have hlj:=xI j (jaf b)
   refine Z2 ?_
   refine jal rfl zq (fun hc=>?_) (fun hc=>?_)
   ·refine Z7 ?_
    obtain ⟨rb,ro,hrp⟩:=rdB.ptr zO
    have rdB':=rdB
    rw [hrp] at rdB'
    have hxm:(jaf b).getD j []∈jaf b:=by rw [gB,gC zO];exact GR _
    have hxl:=jc9 hxm
    have htk:=jn4 (L:=jaf b) (j:=j) zO
    refine Zs ?_;refine D66 ?_;refine D84 ?_
    obtain ⟨x,hx⟩: ∃x,x=(jaf b).getD j []:=⟨_,rfl⟩
    rw [←hx] at hxm hxl htk⊢
    have hxb:=jcz (x:=x) zO
    refine jaw rfl zq (fun q12=>jar (jae ?_));refine jk9 rfl zq (jaG x) ?_;refine Z6 ?_;refine jah (Post:=fun v=>IsB _ v) rfl zq zK (fun H' hH=>f98_b m H' (jbX x) i hxb zO) ?_;rintro v (⟨hc,rfl⟩|⟨hc,rfl⟩)
    ·refine Z10 ?_
     have hxn:xA x i=none:=by
      have e:=hc
      rw [jgJ zO] at e
      exact vl.1 e
     have hls:jdh ((jaf b).take (j+1)) i=jdh ((jaf b).take j) i:=by rw [htk];exact jhV hxn
     rw [←hls];exact m.weak jaa (hnext2 _ _ _ zO ⟨j+1,es,rfl,by omega,fun v=>by rw [hes v,htk,jfW,hxn];simp,exU rfl,rfl⟩)
    ·refine Zs ?_
     obtain ⟨u,hxv⟩: ∃u,xA x i=some u:=by
      cases e:xA x i with
      |none=>exact absurd (by rw [jgJ zO,e];rfl) hc
      |some v=>exact ⟨v,rfl⟩
     refine Z9 ?_;refine jaR rfl zq (bo_at i zO) ?_
     rw [hxv,GB];refine jla (k:=3) (e:=3) zK zK rfl zq ?_;refine joz rfl zq (by
      have h1:=hes u
      have h2:jfg ((jaf b).take j) i u≤_:=vM
      unfold jeB
      omega) ?_
     refine jqq (k:=3) (e:=3) zK zK rfl zq ?_;refine Z7 ?_;refine jaR rfl zq (bo_at i zO) ?_;rw [hxv,GB];refine jla (k:=3) (e:=3) zK zK rfl zq ?_;refine jqp rfl zq ?_;refine Z7 ?_;have hls:jdh ((jaf b).take (j+1)) i=max (jdh ((jaf b).take j) i) (jfg ((jaf b).take j) i u+1):=by rw [htk];exact jhU hxv
     rw [jlA,if_pos rfl,show max (jdh ((jaf b).take j) i:Int) (cntI es u+1)=((jdh ((jaf b).take (j+1)) i:Nat):Int) by rw [hls,hes];omega];exact m.weak jaa (hnext2 _ _ _ zO ⟨j+1,jiQ es u (cntI es u+1),rfl,by omega,fun v=>by
      rw [jlA,htk,jfW,hxv,hes,hes];by_cases e:v=u
      ·subst e
       simp
      ·rw [if_neg e,if_neg (by simp;exact fun a=>e a.symm)];simp,exU rfl,rfl⟩)
   ·refine Z5 ?_
    obtain rfl:j=(jaf b).length:=by omega
    rw [vC] at hlt⊢
    refine Z2 ?_
    refine jaD rfl zq (fun hc=>?_) (fun hc=>?_)
    ·refine Z3 ?_
     refine jal rfl rfl (fun hc=>?_) (fun hc=>?_);refine Z6 ?_;refine jhd ?_
     rotate_left
     refine Z4 ?_
     all_goals
      refine Z5 ?_
     ·have hst:jlJ (jaf b) (i+1)=jlJ (jaf b) i:=by rw [jfY,jgu,if_neg zO]
      rw [←hst];exact E54
     ·have hst:jlJ (jaf b) (i+1)=(some i,jdh (jaf b) i):=by rw [jfY,jgu,if_pos ⟨by omega,by omega⟩]
      rw [show (jdh (jaf b) i:Int)=(((jlJ (jaf b) (i+1)).2:Nat):Int) by rw [hst],show (jac b).getD i default=cOfA b (jlJ (jaf b) (i+1)).1 by rw [hst];rfl];exact m.weak jaa (hnext1 _ _ _ zO ⟨i+1,true,rfl,by omega,by rw [hst];rfl,exU rfl,rfl⟩)
    ·refine Z13 ?_
     have hst:jlJ (jaf b) (i+1)=jlJ (jaf b) i:=by rw [jfY,jgu,if_neg zO]
     rw [←hst];exact E54
  ·refine Z9 ?_;refine D6 ?_;refine Z5 ?_;refine jab (h) rfl Tryz.func50 rfl jaa ?_;refine Zs ?_
   obtain rfl:i=(jac b).length:=by omega
   exact ⟨rfl,by rw [askR,if_pos hz0,hz0,hfd]⟩
end
section
variable [LaidO B]
section
variable {m:Md P B} {ops:Array Oper} {l l':List Value} {S h h' H:Hp} {C:List Value→Hp→Prop} {kd:Kd} {r:List (Nat×Kd)} {d:Option Tmp} {ty:TypeId} {pos:String} {af:Array Edge} {g:Option (Nat×Bool)}
omit [LaidO B] in
theorem jok {t e:TypeId} {dd:Nat} (ht:P.underlying t=some (.slice e)) (p:Option Addr) (n c:Nat):Reads P B (Op.equalIn (dd+1) t (.slice p n c) (.slice none 0 0)) h p.isNone:=by
 unfold Op.equalIn
 refine Reads.bind (jai ht).reads ?_
 cases p with
 |none=>exact Reads.pure _
 |some a=>exact Reads.pure _
omit [LaidO B] in
theorem jfK {t e u:TypeId} {x:Operand} {c:Nat} (ho:ops[i]?=some ⟨d,.binOp .eql t x (.const (.slice none 0 0)) u,ty,pos,af,g⟩) (hw:Wt ops l g) [KHeap kd S h H] [ex:OpV l x (.slice p n c)] (ht:P.underlying t=some (.slice e)) [PutV l d (.bool p.isNone) l'] (c:RegK m S ops r l' h C):RegK m S ops ((i,kd)::r) l h C:=
 RegK.rd (v:= .bool p.isNone) ho hw (by
  have ey:ev l (.const (.slice none 0 0))= .slice none 0 0:=rfl
  simp only [execOp,ex.eq,ey]
  refine Reads.value (Reads.bind (a:=()) ?_ ?_)
  ·exact Reads.pure _
  ·show Reads P B (Op.equal t (.slice p n _) (.slice none 0 0)>>=fun b=>pure (Value.bool b)) H _
   exact Reads.bind (jok (dd:=9999) ht p n _) (Reads.pure _)) c
end
theorem jcv {v:Value} {new:Hp} (o:OwnS t k v n cs new) (h0:0<n): ∃q cap junk,v= .slice (some ⟨q,0,none⟩) n cap∧new=[⟨true,q,.cells (cs++junk).toArray t (0,0)⟩]∧cs.length=n*k∧cs.length+junk.length=cap*k∧n≤cap:=by
 cases o with
 |nil=>omega
 |blk hl hc hn=>exact ⟨_,_,_,rfl,by simp,hl,hc,hn⟩
theorem jm0 {c:Nat} (rd:RdS B h k (.slice none n c) n ys):ys=[]:=by
 obtain ⟨p',c',e,hl,hr⟩:=rd
 rcases hr with ⟨_,rfl⟩|⟨b,o,e2,_⟩
 ·exact GQ.1 zO
 ·cases e
  cases e2
theorem jk1 (t k q:Nat):OwnS t k (.slice (some ⟨q,0,none⟩) 0 0) 0 [] [⟨true,q,.cells ([]:List Value).toArray t (0,0)⟩]:=OwnS.blk (cs:=[]) (junk:=[]) zS zS (gK 0)
inductive OwnF:List Lp→Hp→Prop
 |nil:OwnF [] []
 |snoc {xs:List Lp} {M F:Hp} {x:Lp} (o:OwnF xs M) (f:OwnS 9 1 (.slice x.p x.ln.figs.length x.c) x.ln.figs.length (jax x.ln.figs) F):OwnF (xs++[x]) (M++F)
theorem OwnF.at (o:OwnF xs M) (hk:k<xs.length): ∃M1 F M2,M=M1++F++M2∧OwnS 9 1 (.slice (xs.getD k default).p (xs.getD k default).ln.figs.length (xs.getD k default).c) (xs.getD k default).ln.figs.length (jax (xs.getD k default).ln.figs) F∧ ∀x' F',OwnS 9 1 (.slice x'.p x'.ln.figs.length x'.c) x'.ln.figs.length (jax x'.ln.figs) F'→OwnF (xs.set k x') (M1++F'++M2):=by
 induction o with
 |nil=>simp at hk
 | @snoc xs M F x o f ih=>
  rw [gJ,vL] at hk
  by_cases e:k<xs.length
  ·obtain ⟨M1,F1,M2,rfl,h1,h2⟩:=ih e
   refine ⟨M1,F1,M2++F,by simp only [gG],?_,fun x' F' hf=>?_⟩
   ·rw [show (xs++[x]).getD k default=xs.getD k default by rw [jfN,if_pos e]];exact h1
   ·rw [vk _ _ e,←gG];exact .snoc (h2 x' F' hf) f
  ·obtain rfl:k=xs.length:=by omega
   refine ⟨M,F,[],by rw [gb],?_,fun x' F' hf=>?_⟩
   ·rw [show (xs++[x]).getD xs.length default=x by rw [jfN,if_neg zO,if_pos rfl]];exact f
   ·rw [vK _ _ (gK _),VK,List.set_cons_zero,gb];exact .snoc o hf
theorem OwnF.rd (o:OwnF xs M): ∀x∈xs,x.ln.figs.length≤x.c∧RdS B M 1 (.slice x.p x.ln.figs.length x.c) x.ln.figs.length (jax x.ln.figs):=by
 induction o with
 |nil=>simp
 | @snoc xs M F x o f ih=>
  intro y hy
  rcases gO.1 hy with hy|hy
  ·exact ⟨(ih y hy).1,(ih y hy).2.keeps (gI _ _)⟩
  ·obtain rfl:y=x:=by simpa using hy
   exact ⟨f.cap,f.rd (gX _ _)⟩
def HalfO (v:Value) (n:Nat) (lns:List Ln) (M:Hp):Prop:= ∃(lps:List Lp) (lp:Option Addr) (lc:Nat) (W FM:Hp),v= .slice lp n lc∧lps.map (·.ln)=lns∧OwnS 121 2 (.slice lp n lc) n (jax lps) W∧OwnF lps FM∧M=W++FM
theorem HalfO.rd {v:Value} (o:HalfO v n lns M): ∃p c,v= .slice p n c∧RdLn B M (.slice p n c) n lns:=by
 obtain ⟨lps,lp,lc,W,FM,rfl,e,ow,of',rfl⟩:=o
 exact ⟨lp,lc,rfl,lps,e,ow.rd (gI _ _),fun x hx=>⟨(of'.rd (B:=B) x hx).1,fun _=>(of'.rd x hx).2.keeps (gX _ _)⟩⟩
theorem jig {α:Type} [Enc α k] [Inhabited α] (xs:List α) (i:Nat) (h:i<xs.length) (x:α):jax (xs.set i x)=(jax xs).take (i*k)++Enc.enc x++(jax xs).drop ((i+1)*k):=by
 have e:xs.set i x=xs.take i++[x]++xs.drop (i+1):=by rw [GZ,if_pos h];simp
 rw [e,ja3,ja3,jlv,jih];simp [jax]
theorem jbn (xs:List Lp):(jax xs).length=xs.length*2:=jaO xs
theorem jqb (xs:List Lp) (i:Nat) (h:i<xs.length) (j:Nat) (hj:j<2):(jax xs)[i*2+j]?=(lpL (xs.getD i default))[j]?:=by
 have e:xs=xs.take i++[xs.getD i default]++xs.drop (i+1):=by
  rw [gG,Vp];rw [gB,gC h];simp
 have e2:jax xs=jax (xs.take i)++lpL (xs.getD i default)++jax (xs.drop (i+1)):=by
  conv=>lhs;rw [e]
  rw [ja3,ja3];simp only [jax,gb]
  rfl
 have hl:(jax (xs.take i)).length=i*2:=by rw [jbn,GN];congr 1;omega
 rw [e2,gG,gl zO,hl,show i*2+j-i*2=j by omega,gh zN]
theorem jkI (h:i<xs.length) {x:Lp} (hln:x.ln=(xs.getD i default).ln):SetSeg (jax xs++junk) (0+(i:Int).toNat*2+1) [.slice x.p x.ln.figs.length x.c] (jax (xs.set i x)++junk):=by
 have hl:=jbn xs
 refine jct zN ?_
 rw [gZ,gz,vk _ _ zO];congr 1
 refine List.ext_getElem? fun a=>?_
 rw [jig xs i h,vh];have h1:=jqb xs i h 0 zO
 have hlt:((jax xs).take (i*2)).length=i*2:=by rw [GN];omega
 by_cases e:i*2+1=a
 ·subst e
  rw [if_pos rfl,if_pos zO,gG,gl zO,hlt,show i*2+1-i*2=1 by omega];rfl
 ·rw [if_neg e];by_cases e1:a<i*2
  ·rw [gG,gh zO,Gz,if_pos e1]
  ·by_cases e2:a=i*2
   ·subst e2
    rw [gG,gl zO,hlt,VK,show i*2=i*2+0 by omega,h1];show some (Value.int .i64 x.ln.lat)=_
    rw [hln];rfl
   ·have hen:(Enc.enc x).length=2:=rfl
    rw [gG,gl zO,hlt,gl (by rw [hen];omega),hen,vA];congr 1
    omega
theorem jc3 (h:i<xs.length) {x:Lp} (hx:lpL x=lpL (xs.getD i default)):jax (xs.set i x)=jax xs:=by
 rw [jig xs i h];have e:=jig xs i h (xs.getD i default)
 have hs:xs.set i (xs.getD i default)=xs:=by
  rw [gB,gC h];simp
 rw [hs] at e
 conv=>rhs;rw [e]
 show _++lpL x++_=_++lpL _++_
 rw [hx]
theorem f162_c (m:Md Tryz.prog B) (h:Hp) {c:Nat} (rd:RdS B h 1 (.slice p n c) n (jax ss)) (hn:n≤1000):FnC m 162 #[.slice p n c] h fun v h'=> ∃new,h'=h++new∧OwnS 9 1 v n (jax ss) new:=by
 refine jad Tryz.func162 rfl rfl (l:=(.slice p n c)::uu7) rfl ?_
 intro cf cs K hK
 refine Z8 ?_
 rcases (by cases p<;>simp:p=none∨ ∃pa,p=some pa) with rfl|⟨pa,rfl⟩
 ·refine jfK (e:=9) rfl zq zK ?_;refine Z7 ?_;refine jab (h) rfl Tryz.func162 rfl jaa ?_;refine Zs ?_;have hys:=jm0 rd
  have hn0:n=0:=by
   have h1:=rd.elen zA
   have h2:=congrArg List.length hys
   rw [jaO,h1] at h2
   simp at h2
   omega
  subst hn0
  rw [hys];exact ⟨[],by simp,OwnS.nil⟩
 ·refine jfK (e:=9) rfl zq zK ?_;refine Z5 ?_;refine jqy kdq rfl zq (fun q5=>jar (jae ?_));refine Zs ?_
  refine k_app (F:=h) rfl zq (Weak.refl B _) (jk1 9 1 q5) (rd.keeps SubH.sub) (jd6 ss) (.inl rfl) zO zO (fun v' new' o'=>jae ?_);rw [gz,GC] at o'
  refine Z3 ?_;refine jab (h++new') rfl Tryz.func162 rfl jaa ?_;refine Zs ?_
  exact ⟨new',rfl,o'⟩
theorem f163_c (m:Md Tryz.prog B) (h:Hp) {c:Nat} {ss:List Lp} (rd:RdS B h 2 (.slice p n c) n (jax ss)) (hn:n≤1000):FnC m 163 #[.slice p n c] h fun v h'=> ∃new,h'=h++new∧OwnS 121 2 v n (jax ss) new:=by
 refine jad Tryz.func163 rfl rfl (l:=(.slice p n c)::uu7) rfl ?_
 intro cf cs K hK
 refine Z8 ?_
 rcases (by cases p<;>simp:p=none∨ ∃pa,p=some pa) with rfl|⟨pa,rfl⟩
 ·refine jfK (e:=121) rfl zq zK ?_;refine Z7 ?_;refine jab (h) rfl Tryz.func163 rfl jaa ?_;refine Zs ?_;have hys:=jm0 rd
  have hn0:n=0:=by
   have h1:=rd.elen zA
   have h2:=congrArg List.length hys
   rw [jaO,h1] at h2
   simp at h2
   omega
  subst hn0
  rw [hys];exact ⟨[],by simp,OwnS.nil⟩
 ·refine jfK (e:=121) rfl zq zK ?_;refine Z5 ?_;refine jqy kdq rfl zq (fun q5=>jar (jae ?_));refine Zs ?_
  refine k_app (F:=h) rfl zq (Weak.refl B _) (jk1 121 2 q5) (rd.keeps SubH.sub) (jd6 ss) (.inl rfl) zO zO (fun v' new' o'=>jae ?_);rw [gz,GC] at o'
  refine Z3 ?_;refine jab (h++new') rfl Tryz.func163 rfl jaa ?_;refine Zs ?_
  exact ⟨new',rfl,o'⟩
end
section
variable [LaidO B]
theorem lp_rd {rw:Bool} {fr:Nat×Nat} [hh:Has h q rw (.cells (jax xs++junk).toArray t fr)] {j:Int} (hj:j=i) (hi:i<xs.length):Rd B h ⟨q,0+j.toNat*2+1,none⟩ (.slice (xs.getD i default).p (xs.getD i default).ln.figs.length (xs.getD i default).c):=by
 subst hj
 refine Rd.held hh.mem ?_
 have:=jbn xs
 rw [gV,gh zO,show 0+(i:Int).toNat*2+1=i*2+1 by omega,jqb xs i hi 1 zO];rfl
theorem jgH {y:Lp} (hy:y.ln=(xs.getD i default).ln):(xs.set i y).map (·.ln)=xs.map (·.ln):=by
 refine vB zS fun a h1 h2=>?_
 simp only [vu,List.getElem_set]
 split
 ·rename_i e
  subst e
  rw [hy,gB,gC (by simpa using h2)];rfl
 ·rfl
theorem jkw (h:i<xs.length) (y:Lp):(xs.set i y).take (i+1)=xs.take i++[y]:=by
 rw [GZ,if_pos h,List.take_append,GN,show i+1-min i xs.length=1 by omega];simp [List.take_take]
theorem jli (h:i≠j) (y:Lp):(xs.set i y).getD j default=xs.getD j default:=by
 rw [gB,vE h,gB]
theorem jf7 {j:Int} (hj:j=i) (h:i<ss.length) (s:Str):SetSeg (jax ss++junk) (0+j.toNat*1) [str s] (jax (ss.set i s)++junk):=by
 subst hj
 have hl:(jax ss).length=ss.length:=by rw [jaO,Ge]
 refine jct zN ?_
 rw [gZ,gz,Ge,vk _ _ zO,jc2,jc2,Va]
theorem jnA {c:Ce} (hi:i<2) (h:c.butt=decide (i=1)):hL (jdA b c f) i=jo9 (hL b i) c.line.toNat c.st.toNat f:=by
 rw [jj6 _ hi,jj6 _ hi,ji2,if_pos h.symm]
theorem jqJ {c:Ce} (hi:i<2) (h:c.butt≠decide (i=1)):hL (jdA b c f) i=hL b i:=by
 rw [jj6 _ hi,jj6 _ hi,ji2,if_neg (fun e=>h e.symm)]
theorem jo8 (h: ∀l∈ls,l.figs.length≤1000∧ ∀f∈l.figs,f.length≤100000) (hf:f.length≤100000): ∀l∈jo9 ls i k f,l.figs.length≤1000∧ ∀f∈l.figs,f.length≤100000:=by
 intro l hl
 rcases List.mem_or_eq_of_mem_set hl with hl|rfl
 ·exact h l hl
 ·have hd:(ls.getD i default).figs.length≤1000∧ ∀f∈(ls.getD i default).figs,f.length≤100000:=by
   by_cases hi:i<ls.length
   ·exact h _ (jak hi)
   ·rw [gB,ge zO];exact ⟨Nat.zero_le _,fun f hf=>by cases hf⟩
  refine ⟨by simpa using hd.1,fun g hg=>?_⟩
  rcases List.mem_or_eq_of_mem_set hg with hg|rfl
  ·exact hd.2 g hg
  ·exact hf
theorem setF_sm (h:TbSm b) {c:Ce} (hf:f.length≤100000):TbSm (jdA b c f):=by
 unfold jdA
 split
 ·exact ⟨h.sts,h.wat,jo8 h.but hf⟩
 ·exact ⟨h.sts,jo8 h.wat hf,h.but⟩
theorem jgV (A W M:Hp) (x:Chunk):Weak B (A++[x]++W++M) (A++(W++M)):=by
 rw [gG (A++[x])];exact (Weak.sub ((gI A [x]).append_right _))
theorem jg0 (e:xs.map (·.ln)=ls) (h:i<xs.length) (f:Str) (p:Option Addr) (c:Nat):(xs.set i ⟨⟨(xs.getD i default).ln.lat,(xs.getD i default).ln.figs.set k f⟩,p,c⟩).map (·.ln)=jo9 ls i k f:=by
 subst e
 rw [jo9,Va];congr 1
 have:(xs.map (·.ln)).getD i default=(xs.getD i default).ln:=by
  rw [gB,gk,gC h,gB,gC h];rfl
 rw [this]
theorem f112_c (m:Md Tryz.prog B) (h:Hp) (rd:RdTb B h b ps ns ks pw nw cw pb nb cb) {c:Ce} (hc0:jec b c=true) (f:Str) (hf:f.length≤100000):FnC m 112 #[tbV b ps ns ks pw nw cw pb nb cb,cV c.butt c.line c.st,str f] h fun v h'=> ∃new ps' ks' pw' cw' pb' cb',h'=h++new∧v=tbV (jdA b c f) ps' ns ks' pw' nw cw' pb' nb cb'∧RawTb B new (jdA b c f) ps' ns ks' pw' nw cw' pb' nb cb':=by
 have hsl0:=rd.sl
 have hn1:=rd.n1
 have hn3:=rd.n3
 have hw2:=rd.w2
 have hb2:=rd.b2
 refine jad Tryz.func112 rfl rfl (l:=(tbV b ps ns ks pw nw cw pb nb cb)::(cV c.butt c.line c.st)::(str f)::uu64) rfl ?_
 intro cf cs K hK
 refine Z2 ?_
 refine jaK rfl zq (fun q3=>jar (jae ?_));refine jaK rfl zq (fun q4=>jar (jae ?_));refine jaw rfl zq (fun q6=>jar (jae ?_));refine Z5 ?_;refine ja8 rfl zq zK (Post:=fun v nz=>OwnS 9 1 v ns (jax b.sts) nz) (fun H' hH=>f162_c m H' (rd.s.keeps (sq hH)) zO) ?_
 rintro v n14 o14;refine jaQ (jae ?_);obtain ⟨p14,c14,rfl,hc14,r14⟩:=jas (B:=B) o14
 refine Zs ?_;refine D9 ?_;refine Z4 ?_;refine jcs (vs:=halvesL) rfl zq rfl jfe ?_;refine Z3 ?_
 refine jag (fun nn l h'=> ∃(i:Nat) (wp:Option Addr) (wc:Nat) (bp:Option Addr) (bc:Nat) (M0 M1:Hp),nn=2-i∧(i≤2)∧(i=0→pw=wp∧cw=wc∧M0=[])∧(i≤1→pb=bp∧cb=bc∧M1=[])∧(1≤i→HalfO (.slice wp nw wc) nw (hL (jdA b c f) 0) M0)∧(2≤i→HalfO (.slice bp nb bc) nb (hL (jdA b c f) 1) M1)∧(∃U:Nat→Value,l=((tbV b ps ns ks pw nw cw pb nb cb)::(cV c.butt c.line c.st)::(str f)::(.pointer (some ⟨q3,0,none⟩))::(.pointer (some ⟨q4,0,none⟩))::(U 5)::(.pointer (some ⟨q6,0,none⟩))::vw9 U 7 ((.agg halvesL.toArray)::(.int .i64 (i:Int))::vw49 U 18 [])))∧h++[⟨true,q3,.cells [.int .i64 b.wrong,.slice p14 ns c14,.slice wp nw wc,.slice bp nb bc].toArray 25 (0,0)⟩,⟨true,q4,.cells [.bool c.butt,.int .i64 c.line,.int .i64 c.st].toArray 37 (0,0)⟩,⟨true,q6,.cells [.int .i64 0,.slice none 0 0,.slice none 0 0,.slice none 0 0].toArray 25 (0,0)⟩]++n14++M0++M1=h') _ ⟨0,pw,cw,pb,cb,[],[],rfl,by omega,fun _=>⟨rfl,rfl,rfl⟩,fun _=>⟨rfl,rfl,rfl⟩,fun e=>by omega,fun e=>by omega,exU rfl,(by rw [gb,gb])⟩ ?_;rintro nn l h' ⟨i,wp,wc,bp,bc,M0,M1,rfl,hi,hz0,hz1,hz2,hz3,⟨U,rfl⟩,rfl⟩ hnext1;refine Z2 ?_
 refine jal rfl zq (fun hc=>?_) (fun hc=>?_)
 ·refine Z7 ?_
  rcases (by omega:i=0∨i=1) with rfl|rfl
  obtain ⟨rfl,rfl,rfl⟩:=hz0 rfl
  obtain ⟨rfl,rfl,rfl⟩:=hz1 zO
  obtain ⟨lps0,hle,rl,hfig⟩:=rd.w
  have hll:=rl.elen zA
  replace hle:lps0.map (·.ln)=hL b 0:=hle
  have hwf: ∀l∈hL b 0,l.figs.length=ns∧ ∀f∈l.figs,jbl f=true:=rd.wf
  rw [gb,gb];refine Zs ?_;refine jns rfl zq zO zO (jh4 0 zO) ?_
  refine jaw rfl zq (fun q8=>jar (jae ?_));refine D6 ?_;refine Z5 ?_;refine jeZ (Post:=fun v=>v= .pointer (some ⟨q3,2,none⟩)) rfl zq (jh5 0 zO) (fun H' hH=>jqK m H' q3 0 zO) ?_
  rintro v rfl;refine Z9 ?_;refine ja8 rfl zq zK (Post:=fun v nz=>OwnS 121 2 v nw (jax lps0) nz) (fun H' hH=>f163_c m H' (rl.keeps (sq hH)) zO) ?_
  rotate_left
  obtain ⟨rfl,rfl,rfl⟩:=hz1 zO
  have hh0:=hz2 zO
  obtain ⟨lps0,hle,rl,hfig⟩:=rd.u
  have hll:=rl.elen zA
  replace hle:lps0.map (·.ln)=hL b 1:=hle
  have hwf: ∀l∈hL b 1,l.figs.length=ns∧ ∀f∈l.figs,jbl f=true:=rd.bf
  rw [gb];refine Zs ?_;refine jns rfl zq zO zO (jh4 1 zO) ?_
  refine jaw rfl zq (fun q8=>jar (jae ?_));refine D6 ?_;refine Z5 ?_;refine jeZ (Post:=fun v=>v= .pointer (some ⟨q3,3,none⟩)) rfl zq (jh5 1 zO) (fun H' hH=>jqK m H' q3 1 zO) ?_
  rintro v rfl;refine Z9 ?_;refine ja8 rfl zq zK (Post:=fun v nz=>OwnS 121 2 v nb (jax lps0) nz) (fun H' hH=>f163_c m H' (rl.keeps (sq hH)) zO) ?_
  all_goals
   rintro v n27 o27;refine jaQ (jae ?_);obtain ⟨p27,c27,rfl,hc27,r27⟩:=jas (B:=B) o27
   refine Zs ?_;refine D9 ?_;refine Z11 ?_
  ·refine jag (fun nn l h'=> ∃(k:Nat) (lps:List Lp) (W FM:Hp),nn=nb-k∧(k≤nb)∧(lps.length=nb)∧(lps.map (·.ln)=hL b 1)∧(∀j,k≤j→lps.getD j default=lps0.getD j default)∧(OwnS 121 2 (.slice p27 nb c27) nb (jax lps) W)∧(OwnF (lps.take k) FM)∧(∃U:Nat→Value,l=((tbV b ps ns ks pw nw cw pb nb cb)::(cV c.butt c.line c.st)::(str f)::(.pointer (some ⟨q3,0,none⟩))::(.pointer (some ⟨q4,0,none⟩))::(U 5)::(.pointer (some ⟨q6,0,none⟩))::(U 7)::(.pointer (some ⟨q8,0,none⟩))::(.pointer (some ⟨q3,3,none⟩))::vw6 U 10 ((.agg halvesL.toArray)::(.int .i64 1)::vw13 U 18 ((.slice p27 nb c27)::(.int .i64 (nb:Int))::(.int .i64 (k:Int))::vw33 U 34 []))))∧h++[⟨true,q3,.cells [.int .i64 b.wrong,.slice p14 ns c14,.slice wp nw wc,.slice p27 nb c27].toArray 25 (0,0)⟩,⟨true,q4,.cells [.bool c.butt,.int .i64 c.line,.int .i64 c.st].toArray 37 (0,0)⟩,⟨true,q6,.cells [.int .i64 0,.slice none 0 0,.slice none 0 0,.slice none 0 0].toArray 25 (0,0)⟩]++n14++M0++[⟨true,q8,.cells [str (hwS 1),.bool (decide (1=1)),.func (.func (261+1)) #[] #[]].toArray 184 (0,0)⟩]++W++FM=h') _ ⟨0,lps0,n27,[],rfl,by omega,hll,hle,fun j _=>rfl,o27,by rw [xM];exact .nil,exU rfl,(by rw [gb])⟩ ?_;rintro nn l h' ⟨k,lps,W,FM,rfl,hk,hlen,hmap,hsame,how,hof,⟨U,rfl⟩,rfl⟩ hnext2;refine Z2 ?_
   refine jal rfl zq (fun hc=>?_) (fun hc=>?_)
   ·refine Z7 ?_
    have rdW:=how.rd (B:=B) (gE _)
    obtain ⟨bl,lc1,junk,hwv,rfl,hwl,hwc,hwn⟩:=jcv how zO
    cases hwv
    have hxk:=hsame k (gK k)
    obtain ⟨x,hx⟩: ∃x,x=lps0.getD k default:=⟨_,rfl⟩
    rw [←hx] at hxk
    have hxm:x∈lps0:=hx▸jak zO
    obtain ⟨hxc,rdf0⟩:=hfig x hxm
    have hxf:x.ln.figs.length=ns:=(hwf x.ln (by rw [←hle];exact gQ.2 ⟨x,hxm,rfl⟩)).1
    have rdf:=rdf0 (by have:=rd.n1;omega)
    refine Z2 ?_;refine D11 ?_;refine jcs (vs:=lpL x) rfl zq rfl (hxk▸rdW.eat k zO zO) ?_
    refine jaw rfl zq (fun q11=>jar (jae ?_));refine Zs ?_;refine D6 ?_;refine Zs ?_;refine D64 ?_;refine Z6 ?_;refine D81 ?_
    rintro v n44 o44;refine jaQ (jae ?_);obtain ⟨p44,c44,rfl,hc44,r44⟩:=jas (B:=B) o44
    refine D11 ?_;refine Zs ?_
    haveI hsl2:=jkI (xs:=lps) (junk:=junk) (i:=k) zO (x:=⟨x.ln,p44,c44⟩) (by rw [hxk])
    refine D9 ?_;refine Z6 ?_;refine m.weak (h':=h++[⟨true,q3,.cells [.int .i64 b.wrong,.slice p14 ns c14,.slice wp nw wc,.slice (some ⟨bl,0,none⟩) nb c27].toArray 25 (0,0)⟩,⟨true,q4,.cells [.bool c.butt,.int .i64 c.line,.int .i64 c.st].toArray 37 (0,0)⟩,⟨true,q6,.cells [.int .i64 0,.slice none 0 0,.slice none 0 0,.slice none 0 0].toArray 25 (0,0)⟩]++n14++M0++[⟨true,q8,.cells [str (hwS 1),.bool (decide (1=1)),.func (.func (261+1)) #[] #[]].toArray 184 (0,0)⟩]++[⟨true,bl,.cells (jax (lps.set k ⟨x.ln,p44,c44⟩)++junk).toArray 121 (0,0)⟩]++(FM++n44)) jeh ?_
    exact E55
   ·refine Z10 ?_
    obtain rfl:nb=k:=by omega
    rw [gf zO] at hof
    refine jfL rfl zq zK (fun hbt=>?_) (fun hbt=>?_)
    ·refine Z2 ?_
     have hbe:c.butt=decide (1=1):=hbt.symm
     have hce:=jdj.1 hc0
     have hlL:c.line.toNat<lps.length:=by
      have h1:(ja7 b c.butt).length=nb:=by rw [hbe,←jj6 b zO,←hmap,gY,hlen]
      omega
     obtain ⟨li,hli⟩:=GL hce.1
     obtain ⟨sj,hsj⟩:=GL hce.2.2.1
     obtain ⟨M1f,Fb,M2f,rfl,hofb,hset⟩:=hof.at hlL
     obtain ⟨bl,lc1,junk,hwv,rfl,hwl,hwc,hwn⟩:=jcv how zO
     cases hwv
     rw [show c.line.toNat=li by omega] at hlL hofb hset
     obtain ⟨y,hy⟩: ∃y,y=lps.getD li default:=⟨_,rfl⟩
     rw [←hy] at hofb
     have hyl:y.ln∈hL b 1:=by rw [←hmap];exact gQ.2 ⟨y,hy▸jak hlL,rfl⟩
     have hyf:y.ln.figs.length=ns:=(hwf y.ln hyl).1
     obtain ⟨bf,fc,junkf,hfv,rfl,hfl,hfc,hfn⟩:=jcv hofb zO
     injection hfv with hyp _ hyc
     haveI hsf:=jf7 (ss:=y.ln.figs) (junk:=junkf) (j:=c.st) (i:=sj) hsj zO f
     refine D48 ?_;refine Z7 ?_;refine D11 ?_;refine Zs ?_;refine jaR rfl zq (lp_rd (xs:=lps) (junk:=junk) hli hlL) ?_
     rw [←hy];refine Zs ?_;refine D122 ?_;refine D9 ?_;refine Z6 ?_
     have hy2:OwnS 9 1 (.slice y.p (y.ln.figs.set sj f).length y.c) (y.ln.figs.set sj f).length (jax (y.ln.figs.set sj f)) [⟨true,bf,.cells (jax (y.ln.figs.set sj f)++junkf).toArray 9 (0,0)⟩]:=by
      rw [hyp,hyc];exact E56
     have hnew:=hset ⟨⟨y.ln.lat,y.ln.figs.set sj f⟩,y.p,y.c⟩ _ hy2
     have hHalf:HalfO (.slice (some ⟨bl,0,none⟩) nb c27) nb (hL (jdA b c f) 1) ([⟨true,bl,.cells (jax lps++junk).toArray 121 (0,0)⟩]++(M1f++[⟨true,bf,.cells (jax (y.ln.figs.set sj f)++junkf).toArray 9 (0,0)⟩]++M2f)):=by
      refine ⟨_,_,_,_,_,rfl,?_,?_,hnew,rfl⟩
      ·rw [jnA zO hbe,show c.line.toNat=li by omega,show c.st.toNat=sj by omega];have:=jg0 hmap hlL (k:=sj) f y.p y.c
       rw [←hy] at this
       exact this
      ·rw [jc3 hlL (by rw [←hy];simp [lpL])];exact how
     refine m.weak (h':=h++[⟨true,q3,.cells [.int .i64 b.wrong,.slice p14 ns c14,.slice wp nw wc,.slice (some ⟨bl,0,none⟩) nb c27].toArray 25 (0,0)⟩,⟨true,q4,.cells [.bool c.butt,.int .i64 c.line,.int .i64 c.st].toArray 37 (0,0)⟩,⟨true,q6,.cells [.int .i64 0,.slice none 0 0,.slice none 0 0,.slice none 0 0].toArray 25 (0,0)⟩]++n14++M0++([⟨true,bl,.cells (jax lps++junk).toArray 121 (0,0)⟩]++(M1f++[⟨true,bf,.cells (jax (y.ln.figs.set sj f)++junkf).toArray 9 (0,0)⟩]++M2f))) (jgV _ _ _ _) ?_
     exact E57
    ·refine Z8 ?_
     have hHalf:HalfO (.slice p27 nb c27) nb (hL (jdA b c f) 1) (W++FM):=⟨lps,p27,c27,W,FM,rfl,by rw [jqJ zO (fun e=>hbt e.symm)];exact hmap,how,hof,rfl⟩
     refine m.weak (h':=h++[⟨true,q3,.cells [.int .i64 b.wrong,.slice p14 ns c14,.slice wp nw wc,.slice p27 nb c27].toArray 25 (0,0)⟩,⟨true,q4,.cells [.bool c.butt,.int .i64 c.line,.int .i64 c.st].toArray 37 (0,0)⟩,⟨true,q6,.cells [.int .i64 0,.slice none 0 0,.slice none 0 0,.slice none 0 0].toArray 25 (0,0)⟩]++n14++M0++(W++FM)) (jgV _ _ _ _) ?_
     exact E57
  ·refine jag (fun nn l h'=> ∃(k:Nat) (lps:List Lp) (W FM:Hp),nn=nw-k∧(k≤nw)∧(lps.length=nw)∧(lps.map (·.ln)=hL b 0)∧(∀j,k≤j→lps.getD j default=lps0.getD j default)∧(OwnS 121 2 (.slice p27 nw c27) nw (jax lps) W)∧(OwnF (lps.take k) FM)∧(∃U:Nat→Value,l=((tbV b ps ns ks pw nw cw pb nb cb)::(cV c.butt c.line c.st)::(str f)::(.pointer (some ⟨q3,0,none⟩))::(.pointer (some ⟨q4,0,none⟩))::(U 5)::(.pointer (some ⟨q6,0,none⟩))::(U 7)::(.pointer (some ⟨q8,0,none⟩))::(.pointer (some ⟨q3,2,none⟩))::vw6 U 10 ((.agg halvesL.toArray)::(.int .i64 0)::vw13 U 18 ((.slice p27 nw c27)::(.int .i64 (nw:Int))::(.int .i64 (k:Int))::vw33 U 34 []))))∧h++[⟨true,q3,.cells [.int .i64 b.wrong,.slice p14 ns c14,.slice p27 nw c27,.slice pb nb cb].toArray 25 (0,0)⟩,⟨true,q4,.cells [.bool c.butt,.int .i64 c.line,.int .i64 c.st].toArray 37 (0,0)⟩,⟨true,q6,.cells [.int .i64 0,.slice none 0 0,.slice none 0 0,.slice none 0 0].toArray 25 (0,0)⟩]++n14++[⟨true,q8,.cells [str (hwS 0),.bool (decide (0=1)),.func (.func (261+0)) #[] #[]].toArray 184 (0,0)⟩]++W++FM=h') _ ⟨0,lps0,n27,[],rfl,by omega,hll,hle,fun j _=>rfl,o27,by rw [xM];exact .nil,exU rfl,(by rw [gb])⟩ ?_;rintro nn l h' ⟨k,lps,W,FM,rfl,hk,hlen,hmap,hsame,how,hof,⟨U,rfl⟩,rfl⟩ hnext2;refine Z2 ?_
   refine jal rfl zq (fun hc=>?_) (fun hc=>?_)
   ·refine Z7 ?_
    have rdW:=how.rd (B:=B) (gE _)
    obtain ⟨bl,lc1,junk,hwv,rfl,hwl,hwc,hwn⟩:=jcv how zO
    cases hwv
    have hxk:=hsame k (gK k)
    obtain ⟨x,hx⟩: ∃x,x=lps0.getD k default:=⟨_,rfl⟩
    rw [←hx] at hxk
    have hxm:x∈lps0:=hx▸jak zO
    obtain ⟨hxc,rdf0⟩:=hfig x hxm
    have hxf:x.ln.figs.length=ns:=(hwf x.ln (by rw [←hle];exact gQ.2 ⟨x,hxm,rfl⟩)).1
    have rdf:=rdf0 (by have:=rd.n1;omega)
    refine Z2 ?_;refine D11 ?_;refine jcs (vs:=lpL x) rfl zq rfl (hxk▸rdW.eat k zO zO) ?_
    refine jaw rfl zq (fun q11=>jar (jae ?_));refine Zs ?_;refine D6 ?_;refine Zs ?_;refine D64 ?_;refine Z6 ?_;refine D81 ?_
    rintro v n44 o44;refine jaQ (jae ?_);obtain ⟨p44,c44,rfl,hc44,r44⟩:=jas (B:=B) o44
    refine D11 ?_;refine Zs ?_
    haveI hsl2:=jkI (xs:=lps) (junk:=junk) (i:=k) zO (x:=⟨x.ln,p44,c44⟩) (by rw [hxk])
    refine D9 ?_;refine Z6 ?_;refine m.weak (h':=h++[⟨true,q3,.cells [.int .i64 b.wrong,.slice p14 ns c14,.slice (some ⟨bl,0,none⟩) nw c27,.slice pb nb cb].toArray 25 (0,0)⟩,⟨true,q4,.cells [.bool c.butt,.int .i64 c.line,.int .i64 c.st].toArray 37 (0,0)⟩,⟨true,q6,.cells [.int .i64 0,.slice none 0 0,.slice none 0 0,.slice none 0 0].toArray 25 (0,0)⟩]++n14++[⟨true,q8,.cells [str (hwS 0),.bool (decide (0=1)),.func (.func (261+0)) #[] #[]].toArray 184 (0,0)⟩]++[⟨true,bl,.cells (jax (lps.set k ⟨x.ln,p44,c44⟩)++junk).toArray 121 (0,0)⟩]++(FM++n44)) jeh ?_
    exact E55
   ·refine Z10 ?_
    obtain rfl:nw=k:=by omega
    rw [gf zO] at hof
    refine jfL rfl zq zK (fun hbt=>?_) (fun hbt=>?_)
    ·refine Z2 ?_
     have hbe:c.butt=decide (0=1):=hbt.symm
     have hce:=jdj.1 hc0
     have hlL:c.line.toNat<lps.length:=by
      have h1:(ja7 b c.butt).length=nw:=by rw [hbe,←jj6 b zO,←hmap,gY,hlen]
      omega
     obtain ⟨li,hli⟩:=GL hce.1
     obtain ⟨sj,hsj⟩:=GL hce.2.2.1
     obtain ⟨M1f,Fb,M2f,rfl,hofb,hset⟩:=hof.at hlL
     obtain ⟨bl,lc1,junk,hwv,rfl,hwl,hwc,hwn⟩:=jcv how zO
     cases hwv
     rw [show c.line.toNat=li by omega] at hlL hofb hset
     obtain ⟨y,hy⟩: ∃y,y=lps.getD li default:=⟨_,rfl⟩
     rw [←hy] at hofb
     have hyl:y.ln∈hL b 0:=by rw [←hmap];exact gQ.2 ⟨y,hy▸jak hlL,rfl⟩
     have hyf:y.ln.figs.length=ns:=(hwf y.ln hyl).1
     obtain ⟨bf,fc,junkf,hfv,rfl,hfl,hfc,hfn⟩:=jcv hofb zO
     injection hfv with hyp _ hyc
     haveI hsf:=jf7 (ss:=y.ln.figs) (junk:=junkf) (j:=c.st) (i:=sj) hsj zO f
     refine D48 ?_;refine Z7 ?_;refine D11 ?_;refine Zs ?_;refine jaR rfl zq (lp_rd (xs:=lps) (junk:=junk) hli hlL) ?_
     rw [←hy];refine Zs ?_;refine D122 ?_;refine D9 ?_;refine Z6 ?_
     have hy2:OwnS 9 1 (.slice y.p (y.ln.figs.set sj f).length y.c) (y.ln.figs.set sj f).length (jax (y.ln.figs.set sj f)) [⟨true,bf,.cells (jax (y.ln.figs.set sj f)++junkf).toArray 9 (0,0)⟩]:=by
      rw [hyp,hyc];exact E56
     have hnew:=hset ⟨⟨y.ln.lat,y.ln.figs.set sj f⟩,y.p,y.c⟩ _ hy2
     have hHalf:HalfO (.slice (some ⟨bl,0,none⟩) nw c27) nw (hL (jdA b c f) 0) ([⟨true,bl,.cells (jax lps++junk).toArray 121 (0,0)⟩]++(M1f++[⟨true,bf,.cells (jax (y.ln.figs.set sj f)++junkf).toArray 9 (0,0)⟩]++M2f)):=by
      refine ⟨_,_,_,_,_,rfl,?_,?_,hnew,rfl⟩
      ·rw [jnA zO hbe,show c.line.toNat=li by omega,show c.st.toNat=sj by omega];have:=jg0 hmap hlL (k:=sj) f y.p y.c
       rw [←hy] at this
       exact this
      ·rw [jc3 hlL (by rw [←hy];simp [lpL])];exact how
     refine m.weak (h':=h++[⟨true,q3,.cells [.int .i64 b.wrong,.slice p14 ns c14,.slice (some ⟨bl,0,none⟩) nw c27,.slice pb nb cb].toArray 25 (0,0)⟩,⟨true,q4,.cells [.bool c.butt,.int .i64 c.line,.int .i64 c.st].toArray 37 (0,0)⟩,⟨true,q6,.cells [.int .i64 0,.slice none 0 0,.slice none 0 0,.slice none 0 0].toArray 25 (0,0)⟩]++n14++([⟨true,bl,.cells (jax lps++junk).toArray 121 (0,0)⟩]++(M1f++[⟨true,bf,.cells (jax (y.ln.figs.set sj f)++junkf).toArray 9 (0,0)⟩]++M2f))) (jgV _ _ _ _) ?_
     exact E58
    ·refine Z8 ?_
     have hHalf:HalfO (.slice p27 nw c27) nw (hL (jdA b c f) 0) (W++FM):=⟨lps,p27,c27,W,FM,rfl,by rw [jqJ zO (fun e=>hbt e.symm)];exact hmap,how,hof,rfl⟩
     refine m.weak (h':=h++[⟨true,q3,.cells [.int .i64 b.wrong,.slice p14 ns c14,.slice p27 nw c27,.slice pb nb cb].toArray 25 (0,0)⟩,⟨true,q4,.cells [.bool c.butt,.int .i64 c.line,.int .i64 c.st].toArray 37 (0,0)⟩,⟨true,q6,.cells [.int .i64 0,.slice none 0 0,.slice none 0 0,.slice none 0 0].toArray 25 (0,0)⟩]++n14++(W++FM)) (jgV _ _ _ _) ?_
     exact E58
 ·refine Z5 ?_
  obtain rfl:i=2:=by omega
  obtain ⟨_,_,hw1,hwr⟩:=(hz2 zO).rd (B:=B)
  cases hw1
  obtain ⟨_,_,hb1,hbr⟩:=(hz3 zO).rd (B:=B)
  cases hb1
  refine Z2 ?_;refine D6 ?_;refine Z2 ?_;refine jab (h++n14++M0++M1) rfl Tryz.func112 rfl jaa ?_;refine Zs ?_
  exact ⟨n14++M0++M1,p14,c14,wp,wc,bp,bc,by simp only [gG],by rw [tbV,tbL,setF_wrong],⟨by rw [jmS];exact r14.keeps (Ga (gI _ _) (gI _ _)),hc14,by omega,hwr.keeps (Ga (gX _ _) (gI _ _)),by omega,hbr.keeps (gX _ _),by omega,setF_sm rd.sm hf⟩⟩
end
section
variable [LaidO B]
def jiB (b:Tb) (c:Ce) (f:Str):Int:=if tbS b≠0 then tbS b else if c∉jac b then 6 else if ja1 f=false then 3 else 0
def jo3 (b:Tb) (c:Ce) (f:Str):List Int:=if jiB b c f=0 then jap (jci b c) else [0,0,0]
def jp4 (b:Tb) (c:Ce) (f:Str):List Int:=if jiB b c f=0 then jap f else [0,0,0]
theorem jlp {c:Ce} (h:jiB b c f=0):tbS b=0∧c∈jac b∧ja1 f=true:=by
 unfold jiB at h
 split at h
 ·contradiction
 ·rename_i h1
  split at h
  ·cases h
  ·rename_i h2
   split at h
   ·cases h
   ·rename_i h3
    exact ⟨Gl.1 h1,Gl.1 h2,by simpa using h3⟩
abbrev zeroL:List Value:=[.int .i64 0,.slice none 0 0,.slice none 0 0,.slice none 0 0]
def TabO (B:Array Obj) (s:Int) (b:Tb) (new:Hp) (v:Value):Prop:= ∃x0 y1 z1 w1 y2 z2 w2 y3 z3 w3,v= .tuple [.agg [Value.int .i64 x0,.slice y1 z1 w1,.slice y2 z2 w2,.slice y3 z3 w3].toArray,.int .i64 s].toArray∧(s≠0→[Value.int .i64 x0,.slice y1 z1 w1,.slice y2 z2 w2,.slice y3 z3 w3]=zeroL)∧(s=0→ ∃ps ns ks pw nw cw pb nb cb,[Value.int .i64 x0,.slice y1 z1 w1,.slice y2 z2 w2,.slice y3 z3 w3]=tbL b ps ns ks pw nw cw pb nb cb∧RawTb B new b ps ns ks pw nw cw pb nb cb)
theorem jlX (h:s≠0):TabO B s b [] (.tuple [.agg zeroL.toArray,.int .i64 s].toArray):=⟨_,_,_,_,_,_,_,_,_,_,rfl,fun _=>rfl,fun e=>absurd e h⟩
theorem jmH {p o:List Int} (hp:PtOk p) (ho:PtOk o):PtOk (jdC p o):=by
 have e: ∀j,j<3→(jdC p o).getD j 0=if p.getD j 0= -1 then o.getD j 0 else p.getD j 0:=fun j hj=>by
  rw [jdC,gB,gk,vH hj];rfl
 refine ⟨by simp [jdC],fun j=>?_,fun j hj=>?_⟩
 ·by_cases hj:j<3
  ·rw [e j hj];split
   ·exact ho.lo j
   ·exact hp.lo j
  ·rw [gB,ge (by simp [jdC];omega)];decide
 ·rw [e j hj];split
  ·exact ho.hi j hj
  ·exact hp.hi j hj
theorem digS_le (n:Nat):(digS n).length≤2:=by unfold digS;split<;>simp
theorem jhJ (x:Int):(jd9 x).length≤2:=by unfold jd9;split;simp;exact digS_le _
theorem textS_le {v:List Int} (h:v.length=3):(jed v).length≤8:=by
 match v,h with
 |[a,b,c],_=>
  have h1:=jhJ a
  have h2:=jhJ b
  have h3:=jhJ c
  simp [jed,joA]
  omega
def jfh (b:Tb) (c:Ce) (f:Str):List Int:=jdC (jo3 b c f) (jp4 b c f)
def jjS (b:Tb) (c:Ce) (f:Str):Int:=if jiB b c f≠0 then jiB b c f else if jdC (jp4 b c f) (jo3 b c f)≠jfh b c f then 9 else jaX (jdA b c (jed (jfh b c f))) 0
def putS (b:Tb) (c:Ce) (f:Str):Int:=if jiB b c f≠0 then jiB b c f else jaX (jdA b c f) 0
theorem callB161:jbE Tryz.prog 161=true:=by kernel_rfl
theorem lp_get2 (h:lps.map (·.ln)=ls) (k:Nat):(lps.getD k default).ln=ls.getD k default:=by
 subst h
 rw [gB,gB,gk];cases lps[k]?<;>rfl
theorem figT_sm (h:TbSm b) (c:Ce):(jci b c).length≤100000:=by
 have gen: ∀ls:List Ln,(∀l∈ls,l.figs.length≤1000∧ ∀f∈l.figs,f.length≤100000)→ ∀i j,((ls.getD i default).figs.getD j []).length≤100000:=fun ls hl i j=>by
  by_cases hi:i<ls.length
  ·by_cases hj:j<(ls.getD i default).figs.length
   ·exact (hl _ (jak hi)).2 _ (jak (l:=(ls.getD i default).figs) hj)
   ·rw [gB (l:=(ls.getD i default).figs),ge zO];simp
  ·rw [gB (l:=ls),ge zO];simp [default,instInhabitedLn.default]
 unfold jci jbg ja7
 split
 ·exact gen _ h.but _ _
 ·exact gen _ h.wat _ _
theorem f109_c (m:Md Tryz.prog B) (h:Hp) (ra:RawTb B h b ps ns ks pw nw cw pb nb cb) (c:Ce) (f:Str) (hf:f.length≤100000):FnC m 109 #[tbV b ps ns ks pw nw cw pb nb cb,cV c.butt c.line c.st,str f] h fun v h'=>h'=h∧v= .tuple [.agg (jav (jo3 b c f)).toArray,.agg (jav (jp4 b c f)).toArray,.int .i64 (jiB b c f)].toArray:=by
 refine jad Tryz.func109 rfl rfl (l:=(tbV b ps ns ks pw nw cw pb nb cb)::(cV c.butt c.line c.st)::(str f)::uu58) rfl ?_
 intro cf cs K hK
 refine Z2 ?_
 refine jaK rfl zq (fun q3=>jar (jae ?_));refine jaK rfl zq (fun q4=>jar (jae ?_));refine jaw rfl zq (fun q6=>jar (jae ?_));refine jaw rfl zq (fun q7=>jar (jae ?_));refine Z6 ?_;refine D53 ?_
 rintro v rfl;refine Z6 ?_
 refine ja5 rfl zq (fun hc=>?_) (fun hc=>?_)
 ·refine Z4 ?_;refine D49 ?_;refine D49 ?_;refine Zs ?_;refine D6 ?_;refine jhd ?_;refine D121 ?_;refine Zs ?_
  have eb:jiB b c f=tbS b:=by rw [jiB,if_pos hc]
  exact ⟨rfl,by rw [jo3,jp4,eb,if_neg hc,if_neg hc];rfl⟩
 ·refine Z5 ?_
  have hz0:tbS b=0:=by omega
  have hk:=jbo.1 hz0
  refine jcF [0,1,2,3,4,5] zK zK (gE _) ?_;refine DrawT.leaf [Zr 0,Zr 2,Zk 1,Zk 3,Zk 4,Zp 5] zK ?_;refine Z2 ?_;refine D7 ?_;rintro v nz ⟨qs,rfl,rfl⟩;refine jaQ (jae ?_);refine D18 ?_
  rintro v n9 ⟨q9,rfl,sh⟩;refine jaQ (jae ?_);refine jeZ (Post:=fun v=>v= .int .i64 (jgc b c)) rfl zq jnN (fun H' hH=>by
   have hs9:n9.Sublist H':=Ga zW hH
   simpa [jgc] using f149_c m H' (sh.keeps hs9) (c:=c) (RdN.keepsN (jm1 (q:=qs)) hH)) ?_
  rintro v rfl;refine Z6 ?_
  refine ja5 rfl zq (fun hc=>?_) (fun hc=>?_)
  ·refine Z4 ?_;refine D49 ?_;refine D49 ?_;refine Zs ?_;refine D6 ?_;refine jhd ?_;refine D121 ?_;refine Zs ?_
   have hno:c∉jac b:=fun e=>by
    have hcc:=hc
    rw [jgc,if_pos e] at hcc
    exact hcc rfl
   have e6:jiB b c f=6:=by rw [jiB,if_neg (fun e=>e hz0),if_pos hno]
   exact ⟨rfl,by rw [jo3,jp4,e6,jgc,if_neg hno];rfl⟩
  ·refine Z6 ?_;refine jah (Post:=fun v=>v=_) rfl zq zK (fun H' hH=>f119_c m H' _ hf) ?_
   rintro v rfl;refine Z4 ?_;refine D55 ?_;refine Z4 ?_
   cases hfo:ja1 f
   refine Z7 ?_;refine D49 ?_;refine D49 ?_;refine D6 ?_
   haveI hsz:SetSeg (jav (jap f)) 0 [.int .i64 0,.int .i64 0,.int .i64 0] [.int .i64 0,.int .i64 0,.int .i64 0]:=ji0 (by rw [gY,(jaT f).len];rfl)
   refine jhd ?_;refine D121 ?_;refine Zs ?_
   rotate_left
   refine Z7 ?_
   all_goals
    have hin:c∈jac b:=gu fun e=>by
     have hcc:=hc
     rw [jgc,if_neg e] at hcc
     omega
    have hht:=(jdl hin).1
   ·have hce:=jdj.1 hht
    obtain ⟨li,hli⟩:=GL hce.1
    obtain ⟨sj,hsj⟩:=GL hce.2.2.1
    have hf2:(jci b c).length≤100000:=figT_sm ra.sm c
    have rd:=ra.rd hk
    have hsl:=rd.sl
    have e0:jiB b c f=0:=by rw [jiB,if_neg (fun e=>e hz0),if_neg (fun e=>e hin),if_neg (by rw [hfo];simp)]
    refine Z11 ?_
    refine jbJ (fun hc=>?_) (fun hc=>?_);first|replace hc:=of_decide_eq_true hc|replace hc:=of_decide_eq_false hc|skip
    refine Z5 ?_
    rotate_left
    first|replace hc:=of_decide_eq_true hc|replace hc:=of_decide_eq_false hc|skip
    refine Zs ?_
    all_goals
     refine Zs ?_;refine jao [Zp 0,Zp 1,Zp 6,Zr 2,Zp 3,Zp 4,Zr 5,Zr 7,Zp 8,Zr 9,Zk 10,Zp 11,Zp 12,Zp 13,Zf 14] zK zK (gE _) ?_
     have hlines: ∃p n c',RdLn B h (.slice p n c') n (ja7 b c.butt)∧n≤1000∧(c.butt=true→p=pb∧n=nb∧c'=cb)∧(c.butt=false→p=pw∧n=nw∧c'=cw):=by
      cases hcb:c.butt with
      |true=>exact ⟨pb,nb,cb,ra.u,ra.un,fun _=>⟨rfl,rfl,rfl⟩,by intro e;cases e⟩
      |false=>exact ⟨pw,nw,cw,ra.w,ra.wn,(by intro e;cases e),fun _=>⟨rfl,rfl,rfl⟩⟩
     obtain ⟨pl,nl,cl,hln,hnl,hl1,hl2⟩:=hlines
     obtain ⟨lps,hle,rl,hfig⟩:=hln
     have hll:=rl.elen zA
     have hlen:(ja7 b c.butt).length=nl:=by rw [←hle,gY,hll]
     have hlx:li<nl:=by omega
     obtain ⟨x,hx⟩: ∃x,x=lps.getD li default:=⟨_,rfl⟩
     have hxm:x∈lps:=hx▸jak zO
     obtain ⟨hxc,rdf0⟩:=hfig x hxm
     have hxl:x.ln=jbg b c:=by rw [hx,lp_get2 hle,jbg,show c.line.toNat=li by omega]
     have hxf:x.ln.figs.length=ns:=by rw [hxl,((hk.lines c.butt).ok _ (jd3 hht)).len,hsl]
     have hfg:jci b c=x.ln.figs.getD sj []:=by rw [jci,←hxl,show c.st.toNat=sj by omega]
     obtain ⟨rlb,rlo,hrlp⟩:=rl.ptr zO
     have rdf:=rdf0 zO
     obtain ⟨rfb,rfo,hrfp⟩:=rdf.ptr zO
     have rl':=rl
     rw [hrlp] at rl'
     have rdf':=rdf
     rw [hrfp] at rdf'
     first
      |(have hq:=hl1 hc;obtain ⟨rfl,rfl,rfl⟩:=hq)
      |(have hq:=hl2 hc;obtain ⟨rfl,rfl,rfl⟩:=hq)
     refine Z4 ?_;refine jcR rfl zq hrlp zO zO ?_;refine Zs ?_;refine jaR (v:= .slice x.p x.ln.figs.length x.c) rfl zq (hx▸rl'.fat li 1 zO zO rfl) ?_;refine Zs ?_;refine jcR rfl zq hrfp zO zO ?_;refine jaR rfl zq (rdf'.sat sj zO zO) ?_
     rw [←hfg];refine jah (Post:=fun v=>v= .tuple [.agg (jav (jap (jci b c))).toArray,.bool (ja1 (jci b c))].toArray) rfl zq zK (fun H' hH=>f119_c m H' _ hf2) ?_;rintro v rfl;refine Z4 ?_;refine D55 ?_;refine Z2 ?_
     haveI hs1:Seg (jav (jap f)) 0 3 (jav (jap f)):=seg_all (by rw [gY,(jaT f).len])
     haveI hs2:Seg (jav (jap (jci b c))) 0 3 (jav (jap (jci b c))):=seg_all (by rw [gY,(jaT (jci b c)).len])
     refine jao (S:=[⟨true,q7,.cells (jav (jap f)).toArray 145 (0,0)⟩]) [Zr 1,Zk 0,Zk 2,Zf 3,Zp 4] zK zK SubH.sub ?_;refine D40 ?_;refine D40 ?_;refine jea rfl zq (jaT _).len (by rw [gY,(jaT _).len]) ?_;refine jea rfl zq (jaT _).len (by rw [gY,(jaT _).len]) ?_;refine Z3 ?_;refine D121 ?_;refine Zs ?_;exact ⟨rfl,by rw [jo3,jp4,e0];rfl⟩
   ·have e3:jiB b c f=3:=by rw [jiB,if_neg (fun e=>e hz0),if_neg (fun e=>e hin),if_pos hfo]
    exact ⟨rfl,by rw [jo3,jp4,e3];rfl⟩
end
end Go.Proofs
