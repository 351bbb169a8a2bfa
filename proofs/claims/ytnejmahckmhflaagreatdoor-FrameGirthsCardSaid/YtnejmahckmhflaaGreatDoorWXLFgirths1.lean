/- A part of the proof of a law: my own separation logic over the machine, and walks of the program. Condition of each theorem: as its statement says. -/
import Derived.Test.YtnejmahckmhflaaGreatDoorWB9
set_option linter.all false
namespace Go.Lo
theorem rootN_ge {n k:Nat} (h:k*k≤n):k≤rootN n:=by
 rcases Nat.lt_or_ge (rootN n) k with h1|h1
 ·have h2:=sq_le (show rootN n+1≤k by omega)
  have h3:=(rootN_spec n).2
  omega
 ·exact h1
theorem rootN_lef {n k:Nat} (h:n≤k*k):rootN n≤k:=by
 have h2:k*k<(k+1)*(k+1):=Nat.mul_lt_mul_of_lt_of_le (by omega) (by omega) (by omega)
 have:=rootN_lt (n:=n) (k:=k+1) (by omega)
 omega
theorem sq_abs (x:Int):x*x=((x.natAbs*x.natAbs:Nat):Int):=by
 rw [Int.natCast_mul];rcases Int.natAbs_eq x with h|h
 ·rw [←h]
 ·generalize x.natAbs=n at h
  subst h
  rw [Int.neg_mul_neg]
theorem rootI_sum (x y:Int):rootI (x*x+y*y)=(rootN (x.natAbs*x.natAbs+y.natAbs*y.natAbs):Int):=by
 rw [sq_abs x,sq_abs y,←Int.natCast_add,rootI,Int.toNat_natCast]
theorem root_ge (x y:Nat):x≤rootN (x*x+y*y)∧y≤rootN (x*x+y*y):=⟨rootN_ge (by omega),rootN_ge (by omega)⟩
theorem root_le (x y:Nat):rootN (x*x+y*y)≤x+y:=rootN_lef (by
 have:(x+y)*(x+y)=x*x+y*y+(x*y+y*x):=by
  rw [Nat.add_mul,Nat.mul_add,Nat.mul_add];omega
 omega)
theorem side_bounds {pts:List Pt} {l:List Int} {i:Nat} (h:(pts.getD i default).h≤(pts.getD (i+1) default).h):(pts.getD (i+1) default).h-(pts.getD i default).h≤sideI pts l i∧l.getD (i+1) 0-l.getD i 0≤sideI pts l i∧l.getD i 0-l.getD (i+1) 0≤sideI pts l i∧
  sideI pts l i≤(pts.getD (i+1) default).h-(pts.getD i default).h+max (l.getD (i+1) 0-l.getD i 0) (l.getD i 0-l.getD (i+1) 0):=by
 unfold sideI
 rw [rootI_sum];obtain ⟨h1,h2⟩:=root_ge ((pts.getD (i+1) default).h-(pts.getD i default).h).natAbs (l.getD (i+1) 0-l.getD i 0).natAbs
 have h3:=root_le ((pts.getD (i+1) default).h-(pts.getD i default).h).natAbs (l.getD (i+1) 0-l.getD i 0).natAbs
 generalize rootN _=r at*
 omega
def stepsI (l:List Int) (f:Nat):Nat→Int
 |0=>0
 |k+1=>stepsI l f k+max (l.getD (f+k+1) 0-l.getD (f+k) 0) (l.getD (f+k) 0-l.getD (f+k+1) 0)
theorem girth_bounds {pts:List Pt} {l:List Int} (up: ∀i,i+1<pts.length→(pts.getD i default).h<(pts.getD (i+1) default).h) (f:Nat): ∀k,f+k<pts.length→(pts.getD (f+k) default).h-(pts.getD f default).h≤girthF pts l f k∧l.getD (f+k) 0-l.getD f 0≤girthF pts l f k∧l.getD f 0-l.getD (f+k) 0≤girthF pts l f k∧
  girthF pts l f k≤(pts.getD (f+k) default).h-(pts.getD f default).h+stepsI l f k
 |0,_=>by simp [girthF,stepsI]
 |k+1,h=>by
  obtain ⟨h1,h2,h3,h4⟩:=girth_bounds (l:=l) up f k (by omega)
  have hu:=up (f+k) (by omega)
  obtain ⟨s1,s2,s3,s4⟩:=side_bounds (pts:=pts) (l:=l) (i:=f+k) (by omega)
  rw [show f+(k+1)=f+k+1 by omega];simp only [girthF,stepsI]
  omega
theorem girthF_add (pts:List Pt) (l:List Int) (f k:Nat): ∀j,girthF pts l f (k+j)=girthF pts l f k+girthF pts l (f+k) j
 |0=>by simp [girthF]
 |j+1=>by
  rw [show k+(j+1)=k+j+1 by omega];simp only [girthF]
  rw [girthF_add pts l f k j,show f+(k+j)=f+k+j by omega];omega
theorem girthI_split {pts:List Pt} {l:List Int} {f k t:Nat} (h1:f≤k) (h2:k≤t):girthI pts l f k+girthI pts l k t=girthI pts l f t:=by
 unfold girthI
 rw [Int.toNat_natCast,Int.toNat_natCast,show ((k:Int)-f).toNat=k-f by omega,show ((t:Int)-k).toNat=t-k by omega,show ((t:Int)-f).toNat=(k-f)+(t-k) by omega,girthF_add,show f+(k-f)=k by omega]
end Go.Lo
namespace Go.Proofs
open Go.Lo
open Go.Conc (G)
set_option maxRecDepth 100000
set_option synthInstance.maxHeartbeats 1000000
section
variable {P:Program} {B:Array Obj} {m:Md P B} {ops:Array Oper} {l l':List Value} {S h h' H:Hp} {C:List Value→Hp→Prop} {i:Nat} {kd:Kd} {r:List (Nat×Kd)}
 {d:Option Tmp} {ty:TypeId} {pos:String} {af:Array Edge} {g:Option (Nat×Bool)}
theorem k_gtrF {t u:TypeId} {x y:Operand} {a b:Int} {k:IntKind} (ho:ops[i]?=some ⟨d,.binOp .gtr t x y u,ty,pos,af,g⟩) (hw:Wt ops l g) [kh:KHeap kd S h H] [ex:OpV l x (.int k a)] [ey:OpV l y (.int k b)] (e: ¬b<a) [pt:PutV l d (.bool false) l'] (q:RegK m S ops r l' h C):RegK m S ops ((i,kd)::r) l h C:=by
 have pq:=pt;rw [←decide_eq_false e] at pq;exact k_gtr (l':=l') ho hw q
theorem k_lssF {t u:TypeId} {x y:Operand} {a b:Int} {k:IntKind} (ho:ops[i]?=some ⟨d,.binOp .lss t x y u,ty,pos,af,g⟩) (hw:Wt ops l g) [kh:KHeap kd S h H] [ex:OpV l x (.int k a)] [ey:OpV l y (.int k b)] (e: ¬a<b) [pt:PutV l d (.bool false) l'] (q:RegK m S ops r l' h C):RegK m S ops ((i,kd)::r) l h C:=by
 have pq:=pt;rw [←decide_eq_false e] at pq;exact k_lss (l':=l') ho hw q
end
end Go.Proofs
namespace Go.Proofs
open Go.Lo
open Go.Conc (G)
set_option maxRecDepth 100000
set_option synthInstance.maxSize 100000
set_option synthInstance.maxHeartbeats 1000000
set_option maxHeartbeats 4000000
variable {b:Fb} {pp:Option Addr} {np cp:Nat} {pt:Option Addr} {nt ct:Nat} {pk:Option Addr} {nk ck:Nat}
variable {B:Array Obj}
variable [LaidF B]
abbrev u16s (zs:List Int):List Value:=zs.map (Value.int .u16)
theorem u16_at {zs:List Int} {k:Nat} (h:k<zs.length):(u16s zs).getD k undef= .int .u16 (zs.getD k 0):=by
 rw [List.getD_eq_getElem?_getD,List.getD_eq_getElem?_getD,List.getElem?_map,List.getElem?_eq_getElem h];rfl
theorem getD_sn (l:List Int) (x:Int) (i:Nat):(l++[x]).getD i 0=if i<l.length then l.getD i 0 else if i=l.length then x else 0:=by
 rw [List.getD_eq_getElem?_getD,List.getD_eq_getElem?_getD,List.getElem?_append];split
 ·rfl
 ·split
  ·rename_i h1 h2
   subst h2
   simp
  ·rename_i h1 h2
   rw [List.getElem?_eq_none (by simp;omega)];rfl
theorem _root_.Go.Lo.PtsOk.span {pts:List Pt} (k:PtsOk pts) {i:Nat} (hi:i<pts.length):0≤(pts.getD i default).lo∧(pts.getD i default).lo≤(pts.getD i default).hi∧(pts.getD i default).hi≤959:=(k.ok _ (mem_getDR.2 ⟨i,hi,rfl⟩)).2.1
theorem _root_.Go.Lo.PtsOk.lt {pts:List Pt} (k:PtsOk pts): ∀(d i:Nat),i+d+1<pts.length→(pts.getD i default).h<(pts.getD (i+d+1) default).h
 |0,i,h=>k.up i (by omega)
 |d+1,i,h=>by
  have h1:=k.lt d i (by omega)
  have h2:=k.up (i+d+1) (by omega)
  rw [show i+(d+1)+1=i+d+1+1 by omega];omega
theorem f48_c (m:Md Tryz.prog B) (h:Hp) (rdp:Rp B h b pp np cp) (rdt:Rt B h b pt nt ct) (rdk:Rk B h b pk nk ck):FnC m 48 #[fbV b pp np cp pt nt ct pk nk ck] h fun v h'=>h'=h∧IsB (np≤20∧nt≤20∧nk≤20∧fbS b=0) v:=by
 refine fn_enter Tryz.func48 rfl rfl (l:=(fbV b pp np cp pt nt ct pk nk ck)::uu10) rfl ?_
 intro cf cs K hK
 refine rs2 ?_;refine k_box rfl zq (fun q1=>k_hp (k_put ?_));refine aq rfl ?_;refine rs9 ?_;refine k_ldA rfl zq ?_
 refine k_calP (Post:=fun v=>IsB _ v) rfl zq (by kernel_rfl) (fun H' hH=>f17_c m H') ?_;rintro v (⟨hc,rfl⟩|⟨hc,rfl⟩)
 ·refine d43 ?_;refine d52 ?_;refine d72 ?_;refine d0 ?_
  refine run_res (h) rfl Tryz.func48 rfl weakSub ?_;refine hK _ _ ?_;first|exact ⟨rfl,IsB.yes ⟨by omega,by omega,by omega,by omega⟩⟩|exact ⟨rfl,IsB.no (by omega)⟩
 ·refine d44 ?_;refine mq rfl ?_;refine k_ldA rfl rfl ?_
  refine k_calP (Post:=fun v=>v=_) rfl rfl (by kernel_rfl) (fun H' hH=>f22_c m H' (rdp.keeps (sq hH)) (by omega) (rdt.keeps (sq hH)) (by omega) (rdk.keeps (sq hH)) (by omega)) ?_;rintro v rfl;refine k_put ?_;refine k_eqlS rfl rfl (fun hc=>?_) (fun hc=>?_)
  ·refine d92 ?_
   refine run_res (h) rfl Tryz.func48 rfl weakSub ?_;refine hK _ _ ?_;first|exact ⟨rfl,IsB.yes ⟨by omega,by omega,by omega,by omega⟩⟩|exact ⟨rfl,IsB.no (by omega)⟩
  ·refine d92 ?_
   refine run_res (h) rfl Tryz.func48 rfl weakSub ?_;refine hK _ _ ?_;first|exact ⟨rfl,IsB.yes ⟨by omega,by omega,by omega,by omega⟩⟩|exact ⟨rfl,IsB.no (by omega)⟩
theorem f128_c (m:Md Tryz.prog B) (h:Hp) {p:Option Addr} {n c:Nat} {zs:List Int} (rd:RdS B h 1 (.slice p n c) n (u16s zs)) (hz: ∀z∈zs,0≤z∧z≤65535) (k:Nat):FnC m 128 #[.slice p n c,.int .i64 (k:Int)] h fun v h'=>h'=h∧ ∃z:Nat,z≤65535∧v= .int .i64 (z:Int):=by
 refine fn_enter Tryz.func128 rfl rfl (l:=(.slice p n c)::(.int .i64 (k:Int))::uu16) rfl ?_
 intro cf cs K hK
 refine d93 ?_;refine rs8 ?_;refine mq rfl ?_
 refine k_geqS rfl zq (fun hc=>?_) (fun hc=>?_)
 ·refine d23 ?_;refine k_mv rfl rfl ?_;refine k_len rfl rfl ?_
  refine k_lssS rfl rfl (fun hc=>?_) (fun hc=>?_)
  ·refine k_pickT rfl zq ?_;refine d7 ?_;refine rs6 ?_;refine d3 ?_;have hzl:zs.length=n:=by have:=rd.len;simpa using this
   obtain ⟨pb,po,rfl⟩:=rd.ptr (by omega)
   refine k_ixs rfl zq (by first|rfl|assumption) (by omega) (by omega) ?_;have hzk:=getD_all hz (k:=k) (by omega)
   refine k_ld rfl zq (u16_at (zs:=zs) (k:=k) (by omega)▸rd.vat k (by omega) (by omega)) ?_;refine k_conv rfl zq (by kernel_rfl) (n':=zs.getD k 0) (by generalize zs.getD k 0=gz at hzk⊢;unfold IntKind.wrap;simp [IntKind.bits,IntKind.signed];omega) ?_;refine d0 ?_
   refine run_res (h) rfl Tryz.func128 rfl weakSub ?_;refine hK _ _ ?_;exact ⟨rfl,(zs.getD k 0).toNat,by omega,by rw [Int.toNat_of_nonneg (by omega)]⟩
  ·refine k_pickT rfl zq ?_;refine d13 ?_;refine d38 ?_;refine run_res (h) rfl Tryz.func128 rfl weakSub ?_;refine hK _ _ ?_;exact ⟨rfl,0,by omega,rfl⟩
 ·exact absurd hc (by omega)
theorem f49_c (m:Md Tryz.prog B) (h:Hp) (rdp:Rp B h b pp np cp) (hp:np≤1000) (hv:FOk b) {p:Option Addr} {n c:Nat} {zs:List Int} (rd:RdS B h 1 (.slice p n c) n (u16s zs)) (hz: ∀z∈zs,0≤z∧z≤65535):FnC m 49 #[fbV b pp np cp pt nt ct pk nk ck,.slice p n c] h fun v h'=> ∃new,h'=h++new∧ ∃ln,OwnS 3 1 v ln.length (ints ln) new∧ln.length=b.pts.length∧spansF b ln:=by
 have hml:=rdp.elen (by decide)
 refine fn_enter Tryz.func49 rfl rfl (l:=(fbV b pp np cp pt nt ct pk nk ck)::(.slice p n c)::uu26) rfl ?_
 intro cf cs K hK
 refine rs2 ?_;refine k_box rfl zq (fun q2=>k_hp (k_put ?_));refine aq rfl ?_;refine d93 ?_;refine d142 ?_
 refine run_loop (fun nn l h'=> ∃(k:Nat) (w:Value) (new:Hp) (ln:List Int),nn=np-k∧(k≤np)∧(ln.length=k)∧(OwnS 3 1 w k (ints ln) new)∧(∀i,i<k→(b.pts.getD i default).lo≤ln.getD i 0∧ln.getD i 0≤(b.pts.getD i default).hi)∧(∃U:Nat→Value,l=((fbV b pp np cp pt nt ct pk nk ck)::(.slice p n c)::(.pointer (some ⟨q2,0,none⟩))::(U 3)::(U 4)::w::(.int .i64 (k:Int))::(U 7)::vw20 U 8 []))∧h++[⟨true,q2,.cells ((fbL b pp np cp pt nt ct pk nk ck).toArray) 26 (0,0)⟩]++new=h') _ ⟨0,_,[],[],rfl,by omega,rfl,OwnS.nil,fun i hi=>by omega,exU rfl,(by simp)⟩ ?_;rintro nn l h' ⟨k,w,new,ln,rfl,hk,hll,ho,hla,⟨U,rfl⟩,rfl⟩ hnext;refine run_seq ?_;refine rs5 ?_;refine mq rfl ?_;refine d114 ?_;refine k_lssS rfl zq (fun hc=>?_) (fun hc=>?_)
 ·refine d98 ?_
  refine run_draw [(0,.pure),(1,.pure),(3,.pure),(7,.pure),(8,.pure),(2,.read),(4,.pure),(5,.pure),(6,.read),(9,.keep),(10,.keep),(11,.keep),(12,.free),(13,.pure)] (by kernel_rfl) (by kernel_rfl) (List.Sublist.refl _) ?_;refine mq rfl ?_;(first|refine k_fa0 rfl zq ?_|refine k_fa rfl zq ?_);refine d3 ?_;refine mq rfl ?_;refine k_ldh rfl zq ?_
  obtain ⟨rdp_b,rdp_o,rfl⟩:=rdp.ptr (by omega)
  refine d20 ?_
  refine k_ldN (vs:=[.int .i64 (b.pts.getD k default).lo,.int .i64 (b.pts.getD k default).hi]) rfl zq rfl (rdp.eatF k 1 (by omega) (by omega) rfl) ?_;refine k_calP (Post:=fun v=> ∃z:Nat,z≤65535∧v= .int .i64 (z:Int)) rfl zq (by kernel_rfl) (fun H' hH=>f128_c m H' (rd.keeps (sq hH)) hz k) ?_;rintro v ⟨zz,hzz,rfl⟩;refine k_put ?_;have hmk:=hv.pts.span (i:=k) (by omega)
  refine k_calP (Post:=fun v=>v=_) rfl zq (by kernel_rfl) (fun H' hH=>f60_c m H' _ _ zz (by omega) (by omega)) ?_;rintro v rfl;refine k_put ?_;have hz7:=Nat.mod_lt zz (show 0<((b.pts.getD k default).hi-(b.pts.getD k default).lo+1).toNat by omega)
  refine k_bs kdq rfl zq (by decide) (by decide) rfl (fun q25=>k_hp (k_put ?_));refine k_app1 (F:=h++[⟨true,q2,.cells ((fbL b (some ⟨rdp_b,rdp_o,none⟩) np cp pt nt ct pk nk ck).toArray) 26 (0,0)⟩]) rfl zq rfl ho kdq (by omega) (by omega) (fun w2 new2 ho2=>k_put ?_);rw [show ints ln++[Value.int .i64 ((b.pts.getD k default).lo+((zz%((b.pts.getD k default).hi-(b.pts.getD k default).lo+1).toNat:Nat):Int))]=ints (ln++[(b.pts.getD k default).lo+((zz%((b.pts.getD k default).hi-(b.pts.getD k default).lo+1).toNat:Nat):Int)]) by simp] at ho2
  refine d45 ?_;refine rr3 ?_;refine d61 ?_
  exact m.weak weakSub (hnext _ _ _ (by omega) ⟨k+1,_,_,_,rfl,by omega,by simp;omega,ho2,fun i hi=>by
   rw [getD_sn,hll];by_cases e:i<k
   ·rw [if_pos e];exact hla i e
   ·rw [if_neg e,if_pos (by omega),show i=k by omega];omega,exU rfl,rfl⟩)
 ·refine d75 ?_;refine d99 ?_
  refine run_res (h++new) rfl Tryz.func49 rfl weakSub ?_;refine hK _ _ ?_;have hkk:k=ln.length:=hll.symm
  subst hkk
  exact ⟨_,rfl,ln,ho,by omega,hla⟩
theorem f52_c (m:Md Tryz.prog B) (h:Hp) (hn:2≤np) (hp:np≤1000) (z:Nat) (hz:z≤255):FnC m 52 #[fbV b pp np cp pt nt ct pk nk ck,.int .u8 (z:Int)] h fun v h'=>h'=h∧ ∃f t:Nat,v= .tuple [.int .i64 (f:Int),.int .i64 (t:Int)].toArray∧f<t∧t<np:=by
 refine fn_enter Tryz.func52 rfl rfl (l:=(fbV b pp np cp pt nt ct pk nk ck)::(.int .u8 (z:Int))::uu19) rfl ?_
 intro cf cs K hK
 refine rs3 ?_;refine k_box rfl zq (fun q2=>k_hp (k_put ?_));refine d46 ?_;refine rs9 ?_;refine mq rfl ?_
 refine k_conv rfl zq (by kernel_rfl) (n':=(z:Int)) (by unfold IntKind.wrap;simp [IntKind.bits,IntKind.signed];omega) ?_;refine d2 ?_;refine d71 ?_;refine k_remT rfl zq (by omega) ?_
 obtain ⟨w,hw⟩: ∃w,w=np-1:=⟨_,rfl⟩
 rw [show (z:Int).tmod ((np:Int)-1)=((z%w:Nat):Int) by rw [show (np:Int)-1=(w:Int) by omega];exact (Int.ofNat_tmod z w).symm];have hzw:=Nat.mod_lt z (show 0<w by omega)
 generalize z%w=t at hzw⊢
 refine k_add rfl zq (by unfold In64;omega) ?_;refine aq rfl ?_;refine rs8 ?_;refine mq rfl ?_;refine k_conv rfl zq (by kernel_rfl) (n':=(z:Int)) (by unfold IntKind.wrap;simp [IntKind.bits,IntKind.signed];omega) ?_;refine k_quo z 8 rfl zq rfl rfl (by omega) (by omega) ?_;refine mq rfl ?_;refine k_remT rfl zq (by omega) ?_
 rw [show ((z/8:Nat):Int).tmod (1+(t:Int))=((z/8%(1+t):Nat):Int) from (Int.ofNat_tmod (z/8) (1+t)).symm];have hft:=Nat.mod_lt (z/8) (show 0<1+t by omega)
 refine mq rfl ?_;refine d27 ?_
 refine run_res (h) rfl Tryz.func52 rfl weakSub ?_;refine hK _ _ ?_;exact ⟨rfl,_,1+t,rfl,hft,by omega⟩
theorem row_small {b:Fb} {ln:List Int} (hv:FOk b) (hl:ln.length=b.pts.length) (hs:spansF b ln):SmL ln:=fun j=>by
 by_cases h:j<ln.length
 ·have h1:=hs j h
  have h2:=hv.pts.span (i:=j) (by omega)
  omega
 ·rw [List.getD_eq_getElem?_getD,List.getElem?_eq_none (by omega)];simp
theorem row_hand {b:Fb} {ln:List Int} (h0:fbS b=0) (hl:ln.length=b.pts.length) (hs:spansF b ln):fhandS b ln=0:=by
 have hm:=row_small (fbS_zero h0) hl hs
 rw [fhandS,if_neg (fun e=>e h0),brS,if_neg (by omega),if_neg];rintro ⟨i,hi,h⟩;exact h (hm i)
theorem row_girth {b:Fb} {ln:List Int} (h0:fbS b=0) (hl:ln.length=b.pts.length) (hs:spansF b ln) {f t:Nat} (hf:f<t) (ht:t<b.pts.length):girthS b ln f t=0:=by
 rw [girthS_o (row_hand h0 hl hs),ordS,if_neg (by omega),if_neg (by omega)]
theorem girthI_nat (pts:List Pt) (l:List Int) (f t:Nat):girthI pts l f t=girthF pts l f (t-f):=by
 rw [girthI,show ((f:Int)).toNat=f by omega,show ((t:Int)-(f:Int)).toNat=t-f by omega]
theorem f8_t (h:Hp) (rdp:Rp B h b pp np cp) (rdt:Rt B h b pt nt ct) (rdk:Rk B h b pk nk ck) {p:Option Addr} {n c:Nat} {zs:List Int} (rd:RdS B h 1 (.slice p n c) n (u16s zs)) (hz: ∀z∈zs,0≤z∧z≤65535) (x y:Nat) (hx:x≤255) (hy:y≤255):(Md.starS Tryz.prog B).R (AtEnd Tryz.prog B fun v _=>v= .bool true) (G (Frame.enter Tryz.prog 8 #[fbV b pp np cp pt nt ct pk nk ck,.slice p n c,.int .u8 (x:Int),.int .u8 (y:Int)] .normal) []) h:=by
 refine top_enter Tryz.func8 rfl rfl (l:=[fbV b pp np cp pt nt ct pk nk ck,.slice p n c,.int .u8 (x:Int),.int .u8 (y:Int),undef,undef,undef,undef,undef,undef,undef,undef,undef,undef,undef,undef,undef,undef,undef,undef,undef,undef,undef,undef,undef,undef,undef,undef,undef,undef,undef,undef,undef,undef,undef,undef,undef,undef,undef,undef,undef,undef,undef,undef,undef,undef,undef,undef,undef,undef,undef,undef,undef,undef,undef,undef,undef,undef,undef,undef,undef,undef,undef,undef,undef,undef,undef,undef,undef,undef,undef,undef,undef,undef,undef,undef,undef,undef,undef,undef,undef,undef,undef,undef,undef,undef,undef,undef,undef,undef,undef,undef,undef,undef,undef,undef,undef,undef,undef,undef,undef,undef,undef,undef,undef,undef,undef,undef,undef,undef,undef,undef,undef,undef,undef,undef,undef,undef,undef,undef,undef,undef,undef,undef,undef,undef,undef,undef,undef,undef,undef,undef,undef,undef,undef,undef,undef,undef,undef,undef,undef,undef,undef,undef,undef,undef,undef,undef,undef,undef,undef,undef,undef,undef,undef,undef,undef,undef,undef,undef,undef,undef,undef,undef,undef,undef,undef,undef,undef]) rfl ?_
 refine rs2 ?_;refine k_box rfl zq (fun q4=>k_hp (k_put ?_));refine d12 ?_;refine d94 ?_
 refine k_calP (Post:=fun v=>IsB _ v) rfl zq (by kernel_rfl) (fun H' hH=>f48_c _ H' (rdp.keeps (sq hH)) (rdt.keeps (sq hH)) (rdk.keeps (sq hH))) ?_;rintro v (⟨hc,rfl⟩|⟨hc,rfl⟩)
 ·refine d43 ?_;refine d37 ?_
  have hp:np≤1000:=by omega
  have ht:nt≤1000:=by omega
  have hk:nk≤1000:=by omega
  have h0:fbS b=0:=by omega
  have hv:=fbS_zero h0
  have hv1:=hv.pts.five
  have hv2:=hv.pts.two
  have hml:=rdp.elen (by decide)
  refine rr4 ?_;refine d69 ?_;refine k_calC rfl zq (by kernel_rfl) (Post:=fun v new=> ∃ln,OwnS 3 1 v ln.length (ints ln) new∧ln.length=b.pts.length∧spansF b ln) (fun H' hH=>f49_c _ H' (rdp.keeps (sq hH)) hp hv (rd.keeps (sq hH)) hz) ?_;rintro v n49 ⟨ln,o49,hll,hsp⟩;refine k_hpA (k_put ?_);obtain ⟨pl,cl,rfl,hcl,rl⟩:=own_rdA (B:=B) o49
  have hln:ln.length≤1000:=by omega
  refine aq rfl ?_;refine rs8 ?_;refine d69 ?_
  refine k_calP (Post:=fun v=> ∃f t:Nat,v= .tuple [.int .i64 (f:Int),.int .i64 (t:Int)].toArray∧f<t∧t<np) rfl zq (by kernel_rfl) (fun H' hH=>f52_c _ H' (by omega) hp x hx) ?_;rintro v ⟨f,t,rfl,hft,htn⟩;refine d134 ?_;refine rs10 ?_;refine k_ldA rfl zq ?_;refine d3 ?_;refine mq rfl ?_
  refine k_calP (Post:=fun v=>v= .tuple [.int .i64 (girthI b.pts ln (f:Int) (t:Int)),.int .i64 0].toArray) rfl zq (by kernel_rfl) (fun H' hH=>by have:=f25_c (Md.starS Tryz.prog B) H' (b:=b) (xs:=ln) (rdp.keeps (sq hH)) hp (rdt.keeps (sq hH)) ht (rdk.keeps (sq hH)) hk (rl.keeps (sq hH)) hln (f:Int) (t:Int);rw [orNo_yes (row_girth h0 hll hsp hft (by omega))] at this;exact this) ?_;rintro v rfl;refine d78 ?_;refine k_as rfl zq ?_;refine d68 ?_;refine k_neqF rfl zq (by decide) ?_;refine d37 ?_
  have hm:=row_small hv hll hsp
  have hbf:=hv.pts.at (i:=f) (by omega)
  have hbt:=hv.pts.at (i:=t) (by omega)
  have hlt:=hv.pts.lt (t-f-1) f (by omega)
  rw [show f+(t-f-1)+1=t by omega] at hlt
  refine run_draw [(0,.pure),(2,.pure),(6,.pure),(8,.pure),(1,.read),(3,.pure),(4,.pure),(5,.read),(7,.read),(9,.pure),(10,.pure),(11,.read),(12,.pure),(13,.pure)] (by kernel_rfl) (by kernel_rfl) (List.Sublist.refl _) ?_;(first|refine k_fa0 rfl zq ?_|refine k_fa rfl zq ?_);refine mq rfl ?_;(first|refine k_fa0 rfl zq ?_|refine k_fa rfl zq ?_);refine mq rfl ?_;refine k_ldh rfl zq ?_
  obtain ⟨rdp_b,rdp_o,rfl⟩:=rdp.ptr (by omega)
  refine d20 ?_
  refine k_ld rfl zq (rdp.fat (v:= .int .i64 (b.pts.getD t default).h) t 0 (by omega) (by omega) rfl) ?_;refine k_ldh rfl zq ?_;refine d20 ?_;refine k_ld rfl zq (rdp.fat (v:= .int .i64 (b.pts.getD f default).h) f 0 (by omega) (by omega) rfl) ?_;refine k_sub rfl zq (by unfold In64;omega) ?_;refine aq rfl ?_;refine d18 ?_;refine d68 ?_;refine d54 ?_;refine run_loop (fun nn l h'=> ∃(j:Nat) (s:Int),nn=t-(f+j)∧(f+j≤t)∧(s=((b.pts.getD t default).h-(b.pts.getD f default).h)+stepsI ln f j)∧(0≤s∧s≤960+960*(j:Int))∧(∃U:Nat→Value,l=((fbV b (some ⟨rdp_b,rdp_o,none⟩) np cp pt nt ct pk nk ck)::(.slice p n c)::(.int .u8 (x:Int))::(.int .u8 (y:Int))::(.pointer (some ⟨q4,0,none⟩))::vw4 U 5 ((.slice pl ln.length cl)::(.int .i64 (f:Int))::(.int .i64 (t:Int))::(.int .i64 (girthI b.pts ln (f:Int) (t:Int)))::(U 13)::(.int .i64 s)::(.int .i64 ((b.pts.getD t default).h-(b.pts.getD f default).h))::(.int .i64 ((f+j:Nat):Int))::(U 17)::(U 18)::(U 19)::(U 20)::(U 21)::(U 22)::(U 23)::(U 24)::(U 25)::(U 26)::(U 27)::(U 28)::(U 29)::(U 30)::vw138 U 31 [])))∧h++[⟨true,q4,.cells ((fbL b (some ⟨rdp_b,rdp_o,none⟩) np cp pt nt ct pk nk ck).toArray) 26 (0,0)⟩]++n49=h') _ ⟨0,_,rfl,by omega,by rw [stepsI,Int.add_zero],by omega,exU rfl,(by simp)⟩ ?_
  rintro nn l h' ⟨j,s,rfl,hj,hs,hsb,⟨U,rfl⟩,rfl⟩ hnext;have hb1:=hm (f+j)
  have hb2:=hm (f+j+1)
  refine run_seq ?_;refine rs3 ?_;refine d3 ?_;refine k_lssS rfl zq (fun hc=>?_) (fun hc=>?_)
  ·refine d98 ?_
   refine run_draw [(0,.pure),(1,.pure),(2,.pure),(3,.pure),(4,.pure),(6,.pure),(7,.pure),(8,.pure),(11,.pure),(12,.pure),(13,.pure),(15,.pure),(16,.pure),(17,.pure),(18,.pure),(5,.read),(9,.read),(10,.pure),(14,.read),(19,.read),(20,.pure),(21,.pure),(22,.pure),(23,.pure)] (by kernel_rfl) (by kernel_rfl) (List.Sublist.refl _) ?_;refine d3 ?_;refine d4 ?_
   obtain ⟨rl_b,rl_o,rfl⟩:=rl.ptr (by omega)
   refine k_ixs rfl zq (by first|rfl|assumption) (by omega) (by omega) ?_;refine d11 ?_;refine d11 ?_;refine d3 ?_;refine k_add rfl zq (by unfold In64;omega) ?_;refine k_ixs rfl zq (by first|rfl|assumption) (by omega) (by omega) ?_;refine k_ld rfl zq (rl.iat ((f+j)+1) (by omega) (by omega)) ?_;refine k_ld rfl zq (rl.iat (f+j) (by omega) (by omega)) ?_;refine k_sub rfl zq (by unfold In64;omega) ?_;refine k_ld rfl zq (rl.iat (f+j) (by omega) (by omega)) ?_;refine k_ld rfl zq (rl.iat ((f+j)+1) (by omega) (by omega)) ?_;refine k_sub rfl zq (by unfold In64;omega) ?_;refine k_max rfl zq ?_;refine k_add rfl zq (by unfold In64;omega) ?_;refine d45 ?_;refine rr3 ?_;refine d61 ?_;exact (Md.starS Tryz.prog B).weak weakSub (hnext _ _ _ (by omega) ⟨j+1,_,rfl,by omega,by rw [hs,stepsI,Int.add_assoc],by omega,exU rfl,rfl⟩)
  ·refine d75 ?_;refine d90 ?_
   have hjt:j=t-f:=by omega
   obtain ⟨g1,g2,g3,g4⟩:=girth_bounds (l:=ln) hv.pts.up f (t-f) (by omega)
   rw [show f+(t-f)=t by omega] at g1 g2 g3 g4
   rw [←girthI_nat] at g1 g2 g3 g4
   rw [hjt] at hs
   have hmf:=hm f
   have hmt:=hm t
   refine run_draw [(0,.pure),(1,.pure),(2,.pure),(3,.pure),(4,.pure),(5,.pure),(6,.pure),(7,.pure),(8,.pure),(9,.pure),(10,.pure),(11,.pure),(12,.pure),(14,.pure),(15,.pure),(16,.pure),(19,.pure),(20,.pure),(21,.pure),(23,.pure),(24,.pure),(25,.pure),(13,.read),(17,.read),(18,.pure),(22,.read),(26,.read),(27,.pure),(28,.pure),(29,.pure),(30,.pure)] (by kernel_rfl) (by kernel_rfl) (List.Sublist.refl _) ?_;refine d3 ?_
   refine k_gtrF rfl zq (by omega) ?_;refine d23 ?_;refine k_mv rfl rfl ?_
   refine k_lssF rfl rfl (by omega) ?_;refine k_pickF rfl zq ?_;refine d23 ?_;refine k_mv rfl rfl ?_;refine k_mv rfl rfl ?_;obtain ⟨rl_b,rl_o,rfl⟩:=rl.ptr (by omega)
   refine k_ixs rfl rfl (by first|rfl|assumption) (by omega) (by omega) ?_;refine k_mv rfl rfl ?_;refine d130 ?_;refine d130 ?_;refine d21 ?_;refine k_ld rfl rfl (rl.iat t (by omega) (by omega)) ?_;refine k_ld rfl rfl (rl.iat f (by omega) (by omega)) ?_;refine k_sub rfl rfl (by unfold In64;omega) ?_;refine k_ld rfl rfl (rl.iat f (by omega) (by omega)) ?_;refine k_ld rfl rfl (rl.iat t (by omega) (by omega)) ?_;refine k_sub rfl rfl (by unfold In64;omega) ?_;refine k_max rfl rfl ?_;refine k_lssF rfl rfl (by omega) ?_;refine d126 ?_;refine rs10 ?_;refine d3 ?_
   refine k_conv rfl zq (by kernel_rfl) (n':=(y:Int)) (by unfold IntKind.wrap;simp [IntKind.bits,IntKind.signed];omega) ?_;refine d26 ?_;refine k_add rfl zq (by unfold In64;omega) ?_;refine k_remT rfl zq (by omega) ?_
   rw [show (y:Int).tmod ((t:Int)-(f:Int)+1)=((y%(t-f+1):Nat):Int) by rw [show (t:Int)-(f:Int)+1=((t-f+1:Nat):Int) by omega];exact (Int.ofNat_tmod y (t-f+1)).symm];have hyk:=Nat.mod_lt y (show 0<t-f+1 by omega)
   generalize y%(t-f+1)=r at hyk⊢
   refine k_add rfl zq (by unfold In64;omega) ?_;refine d12 ?_;refine run_seq ?_;rw [show (f:Int)+(r:Int)=((f+r:Nat):Int) by omega];obtain ⟨k,hkr⟩: ∃k,k=f+r:=⟨_,rfl⟩
   rw [←hkr];refine rr8 ?_;refine d3 ?_;refine k_eqlS rfl zq (fun hc=>?_) (fun hc=>?_)
   ·refine d52 ?_;refine k_off rfl rfl ?_;refine k_pickT rfl zq ?_;refine d7 ?_;refine rs2 ?_
    refine k_cal rfl zq (by kernel_rfl) (f18_c _) ?_;rintro v h' ⟨nF,rfl,rfl⟩;refine d110 ?_
    refine run_top rfl Tryz.func8 (by kernel_rfl) rfl ?_;rfl
   ·refine d23 ?_;refine k_mv rfl rfl ?_
    refine k_eqlS rfl rfl (fun hc=>?_) (fun hc=>?_)
    ·refine k_pickF rfl zq ?_;refine d7 ?_;refine rs2 ?_;refine k_cal rfl zq (by kernel_rfl) (f18_c _) ?_;rintro v h' ⟨nF,rfl,rfl⟩;refine d110 ?_
     refine run_top rfl Tryz.func8 (by kernel_rfl) rfl ?_;rfl
    ·refine k_pickF rfl zq ?_;refine d37 ?_;have hkf:f<k:=by omega
     have hkt:k<t:=by omega
     refine rr10 ?_;refine k_ldA rfl zq ?_;refine d3 ?_;refine mq rfl ?_;refine k_calP (Post:=fun v=>v= .tuple [.int .i64 (girthI b.pts ln (f:Int) (k:Int)),.int .i64 0].toArray) rfl zq (by kernel_rfl) (fun H' hH=>by have:=f25_c (Md.starS Tryz.prog B) H' (b:=b) (xs:=ln) (rdp.keeps (sq hH)) hp (rdt.keeps (sq hH)) ht (rdk.keeps (sq hH)) hk (rl.keeps (sq hH)) hln (f:Int) (k:Int);rw [orNo_yes (row_girth h0 hll hsp (by omega) (by omega))] at this;exact this) ?_;rintro v rfl;refine d78 ?_;refine d97 ?_
     obtain ⟨u1,u2,u3,u4⟩:=girth_bounds (l:=ln) hv.pts.up f (k-f) (by omega)
     obtain ⟨v1,v2,v3,v4⟩:=girth_bounds (l:=ln) hv.pts.up k (t-k) (by omega)
     rw [←girthI_nat] at u1 v1
     rw [show f+(k-f)=k by omega] at u1
     rw [show k+(t-k)=t by omega] at v1
     have hspl:=girthI_split (pts:=b.pts) (l:=ln) (Nat.le_of_lt hkf) (Nat.le_of_lt hkt)
     have hbk:=hv.pts.at (i:=k) (by omega)
     have huu:=hv.pts.lt (k-f-1) f (by omega)
     rw [show f+(k-f-1)+1=k by omega] at huu
     have hvv:=hv.pts.lt (t-k-1) k (by omega)
     rw [show k+(t-k-1)+1=t by omega] at hvv
     refine rr10 ?_;refine k_ldA rfl zq ?_;refine d3 ?_;refine mq rfl ?_;refine k_calP (Post:=fun v=>v= .tuple [.int .i64 (girthI b.pts ln (k:Int) (t:Int)),.int .i64 0].toArray) rfl zq (by kernel_rfl) (fun H' hH=>by have:=f25_c (Md.starS Tryz.prog B) H' (b:=b) (xs:=ln) (rdp.keeps (sq hH)) hp (rdt.keeps (sq hH)) ht (rdk.keeps (sq hH)) hk (rl.keeps (sq hH)) hln (k:Int) (t:Int);rw [orNo_yes (row_girth h0 hll hsp (by omega) (by omega))] at this;exact this) ?_;rintro v rfl;refine d78 ?_;refine d97 ?_
     refine run_region [(0,.free),(1,.free),(2,.free),(3,.free),(4,.free),(5,.free),(6,.free),(7,.free),(8,.free),(9,.free),(10,.free),(11,.free),(12,.free),(13,.free),(14,.free),(15,.free),(16,.free)] (by kernel_rfl) (by kernel_rfl) ?_;refine mq rfl ?_;refine k_eqlT rfl zq (by decide) ?_;refine d23 ?_;refine d117 ?_;refine d23 ?_;refine k_mv rfl rfl ?_;refine k_add rfl rfl (by unfold In64;omega) ?_;refine k_mv rfl rfl ?_
     refine k_eqlT rfl rfl hspl ?_;refine k_pickT rfl zq ?_;refine mq rfl ?_;refine k_cal rfl rfl (by kernel_rfl) (f18_c _) ?_;rintro v h' ⟨nF,rfl,rfl⟩;refine k_put ?_;refine d92 ?_;refine run_top rfl Tryz.func8 (by kernel_rfl) rfl ?_;rfl
 ·refine d44 ?_;refine d7 ?_;refine rs2 ?_
  refine k_cal rfl zq (by kernel_rfl) (f18_c _) ?_;rintro v h' ⟨nF,rfl,rfl⟩;refine d110 ?_
  refine run_top rfl Tryz.func8 (by kernel_rfl) rfl ?_;rfl
end Go.Proofs
