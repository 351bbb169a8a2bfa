/- A part of the proof of a law: my own separation logic over the machine, and walks of the program. Condition of each theorem: as its statement says. -/
import Derived.Test.YtnejmahckmhflaaGreatDoorWB9
set_option linter.all false
namespace Go.Lo
theorem segN_at {pts:List Pt} {hh:Int} {i:Nat} (up: ∀i,i+1<pts.length→(pts.getD i default).h<(pts.getD (i+1) default).h) (hi:i+1<pts.length) (h1:(pts.getD i default).h<hh) (h2:hh≤(pts.getD (i+1) default).h):segN pts hh=i:=by
 have mono: ∀j k,j≤k→k<pts.length→(pts.getD j default).h≤(pts.getD k default).h:=by
  intro j k hjk
  induction k with
  |zero=>
       intro _
       obtain rfl:j=0:=by omega
       exact Int.le_refl _
  |succ k ih=>
   intro hk
   rcases Nat.lt_or_ge j (k+1) with h|h
   ·have:=ih (by omega) (by omega);have:=up k hk;omega
   ·obtain rfl:j=k+1:=by omega
    exact Int.le_refl _
 refine segN_eq hi (fun k hk=>?_) h2
 have:=mono (k+1) i (by omega) (by omega)
 omega
theorem atI_between {pts:List Pt} {l:List Int} {hh:Int} {i:Nat} (up: ∀i,i+1<pts.length→(pts.getD i default).h<(pts.getD (i+1) default).h) (hi:i+1<pts.length) (h1:(pts.getD i default).h≤hh) (h2:hh≤(pts.getD (i+1) default).h):
  atI pts l hh=l.getD i 0+((l.getD (i+1) 0-l.getD i 0)*(hh-(pts.getD i default).h))/((pts.getD (i+1) default).h-(pts.getD i default).h):=by
 rcases Int.lt_or_eq_of_le h1 with h|h
 ·unfold atI downI
  rw [segN_at up hi h h2]
 ·subst h
  rw [Int.sub_self,Int.mul_zero,Int.zero_ediv,Int.add_zero];cases i with
  |zero=>
   unfold atI downI
   rw [segN_eq (i:=0) hi (fun k hk=>by omega) h2];simp
  |succ i=>
   have hu:=up i (by omega)
   unfold atI downI
   rw [segN_at (i:=i) up (by omega) hu (Int.le_refl _)];have:(pts.getD (i+1) default).h-(pts.getD i default).h≠0:=by omega
   simp only
   rw [Int.mul_ediv_cancel _ this];omega
theorem seg_exists {pts:List Pt} {hh:Int} (h0:(pts.getD 0 default).h≤hh): ∀n,n+1<pts.length→hh≤(pts.getD (n+1) default).h→ ∃i,i≤n∧(pts.getD i default).h≤hh∧hh≤(pts.getD (i+1) default).h
 |0,_,h=>⟨0,Nat.le_refl _,h0,h⟩
 |n+1,hn,h=>by
  rcases Int.lt_or_le (pts.getD (n+1) default).h hh with h1|h1
  ·exact ⟨n+1,Nat.le_refl _,by omega,h⟩
  ·obtain ⟨i,hi,h2⟩:=seg_exists h0 n (by omega) h1
   exact ⟨i,by omega,h2⟩
theorem PtsOk.seg {pts:List Pt} (k:PtsOk pts) {hh:Int} (h0:(pts.getD 0 default).h≤hh) (h1:hh≤(pts.getD (pts.length-1) default).h): ∃i,i+1<pts.length∧(pts.getD i default).h≤hh∧hh≤(pts.getD (i+1) default).h:=by
 have:=k.two
 obtain ⟨i,hi,h2⟩:=seg_exists h0 (pts.length-2) (by omega) (by rw [show pts.length-2+1=pts.length-1 by omega];exact h1)
 exact ⟨i,by omega,h2⟩
theorem mean_eq {a c t d:Int} (hd:0<d):a+((c-a)*t)/d=(a*(d-t)+c*t)/d:=by
 have:a*(d-t)+c*t=(c-a)*t+a*d:=by
  rw [Int.mul_sub,Int.sub_mul];omega
 rw [this,Int.add_mul_ediv_right _ _ (by omega)];omega
theorem mean_mono {a c a' c' t d:Int} (hd:0<d) (h0:0≤t) (h1:t≤d) (ha:a≤a') (hc:c≤c'):a+((c-a)*t)/d≤a'+((c'-a')*t)/d:=by
 rw [mean_eq hd,mean_eq hd];refine Int.ediv_le_ediv hd ?_
 have e1:=Int.mul_le_mul_of_nonneg_right ha (show 0≤d-t by omega)
 have e2:=Int.mul_le_mul_of_nonneg_right hc h0
 omega
theorem mean_shift {a c t d z:Int}:(a+z)+(((c+z)-(a+z))*t)/d=a+((c-a)*t)/d+z:=by
 rw [show (c+z)-(a+z)=c-a by omega];omega
theorem mean_const {a t d:Int}:a+((a-a)*t)/d=a:=by
 rw [Int.sub_self,Int.zero_mul,Int.zero_ediv];omega
end Go.Lo
namespace Go.Proofs
open Go.Lo
open Go.Conc (G)
set_option maxRecDepth 100000
set_option synthInstance.maxHeartbeats 1000000
section
variable {P:Program} {B:Array Obj} {m:Md P B} {ops:Array Oper} {l l':List Value} {S h h' H:Hp} {C:List Value→Hp→Prop} {i:Nat} {kd:Kd} {r:List (Nat×Kd)}
 {d:Option Tmp} {ty:TypeId} {pos:String} {af:Array Edge} {g:Option (Nat×Bool)}
theorem k_gtrF {t u:TypeId} {x y:Operand} {a b:Int} {k:IntKind} (ho:ops[i]?=some ⟨d,.binOp .gtr t x y u,ty,pos,af,g⟩) (hw:Wt ops l g) [kh:KHeap kd S h H] [ex:OpV l x (.int k a)] [ey:OpV l y (.int k b)] (e: ¬b<a) [pt:PutV l d (.bool false) l'] (q:RegK m S ops r l' h C):RegK m S ops ((i,kd)::r) l h C:=by
 have pq:=pt;rw [←decide_eq_false e] at pq;exact k_gtr (l':=l') ho hw q
theorem k_lssF {t u:TypeId} {x y:Operand} {a b:Int} {k:IntKind} (ho:ops[i]?=some ⟨d,.binOp .lss t x y u,ty,pos,af,g⟩) (hw:Wt ops l g) [kh:KHeap kd S h H] [ex:OpV l x (.int k a)] [ey:OpV l y (.int k b)] (e: ¬a<b) [pt:PutV l d (.bool false) l'] (q:RegK m S ops r l' h C):RegK m S ops ((i,kd)::r) l h C:=by
 have pq:=pt;rw [←decide_eq_false e] at pq;exact k_lss (l':=l') ho hw q
theorem k_leqT {t u:TypeId} {x y:Operand} {a b:Int} {k:IntKind} (ho:ops[i]?=some ⟨d,.binOp .leq t x y u,ty,pos,af,g⟩) (hw:Wt ops l g) [kh:KHeap kd S h H] [ex:OpV l x (.int k a)] [ey:OpV l y (.int k b)] (e:a≤b) [pt:PutV l d (.bool true) l'] (q:RegK m S ops r l' h C):RegK m S ops ((i,kd)::r) l h C:=by
 have pq:=pt;rw [←decide_eq_true e] at pq;exact k_leq (l':=l') ho hw q
theorem k_geqT {t u:TypeId} {x y:Operand} {a b:Int} {k:IntKind} (ho:ops[i]?=some ⟨d,.binOp .geq t x y u,ty,pos,af,g⟩) (hw:Wt ops l g) [kh:KHeap kd S h H] [ex:OpV l x (.int k a)] [ey:OpV l y (.int k b)] (e:b≤a) [pt:PutV l d (.bool true) l'] (q:RegK m S ops r l' h C):RegK m S ops ((i,kd)::r) l h C:=by
 have pq:=pt;rw [←decide_eq_true e] at pq;exact k_geq (l':=l') ho hw q
end
end Go.Proofs
namespace Go.Proofs
open Go.Lo
open Go.Conc (G)
set_option maxRecDepth 100000
set_option synthInstance.maxSize 100000
set_option synthInstance.maxHeartbeats 1000000
set_option maxHeartbeats 4000000
variable {B:Array Obj}
variable [LaidF B]
theorem innerL_length (b:Fb) (xs:List Int):(innerL b xs).length=xs.length:=by simp [innerL]
section
variable {P:Program} {B:Array Obj} {m:Md P B} {ops:Array Oper} {l l':List Value} {S h h' H:Hp} {C:List Value→Hp→Prop} {i:Nat} {kd:Kd} {r:List (Nat×Kd)}
 {d:Option Tmp} {ty:TypeId} {pos:String} {af:Array Edge} {g:Option (Nat×Bool)}
end
theorem own_blk_of {t k n:Nat} {v:Value} {cs:List Value} {new:Hp} (o:OwnS t k v n cs new) (h0:0<n): ∃q cap junk,v= .slice (some ⟨q,0,none⟩) n cap∧new=[⟨true,q,.cells (cs++junk).toArray t (0,0)⟩]∧n≤cap∧cs.length+junk.length=cap*k:=by
 cases o with
 |nil=>omega
 |blk hl hc hn=>exact ⟨_,_,_,rfl,rfl,hn,hc⟩
end Go.Proofs
namespace Go.Proofs
open Go.Lo
open Go.Conc (G)
set_option maxRecDepth 100000
set_option synthInstance.maxSize 100000
set_option synthInstance.maxHeartbeats 1000000
set_option maxHeartbeats 4000000
variable {b:Fb} {pp:Option Addr} {np cp:Nat} {pt:Option Addr} {nt ct:Nat} {pk:Option Addr} {nk ck:Nat}
variable {B:Array Obj}
variable [LaidF B]
abbrev u16s (zs:List Int):List Value:=zs.map (Value.int .u16)
theorem u16_at {zs:List Int} {k:Nat} (h:k<zs.length):(u16s zs).getD k undef= .int .u16 (zs.getD k 0):=by
 rw [List.getD_eq_getElem?_getD,List.getD_eq_getElem?_getD,List.getElem?_map,List.getElem?_eq_getElem h];rfl
theorem getD_sn (l:List Int) (x:Int) (i:Nat):(l++[x]).getD i 0=if i<l.length then l.getD i 0 else if i=l.length then x else 0:=by
 rw [List.getD_eq_getElem?_getD,List.getD_eq_getElem?_getD,List.getElem?_append];split
 ·rfl
 ·split
  ·rename_i h1 h2
   subst h2
   simp
  ·rename_i h1 h2
   rw [List.getElem?_eq_none (by simp;omega)];rfl
theorem _root_.Go.Lo.PtsOk.span {pts:List Pt} (k:PtsOk pts) {i:Nat} (hi:i<pts.length):0≤(pts.getD i default).lo∧(pts.getD i default).lo≤(pts.getD i default).hi∧(pts.getD i default).hi≤959:=(k.ok _ (mem_getDR.2 ⟨i,hi,rfl⟩)).2.1
theorem _root_.Go.Lo.PtsOk.lt {pts:List Pt} (k:PtsOk pts): ∀(d i:Nat),i+d+1<pts.length→(pts.getD i default).h<(pts.getD (i+d+1) default).h
 |0,i,h=>k.up i (by omega)
 |d+1,i,h=>by
  have h1:=k.lt d i (by omega)
  have h2:=k.up (i+d+1) (by omega)
  rw [show i+(d+1)+1=i+d+1+1 by omega];omega
theorem _root_.Go.Lo.PtsOk.ends {pts:List Pt} (k:PtsOk pts):(pts.getD 0 default).h<(pts.getD (pts.length-1) default).h:=by
 have h2:=k.two
 have:=k.lt (pts.length-2) 0 (by omega)
 rw [show 0+(pts.length-2)+1=pts.length-1 by omega] at this
 exact this
theorem f48_c (m:Md Tryz.prog B) (h:Hp) (rdp:Rp B h b pp np cp) (rdt:Rt B h b pt nt ct) (rdk:Rk B h b pk nk ck):FnC m 48 #[fbV b pp np cp pt nt ct pk nk ck] h fun v h'=>h'=h∧IsB (np≤20∧nt≤20∧nk≤20∧fbS b=0) v:=by
 refine fn_enter Tryz.func48 rfl rfl (l:=(fbV b pp np cp pt nt ct pk nk ck)::uu10) rfl ?_
 intro cf cs K hK
 refine rs2 ?_;refine k_box rfl zq (fun q1=>k_hp (k_put ?_));refine aq rfl ?_;refine rs9 ?_;refine k_ldA rfl zq ?_
 refine k_calP (Post:=fun v=>IsB _ v) rfl zq (by kernel_rfl) (fun H' hH=>f17_c m H') ?_;rintro v (⟨hc,rfl⟩|⟨hc,rfl⟩)
 ·refine d43 ?_;refine d52 ?_;refine d72 ?_;refine d0 ?_
  refine run_res (h) rfl Tryz.func48 rfl weakSub ?_;refine hK _ _ ?_;first|exact ⟨rfl,IsB.yes ⟨by omega,by omega,by omega,by omega⟩⟩|exact ⟨rfl,IsB.no (by omega)⟩
 ·refine d44 ?_;refine mq rfl ?_;refine k_ldA rfl rfl ?_
  refine k_calP (Post:=fun v=>v=_) rfl rfl (by kernel_rfl) (fun H' hH=>f22_c m H' (rdp.keeps (sq hH)) (by omega) (rdt.keeps (sq hH)) (by omega) (rdk.keeps (sq hH)) (by omega)) ?_;rintro v rfl;refine k_put ?_;refine k_eqlS rfl rfl (fun hc=>?_) (fun hc=>?_)
  ·refine d92 ?_
   refine run_res (h) rfl Tryz.func48 rfl weakSub ?_;refine hK _ _ ?_;first|exact ⟨rfl,IsB.yes ⟨by omega,by omega,by omega,by omega⟩⟩|exact ⟨rfl,IsB.no (by omega)⟩
  ·refine d92 ?_
   refine run_res (h) rfl Tryz.func48 rfl weakSub ?_;refine hK _ _ ?_;first|exact ⟨rfl,IsB.yes ⟨by omega,by omega,by omega,by omega⟩⟩|exact ⟨rfl,IsB.no (by omega)⟩
theorem f128_c (m:Md Tryz.prog B) (h:Hp) {p:Option Addr} {n c:Nat} {zs:List Int} (rd:RdS B h 1 (.slice p n c) n (u16s zs)) (hz: ∀z∈zs,0≤z∧z≤65535) (k:Nat):FnC m 128 #[.slice p n c,.int .i64 (k:Int)] h fun v h'=>h'=h∧ ∃z:Nat,z≤65535∧v= .int .i64 (z:Int):=by
 refine fn_enter Tryz.func128 rfl rfl (l:=(.slice p n c)::(.int .i64 (k:Int))::uu16) rfl ?_
 intro cf cs K hK
 refine d93 ?_;refine rs8 ?_;refine mq rfl ?_
 refine k_geqS rfl zq (fun hc=>?_) (fun hc=>?_)
 ·refine d23 ?_;refine k_mv rfl rfl ?_;refine k_len rfl rfl ?_
  refine k_lssS rfl rfl (fun hc=>?_) (fun hc=>?_)
  ·refine k_pickT rfl zq ?_;refine d7 ?_;refine rs6 ?_;refine d3 ?_;have hzl:zs.length=n:=by have:=rd.len;simpa using this
   obtain ⟨pb,po,rfl⟩:=rd.ptr (by omega)
   refine k_ixs rfl zq (by first|rfl|assumption) (by omega) (by omega) ?_;have hzk:=getD_all hz (k:=k) (by omega)
   refine k_ld rfl zq (u16_at (zs:=zs) (k:=k) (by omega)▸rd.vat k (by omega) (by omega)) ?_;refine k_conv rfl zq (by kernel_rfl) (n':=zs.getD k 0) (by generalize zs.getD k 0=gz at hzk⊢;unfold IntKind.wrap;simp [IntKind.bits,IntKind.signed];omega) ?_;refine d0 ?_
   refine run_res (h) rfl Tryz.func128 rfl weakSub ?_;refine hK _ _ ?_;exact ⟨rfl,(zs.getD k 0).toNat,by omega,by rw [Int.toNat_of_nonneg (by omega)]⟩
  ·refine k_pickT rfl zq ?_;refine d13 ?_;refine d38 ?_;refine run_res (h) rfl Tryz.func128 rfl weakSub ?_;refine hK _ _ ?_;exact ⟨rfl,0,by omega,rfl⟩
 ·exact absurd hc (by omega)
theorem f49_c (m:Md Tryz.prog B) (h:Hp) (rdp:Rp B h b pp np cp) (hp:np≤1000) (hv:FOk b) {p:Option Addr} {n c:Nat} {zs:List Int} (rd:RdS B h 1 (.slice p n c) n (u16s zs)) (hz: ∀z∈zs,0≤z∧z≤65535):FnC m 49 #[fbV b pp np cp pt nt ct pk nk ck,.slice p n c] h fun v h'=> ∃new,h'=h++new∧ ∃ln,OwnS 3 1 v ln.length (ints ln) new∧ln.length=b.pts.length∧spansF b ln:=by
 have hml:=rdp.elen (by decide)
 refine fn_enter Tryz.func49 rfl rfl (l:=(fbV b pp np cp pt nt ct pk nk ck)::(.slice p n c)::uu26) rfl ?_
 intro cf cs K hK
 refine rs2 ?_;refine k_box rfl zq (fun q2=>k_hp (k_put ?_));refine aq rfl ?_;refine d93 ?_;refine d142 ?_
 refine run_loop (fun nn l h'=> ∃(k:Nat) (w:Value) (new:Hp) (ln:List Int),nn=np-k∧(k≤np)∧(ln.length=k)∧(OwnS 3 1 w k (ints ln) new)∧(∀i,i<k→(b.pts.getD i default).lo≤ln.getD i 0∧ln.getD i 0≤(b.pts.getD i default).hi)∧(∃U:Nat→Value,l=((fbV b pp np cp pt nt ct pk nk ck)::(.slice p n c)::(.pointer (some ⟨q2,0,none⟩))::(U 3)::(U 4)::w::(.int .i64 (k:Int))::(U 7)::vw20 U 8 []))∧h++[⟨true,q2,.cells ((fbL b pp np cp pt nt ct pk nk ck).toArray) 26 (0,0)⟩]++new=h') _ ⟨0,_,[],[],rfl,by omega,rfl,OwnS.nil,fun i hi=>by omega,exU rfl,(by simp)⟩ ?_;rintro nn l h' ⟨k,w,new,ln,rfl,hk,hll,ho,hla,⟨U,rfl⟩,rfl⟩ hnext;refine run_seq ?_;refine rs5 ?_;refine mq rfl ?_;refine d114 ?_;refine k_lssS rfl zq (fun hc=>?_) (fun hc=>?_)
 ·refine d98 ?_
  refine run_draw [(0,.pure),(1,.pure),(3,.pure),(7,.pure),(8,.pure),(2,.read),(4,.pure),(5,.pure),(6,.read),(9,.keep),(10,.keep),(11,.keep),(12,.free),(13,.pure)] (by kernel_rfl) (by kernel_rfl) (List.Sublist.refl _) ?_;refine mq rfl ?_;(first|refine k_fa0 rfl zq ?_|refine k_fa rfl zq ?_);refine d3 ?_;refine mq rfl ?_;refine k_ldh rfl zq ?_
  obtain ⟨rdp_b,rdp_o,rfl⟩:=rdp.ptr (by omega)
  refine d20 ?_
  refine k_ldN (vs:=[.int .i64 (b.pts.getD k default).lo,.int .i64 (b.pts.getD k default).hi]) rfl zq rfl (rdp.eatF k 1 (by omega) (by omega) rfl) ?_;refine k_calP (Post:=fun v=> ∃z:Nat,z≤65535∧v= .int .i64 (z:Int)) rfl zq (by kernel_rfl) (fun H' hH=>f128_c m H' (rd.keeps (sq hH)) hz k) ?_;rintro v ⟨zz,hzz,rfl⟩;refine k_put ?_;have hmk:=hv.pts.span (i:=k) (by omega)
  refine k_calP (Post:=fun v=>v=_) rfl zq (by kernel_rfl) (fun H' hH=>f60_c m H' _ _ zz (by omega) (by omega)) ?_;rintro v rfl;refine k_put ?_;have hz7:=Nat.mod_lt zz (show 0<((b.pts.getD k default).hi-(b.pts.getD k default).lo+1).toNat by omega)
  refine k_bs kdq rfl zq (by decide) (by decide) rfl (fun q25=>k_hp (k_put ?_));refine k_app1 (F:=h++[⟨true,q2,.cells ((fbL b (some ⟨rdp_b,rdp_o,none⟩) np cp pt nt ct pk nk ck).toArray) 26 (0,0)⟩]) rfl zq rfl ho kdq (by omega) (by omega) (fun w2 new2 ho2=>k_put ?_);rw [show ints ln++[Value.int .i64 ((b.pts.getD k default).lo+((zz%((b.pts.getD k default).hi-(b.pts.getD k default).lo+1).toNat:Nat):Int))]=ints (ln++[(b.pts.getD k default).lo+((zz%((b.pts.getD k default).hi-(b.pts.getD k default).lo+1).toNat:Nat):Int)]) by simp] at ho2
  refine d45 ?_;refine rr3 ?_;refine d61 ?_
  exact m.weak weakSub (hnext _ _ _ (by omega) ⟨k+1,_,_,_,rfl,by omega,by simp;omega,ho2,fun i hi=>by
   rw [getD_sn,hll];by_cases e:i<k
   ·rw [if_pos e];exact hla i e
   ·rw [if_neg e,if_pos (by omega),show i=k by omega];omega,exU rfl,rfl⟩)
 ·refine d75 ?_;refine d99 ?_
  refine run_res (h++new) rfl Tryz.func49 rfl weakSub ?_;refine hK _ _ ?_;have hkk:k=ln.length:=hll.symm
  subst hkk
  exact ⟨_,rfl,ln,ho,by omega,hla⟩
theorem f51_c (m:Md Tryz.prog B) (h:Hp) (rdp:Rp B h b pp np cp) (hp:np≤1000) (hv:FOk b) (z:Nat) (hz:z≤65535):FnC m 51 #[fbV b pp np cp pt nt ct pk nk ck,.int .u16 (z:Int)] h fun v h'=>h'=h∧ ∃x:Int,v= .int .i64 x∧(b.pts.getD 0 default).h≤x∧x≤(b.pts.getD (np-1) default).h:=by
 have hml:=rdp.elen (by decide)
 have h2:=hv.pts.two
 have he:=hv.pts.ends
 rw [hml] at he
 have h0:=hv.pts.at (i:=0) (by omega)
 have h1:=hv.pts.at (i:=np-1) (by omega)
 refine fn_enter Tryz.func51 rfl rfl (l:=(fbV b pp np cp pt nt ct pk nk ck)::(.int .u16 (z:Int))::uu21) rfl ?_
 intro cf cs K hK
 refine rs2 ?_;refine k_box rfl zq (fun q2=>k_hp (k_put ?_));refine d12 ?_
 refine run_draw [(0,.pure),(5,.pure),(7,.pure),(15,.pure),(16,.pure),(1,.read),(2,.pure),(3,.pure),(4,.read),(6,.read),(8,.read),(9,.pure),(10,.pure),(11,.pure),(12,.pure),(13,.read),(14,.keep),(17,.keep),(18,.pure)] (by kernel_rfl) (by kernel_rfl) (List.Sublist.refl _) ?_;refine d8 ?_;(first|refine k_fa0 rfl zq ?_|refine k_fa rfl zq ?_);refine mq rfl ?_
 refine k_conv rfl zq (by kernel_rfl) (n':=(z:Int)) (by unfold IntKind.wrap;simp [IntKind.bits,IntKind.signed];omega) ?_;refine k_ldh rfl zq ?_;obtain ⟨rdp_b,rdp_o,rfl⟩:=rdp.ptr (by omega)
 refine d20 ?_
 refine k_ld rfl zq (rdp.fat (v:= .int .i64 (b.pts.getD 0 default).h) 0 0 (by omega) (by omega) rfl) ?_;refine d81 ?_;refine d71 ?_;refine d20 ?_
 refine k_ld rfl zq (rdp.fat (v:= .int .i64 (b.pts.getD (np-1) default).h) (np-1) 0 (by omega) (by omega) rfl) ?_;refine k_calP (Post:=fun v=>v=_) rfl zq (by kernel_rfl) (fun H' hH=>f61_c m H' _ _) ?_;rintro v rfl;refine k_put ?_;refine k_calP (Post:=fun v=>v=_) rfl zq (by kernel_rfl) (fun H' hH=>f60_c m H' _ _ z (by omega) (by omega)) ?_;rintro v rfl;refine k_put ?_;have hz7:=Nat.mod_lt z (show 0<((b.pts.getD (np-1) default).h-(b.pts.getD 0 default).h+1).toNat by omega)
 refine d0 ?_
 refine run_res (h) rfl Tryz.func51 rfl weakSub ?_;refine hK _ _ ?_;exact ⟨rfl,_,rfl,by omega,by omega⟩
end Go.Proofs
namespace Go.Proofs
open Go.Lo
open Go.Conc (G)
set_option maxRecDepth 100000
set_option synthInstance.maxSize 100000
set_option synthInstance.maxHeartbeats 1000000
set_option maxHeartbeats 4000000
variable {B:Array Obj}
variable [LaidF B]
theorem row_small {b:Fb} {ln:List Int} (hv:FOk b) (hl:ln.length=b.pts.length) (hs:spansF b ln):SmL ln:=fun j=>by
 by_cases h:j<ln.length
 ·have h1:=hs j h
  have h2:=hv.pts.span (i:=j) (by omega)
  omega
 ·rw [List.getD_eq_getElem?_getD,List.getElem?_eq_none (by omega)];simp
end Go.Proofs
namespace Go.Proofs
open Go.Lo
open Go.Conc (G)
set_option maxRecDepth 100000
set_option synthInstance.maxSize 100000
set_option synthInstance.maxHeartbeats 1000000
set_option maxHeartbeats 4000000
variable {b:Fb} {pp:Option Addr} {np cp:Nat} {pt:Option Addr} {nt ct:Nat} {pk:Option Addr} {nk ck:Nat}
variable {B:Array Obj}
variable [LaidF B]
theorem at_mono {pts:List Pt} {l m:List Int} {x:Int} (k:PtsOk pts) (h1:(pts.getD 0 default).h≤x) (h2:x≤(pts.getD (pts.length-1) default).h) (h: ∀i,l.getD i 0≤m.getD i 0):atI pts l x≤atI pts m x:=by
 obtain ⟨i,hi,a,c⟩:=k.seg h1 h2
 have:=k.up i hi
 rw [atI_between k.up hi a c,atI_between k.up hi a c];exact mean_mono (by omega) (by omega) (by omega) (h i) (h (i+1))
theorem at_sml {pts:List Pt} {l:List Int} {x:Int} (k:PtsOk pts) (h1:(pts.getD 0 default).h≤x) (h2:x≤(pts.getD (pts.length-1) default).h) (h:SmL l):0≤atI pts l x∧atI pts l x≤959:=by
 obtain ⟨i,hi,a,c⟩:=k.seg h1 h2
 have:=k.up i hi
 have e1:=mean_mono (a:=0) (c:=0) (a':=l.getD i 0) (c':=l.getD (i+1) 0) (t:=x-(pts.getD i default).h) (d:=(pts.getD (i+1) default).h-(pts.getD i default).h) (by omega) (by omega) (by omega) (h i).1 (h (i+1)).1
 have e2:=mean_mono (a:=l.getD i 0) (c:=l.getD (i+1) 0) (a':=959) (c':=959) (t:=x-(pts.getD i default).h) (d:=(pts.getD (i+1) default).h-(pts.getD i default).h) (by omega) (by omega) (by omega) (h i).2 (h (i+1)).2
 rw [mean_const] at e1 e2
 rw [atI_between k.up hi a c];exact ⟨e1,e2⟩
theorem area_mono {pts:List Pt} {l m:List Int} (k:PtsOk pts) (h: ∀i,l.getD i 0≤m.getD i 0): ∀n,n+1≤pts.length→areaF pts l n≤areaF pts m n
 |0,_=>Int.le_refl _
 |n+1,hn=>by
  have h1:=area_mono k h n (by omega)
  have h2:=k.up n (by omega)
  have h3:=h n
  have h4:=h (n+1)
  have h5:=Int.mul_le_mul_of_nonneg_right (show l.getD n 0+l.getD (n+1) 0≤m.getD n 0+m.getD (n+1) 0 by omega) (show 0≤(pts.getD (n+1) default).h-(pts.getD n default).h by omega)
  simp only [areaF]
  omega
theorem areaI_mono {pts:List Pt} {l m:List Int} (k:PtsOk pts) (h: ∀i,l.getD i 0≤m.getD i 0):areaI pts l≤areaI pts m:=area_mono k h _ (by have:=k.two;omega)
theorem at_near {pts:List Pt} {l m:List Int} {x z:Int} (k:PtsOk pts) (h1:(pts.getD 0 default).h≤x) (h2:x≤(pts.getD (pts.length-1) default).h) (h: ∀i,i<pts.length→l.getD i 0-z≤m.getD i 0):atI pts l x-z≤atI pts m x:=by
 obtain ⟨i,hi,a,c⟩:=k.seg h1 h2
 have:=k.up i hi
 rw [atI_between k.up hi a c,atI_between k.up hi a c];have e:=mean_shift (a:=l.getD i 0) (c:=l.getD (i+1) 0) (t:=x-(pts.getD i default).h) (d:=(pts.getD (i+1) default).h-(pts.getD i default).h) (z:= -z)
 have e2:=mean_mono (a:=l.getD i 0+ -z) (c:=l.getD (i+1) 0+ -z) (a':=m.getD i 0) (c':=m.getD (i+1) 0) (t:=x-(pts.getD i default).h) (d:=(pts.getD (i+1) default).h-(pts.getD i default).h) (by omega) (by omega) (by omega) (by have:=h i (by omega);omega) (by have:=h (i+1) (by omega);omega)
 omega
theorem inner_hand {b:Fb} {xs:List Int} (h0:fbS b=0) (hl:xs.length=b.pts.length) (hm:SmL xs):fhandS b (innerL b xs)=0:=by
 have hp:=(fbS_zero h0).plank
 rw [fhandS,if_neg (fun e=>e h0),brS,if_neg (by rw [innerL_length];omega),if_neg];rintro ⟨i,hi,h⟩;rw [innerL_length] at hi
 have:=hm i
 rw [innerL_getD b xs hi] at h
 omega
theorem row_at2 {b:Fb} {ln:List Int} (hh:fhandS b ln=0) {x:Int} (h1:(b.pts.getD 0 default).h≤x) (h2:x≤(b.pts.getD (b.pts.length-1) default).h):atS b ln x=0:=atS_0 hh ⟨h1,h2⟩
theorem ints_length (l:List Int):(ints l).length=l.length:=by simp
theorem getD_setI (l:List Int) (i j:Nat) (x:Int):(l.set i x).getD j 0=if i=j∧j<l.length then x else l.getD j 0:=by
 rw [List.getD_eq_getElem?_getD,List.getD_eq_getElem?_getD,List.getElem?_set];by_cases e:i=j
 ·rw [if_pos e];by_cases e2:i<l.length
  ·rw [if_pos e2,if_pos ⟨e,by omega⟩];rfl
  ·rw [if_neg e2,if_neg (by omega),List.getElem?_eq_none (by omega)]
 ·rw [if_neg e,if_neg (by omega)]
theorem f11_t (h:Hp) (rdp:Rp B h b pp np cp) (rdt:Rt B h b pt nt ct) (rdk:Rk B h b pk nk ck) {p:Option Addr} {n c:Nat} {zs:List Int} (rd:RdS B h 1 (.slice p n c) n (u16s zs)) (hz: ∀z∈zs,0≤z∧z≤65535) {p2:Option Addr} {n2 c2:Nat} {zs2:List Int} (rd2:RdS B h 1 (.slice p2 n2 c2) n2 (u16s zs2)) (hz2: ∀z∈zs2,0≤z∧z≤65535) (z:Nat) (hzz:z≤65535):(Md.starS Tryz.prog B).R (AtEnd Tryz.prog B fun v _=>v= .bool true) (G (Frame.enter Tryz.prog 11 #[fbV b pp np cp pt nt ct pk nk ck,.slice p n c,.slice p2 n2 c2,.int .u16 (z:Int)] .normal) []) h:=by
 refine top_enter Tryz.func11 rfl rfl (l:=[fbV b pp np cp pt nt ct pk nk ck,.slice p n c,.slice p2 n2 c2,.int .u16 (z:Int),undef,undef,undef,undef,undef,undef,undef,undef,undef,undef,undef,undef,undef,undef,undef,undef,undef,undef,undef,undef,undef,undef,undef,undef,undef,undef,undef,undef,undef,undef,undef,undef,undef,undef,undef,undef,undef,undef,undef,undef,undef,undef,undef,undef,undef,undef,undef,undef,undef,undef,undef,undef,undef,undef,undef,undef,undef,undef,undef,undef,undef,undef,undef,undef,undef,undef,undef,undef,undef,undef,undef,undef,undef,undef,undef,undef,undef,undef,undef,undef,undef,undef,undef,undef,undef,undef,undef,undef,undef,undef,undef,undef,undef,undef,undef,undef,undef,undef,undef,undef,undef,undef,undef,undef,undef,undef,undef,undef,undef,undef,undef,undef,undef,undef,undef,undef,undef,undef,undef,undef,undef,undef,undef,undef,undef,undef,undef,undef,undef,undef,undef,undef,undef,undef,undef,undef,undef,undef,undef,undef,undef,undef,undef,undef,undef,undef,undef,undef,undef,undef,undef,undef,undef,undef,undef,undef,undef,undef,undef,undef,undef,undef,undef,undef,undef,undef,undef,undef,undef,undef,undef,undef,undef,undef,undef,undef,undef,undef,undef,undef,undef,undef,undef,undef,undef,undef,undef,undef,undef,undef,undef,undef,undef,undef,undef,undef,undef,undef,undef,undef,undef,undef,undef,undef,undef,undef,undef,undef,undef,undef,undef,undef,undef,undef,undef,undef,undef,undef,undef,undef,undef,undef]) rfl ?_
 refine rs2 ?_;refine k_box rfl zq (fun q4=>k_hp (k_put ?_));refine d12 ?_;refine d94 ?_
 refine k_calP (Post:=fun v=>IsB _ v) rfl zq (by kernel_rfl) (fun H' hH=>f48_c _ H' (rdp.keeps (sq hH)) (rdt.keeps (sq hH)) (rdk.keeps (sq hH))) ?_;rintro v (⟨hc,rfl⟩|⟨hc,rfl⟩)
 ·refine d43 ?_;refine d37 ?_
  have hp:np≤1000:=by omega
  have ht:nt≤1000:=by omega
  have hk:nk≤1000:=by omega
  have h0:fbS b=0:=by omega
  have hv:=fbS_zero h0
  have hv1:=hv.pts.five
  have hv2:=hv.pts.two
  have hml:=rdp.elen (by decide)
  refine run_draw [(1,.pure),(4,.pure),(0,.read),(3,.read),(2,.keep),(5,.keep),(6,.pure),(7,.pure)] (by kernel_rfl) (by kernel_rfl) (List.Sublist.refl _) ?_;refine d3 ?_;refine k_ldA rfl zq ?_;refine k_ldA rfl zq ?_
  refine k_calC rfl zq (by kernel_rfl) (Post:=fun v new=> ∃ln,OwnS 3 1 v ln.length (ints ln) new∧ln.length=b.pts.length∧spansF b ln) (fun H' hH=>f49_c _ H' (rdp.keeps (sq hH)) hp hv (rd.keeps (sq hH)) hz) ?_;rintro v na ⟨la,oa,hla,hsa⟩;refine k_hpA (k_put ?_);refine k_calC rfl zq (by kernel_rfl) (Post:=fun v new=> ∃ln,OwnS 3 1 v ln.length (ints ln) new∧ln.length=b.pts.length∧spansF b ln) (fun H' hH=>f49_c _ H' (rdp.keeps (sq hH)) hp hv (rd2.keeps (sq hH)) hz2) ?_;rintro v nb ⟨lb,ob,hlb,hsb⟩;refine k_hpA (k_put ?_);refine d97 ?_;refine run_seq ?_
  obtain ⟨qa,ca,ja,rfl,rfl,hca,hcca⟩:=own_blk_of oa (by omega)
  obtain ⟨qb,cb,jb,rfl,rfl,hcb,hccb⟩:=own_blk_of ob (by omega)
  have hma:=row_small hv hla hsa
  have hmb:=row_small hv hlb hsb
  rw [ints_length] at hcca hccb
  refine rr1 ?_;refine d54 ?_;refine run_loop (fun nn l h'=> ∃(k:Nat) (xs ys:List Int),nn=la.length-k∧(k≤la.length)∧(xs.length=la.length)∧(ys.length=la.length)∧(∀i,i<k→xs.getD i 0=min (la.getD i 0) (lb.getD i 0)∧ys.getD i 0=max (la.getD i 0) (lb.getD i 0))∧(∀i,k≤i→xs.getD i 0=la.getD i 0∧ys.getD i 0=lb.getD i 0)∧(∃U:Nat→Value,l=((fbV b pp np cp pt nt ct pk nk ck)::(.slice p n c)::(.slice p2 n2 c2)::(.int .u16 (z:Int))::(.pointer (some ⟨q4,0,none⟩))::vw4 U 5 ((.slice (some ⟨qa,0,none⟩) la.length ca)::(.slice (some ⟨qb,0,none⟩) lb.length cb)::(.int .i64 (k:Int))::(U 12)::(U 13)::(U 14)::(U 15)::(U 16)::(U 17)::(U 18)::(U 19)::(U 20)::(U 21)::(U 22)::(U 23)::(U 24)::(U 25)::(U 26)::(U 27)::(U 28)::(U 29)::(U 30)::(U 31)::(U 32)::(U 33)::(U 34)::(U 35)::(U 36)::(U 37)::(U 38)::(U 39)::(U 40)::(U 41)::(U 42)::(U 43)::(U 44)::(U 45)::(U 46)::(U 47)::(U 48)::(U 49)::(U 50)::(U 51)::(U 52)::(U 53)::(U 54)::(U 55)::(U 56)::(U 57)::(U 58)::(U 59)::(U 60)::(U 61)::(U 62)::(U 63)::(U 64)::(U 65)::(U 66)::(U 67)::(U 68)::(U 69)::vw156 U 70 [])))∧h++[⟨true,q4,.cells ((fbL b pp np cp pt nt ct pk nk ck).toArray) 26 (0,0)⟩]++[⟨true,qa,.cells (ints xs++ja).toArray 3 (0,0)⟩]++[⟨true,qb,.cells (ints ys++jb).toArray 3 (0,0)⟩]=h') _ ⟨0,la,lb,rfl,by omega,rfl,by omega,fun i hi=>by omega,fun i hi=>⟨rfl,rfl⟩,exU rfl,(by simp)⟩ ?_
  rintro nn l h' ⟨k,xs,ys,rfl,hkk,hxl,hyl,hdo,hto,⟨U,rfl⟩,rfl⟩ hnext;obtain ⟨t1,t2⟩:=hto k (Nat.le_refl _)
  have hb1:=hma k
  have hb2:=hmb k
  refine run_seq ?_;refine d120 ?_;refine k_lssS rfl zq (fun hc=>?_) (fun hc=>?_)
  ·refine d98 ?_
   refine run_draw [(0,.pure),(1,.pure),(2,.pure),(3,.pure),(4,.pure),(5,.pure),(6,.pure),(8,.pure),(9,.pure),(10,.pure),(13,.pure),(14,.pure),(15,.pure),(17,.pure),(18,.pure),(19,.pure),(7,.read),(11,.read),(12,.pure),(16,.read),(20,.read),(21,.pure),(22,.pure),(23,.free),(24,.pure),(25,.free)] (by kernel_rfl) (by kernel_rfl) (List.Sublist.refl _) ?_;refine d95 ?_;refine d11 ?_;refine d11 ?_;refine d11 ?_;refine d11 ?_
   refine k_ld rfl zq (rd_blkI k rfl (by omega)) ?_;refine k_ld rfl zq (rd_blkI k rfl (by omega)) ?_;refine k_min rfl zq ?_;refine k_ld rfl zq (rd_blkI k rfl (by omega)) ?_;refine k_ld rfl zq (rd_blkI k rfl (by omega)) ?_;refine k_max rfl zq ?_;refine k_ixs rfl zq (by first|rfl|assumption) (by omega) (by omega) ?_;haveI hs1:=Go.Lo.setSeg_ints (xs:=xs) (junk:=ja) (v:=min (xs.getD k 0) (ys.getD k 0)) (i:=(k:Int)) (k:=k) rfl (by omega)
   refine d19 ?_
   haveI hs2:=Go.Lo.setSeg_ints (xs:=ys) (junk:=jb) (v:=max (xs.getD k 0) (ys.getD k 0)) (i:=(k:Int)) (k:=k) rfl (by omega)
   refine d74 ?_;refine d109 ?_
   exact (Md.starS Tryz.prog B).weak weakSub (hnext _ _ _ (by omega) ⟨k+1,xs.set k (min (xs.getD k 0) (ys.getD k 0)),ys.set k (max (xs.getD k 0) (ys.getD k 0)),rfl,by omega,by rw [List.length_set];exact hxl,by rw [List.length_set];exact hyl,fun i hi=>by
    rw [getD_setI,getD_setI];by_cases e:k=i
    ·subst e
     rw [if_pos ⟨rfl,by omega⟩,if_pos ⟨rfl,by omega⟩,t1,t2];exact ⟨rfl,rfl⟩
    ·rw [if_neg (by omega),if_neg (by omega)];exact hdo i (by omega),fun i hi=>by
    rw [getD_setI,getD_setI,if_neg (by omega),if_neg (by omega)];exact hto i (by omega),exU rfl,rfl⟩)
  ·refine d75 ?_;refine run_seq ?_
   obtain rfl:k=la.length:=by omega
   have hx: ∀i,xs.getD i 0≤ys.getD i 0:=fun i=>by
    by_cases e:i<la.length
    ·have:=hdo i e;omega
    ·have hl1:=hto i (by omega)
     rw [hl1.1,hl1.2,List.getD_eq_getElem?_getD,List.getD_eq_getElem?_getD,List.getElem?_eq_none (by omega),List.getElem?_eq_none (by omega)];exact Int.le_refl _
   have hmx:SmL xs:=fun i=>by
    have h1:=hma i
    have h2:=hmb i
    by_cases e:i<la.length
    ·have:=hdo i e;omega
    ·have:=hto i (by omega);omega
   have hmy:SmL ys:=fun i=>by
    have h1:=hma i
    have h2:=hmb i
    by_cases e:i<la.length
    ·have:=hdo i e;omega
    ·have:=hto i (by omega);omega
   have hx0:fhandS b xs=0:=by
    rw [fhandS,if_neg (fun e=>e h0),brS,if_neg (by omega),if_neg];rintro ⟨i,hi,h⟩;exact h (hmx i)
   have hy0:fhandS b ys=0:=by
    rw [fhandS,if_neg (fun e=>e h0),brS,if_neg (by omega),if_neg];rintro ⟨i,hi,h⟩;exact h (hmy i)
   have rx:RdS B [⟨true,qa,.cells (ints xs++ja).toArray 3 (0,0)⟩] 1 (.slice (some ⟨qa,0,none⟩) la.length ca) la.length (ints xs):=(OwnS.blk (t:=3) (k:=1) (n:=la.length) (cap:=ca) (b:=qa) (cs:=ints xs) (junk:=ja) (by rw [ints_length];omega) (by rw [ints_length,hxl];exact hcca) hca).rd (List.Sublist.refl _)
   have ry:RdS B [⟨true,qb,.cells (ints ys++jb).toArray 3 (0,0)⟩] 1 (.slice (some ⟨qb,0,none⟩) lb.length cb) lb.length (ints ys):=(OwnS.blk (t:=3) (k:=1) (n:=lb.length) (cap:=cb) (b:=qb) (cs:=ints ys) (junk:=jb) (by rw [ints_length];omega) (by rw [ints_length,hyl,hla,←hlb];exact hccb) hcb).rd (List.Sublist.refl _)
   have hxn:la.length≤1000:=by omega
   have hyn:lb.length≤1000:=by omega
   refine rr4 ?_;refine d69 ?_;refine k_calP (Post:=fun v=> ∃x:Int,v= .int .i64 x∧(b.pts.getD 0 default).h≤x∧x≤(b.pts.getD (np-1) default).h) rfl zq (by kernel_rfl) (fun H' hH=>f51_c _ H' (rdp.keeps (sq hH)) hp hv z hzz) ?_;rintro v ⟨x,rfl,hx1,hx2⟩;refine k_put ?_;rw [←hml] at hx2
   refine aq rfl ?_;refine rs9 ?_;refine k_ldA rfl zq ?_;refine d3 ?_
   refine k_calP (Post:=fun v=>v= .tuple [.int .i64 (atI b.pts xs x),.int .i64 0].toArray) rfl zq (by kernel_rfl) (fun H' hH=>by have:=f23_c (Md.starS Tryz.prog B) H' (b:=b) (xs:=xs) (rdp.keeps (sq hH)) hp (rdt.keeps (sq hH)) ht (rdk.keeps (sq hH)) hk (rx.keeps (sq hH)) hxn x;rw [orNo_yes (row_at2 hx0 hx1 hx2)] at this;exact this) ?_;rintro v rfl;refine d134 ?_;refine rs9 ?_;refine k_ldA rfl zq ?_;refine d3 ?_
   refine k_calP (Post:=fun v=>v= .tuple [.int .i64 (atI b.pts ys x),.int .i64 0].toArray) rfl zq (by kernel_rfl) (fun H' hH=>by have:=f23_c (Md.starS Tryz.prog B) H' (b:=b) (xs:=ys) (rdp.keeps (sq hH)) hp (rdt.keeps (sq hH)) ht (rdk.keeps (sq hH)) hk (ry.keeps (sq hH)) hyn x;rw [orNo_yes (row_at2 hy0 hx1 hx2)] at this;exact this) ?_;rintro v rfl;refine d134 ?_;refine rs8 ?_;refine d69 ?_
   refine k_calP (Post:=fun v=>v= .tuple [.int .i64 (areaI b.pts xs),.int .i64 0].toArray) rfl zq (by kernel_rfl) (fun H' hH=>by have:=f27_c (Md.starS Tryz.prog B) H' (b:=b) (xs:=xs) (rdp.keeps (sq hH)) hp (rdt.keeps (sq hH)) ht (rdk.keeps (sq hH)) hk (rx.keeps (sq hH)) hxn;rw [orNo_yes hx0] at this;exact this) ?_;rintro v rfl;refine d134 ?_;refine rs8 ?_;refine d69 ?_
   refine k_calP (Post:=fun v=>v= .tuple [.int .i64 (areaI b.pts ys),.int .i64 0].toArray) rfl zq (by kernel_rfl) (fun H' hH=>by have:=f27_c (Md.starS Tryz.prog B) H' (b:=b) (xs:=ys) (rdp.keeps (sq hH)) hp (rdt.keeps (sq hH)) ht (rdk.keeps (sq hH)) hk (ry.keeps (sq hH)) hyn;rw [orNo_yes hy0] at this;exact this) ?_;rintro v rfl;refine d134 ?_;refine rs8 ?_;refine d69 ?_
   refine k_calC rfl zq (by kernel_rfl) (Post:=fun v new=> ∃w,v= .tuple [w,.int .i64 (fhandS b xs)].toArray∧RdI B new w (if fhandS b xs≠0 then [] else innerL b xs)) (fun H' hH=>f29_c _ H' (b:=b) (xs:=xs) (rdp.keeps (sq hH)) hp (rdt.keeps (sq hH)) ht (rdk.keeps (sq hH)) hk (rx.keeps (sq hH)) hxn) ?_;rintro v nh1 ⟨w1,rfl,hw1⟩;refine k_hpA (k_put ?_);rw [if_neg (fun e=>e hx0)] at hw1
   rw [hx0];obtain ⟨pe1,ce1,rfl,r1⟩:=hw1
   refine d40 ?_;refine d46 ?_;refine rs8 ?_;refine d69 ?_
   refine k_calC rfl zq (by kernel_rfl) (Post:=fun v new=> ∃w,v= .tuple [w,.int .i64 (fhandS b ys)].toArray∧RdI B new w (if fhandS b ys≠0 then [] else innerL b ys)) (fun H' hH=>f29_c _ H' (b:=b) (xs:=ys) (rdp.keeps (sq hH)) hp (rdt.keeps (sq hH)) ht (rdk.keeps (sq hH)) hk (ry.keeps (sq hH)) hyn) ?_;rintro v nh2 ⟨w2,rfl,hw2⟩;refine k_hpA (k_put ?_);rw [if_neg (fun e=>e hy0)] at hw2
   rw [hy0];obtain ⟨pe2,ce2,rfl,r2⟩:=hw2
   refine d40 ?_;refine d97 ?_;refine run_seq ?_
   have m1:=at_mono hv.pts hx1 hx2 hx
   have m2:=areaI_mono hv.pts hx
   refine run_region [(0,.free),(1,.free),(2,.free),(3,.free),(4,.free),(5,.free),(6,.free),(7,.free),(8,.free),(9,.free),(10,.free),(11,.free),(12,.free),(13,.free),(14,.free),(15,.free),(16,.free),(17,.free),(18,.free),(19,.free),(20,.free),(21,.free),(22,.free),(23,.free),(24,.free),(25,.free),(26,.free),(27,.free),(28,.free),(29,.free),(30,.free),(31,.free),(32,.free),(33,.free),(34,.free),(35,.free),(36,.free),(37,.free),(38,.free),(39,.free),(40,.free),(41,.free),(42,.free),(43,.free),(44,.free),(45,.free)] (by kernel_rfl) (by kernel_rfl) ?_;refine mq rfl ?_;refine k_neqF rfl zq (by decide) ?_;refine d87 ?_;refine d87 ?_;refine d87 ?_;refine d87 ?_;refine d87 ?_;refine d23 ?_;refine k_mv rfl rfl ?_
   refine k_gtrF rfl rfl (by omega) ?_;refine k_pickF rfl zq ?_;refine d23 ?_;refine k_mv rfl rfl ?_;refine k_gtrF rfl rfl (by omega) ?_;refine k_pickF rfl zq ?_;refine d23 ?_;refine k_len rfl rfl ?_;refine k_mv rfl rfl ?_;refine k_len rfl rfl ?_;refine k_neqF rfl rfl (by rw [innerL_length];omega) ?_;refine k_pickF rfl zq ?_;refine d23 ?_;refine k_len rfl rfl ?_;refine k_mv rfl rfl ?_;refine k_len rfl rfl ?_;refine k_neqF rfl rfl (by rw [innerL_length];omega) ?_;refine k_pickF rfl zq ?_;refine d37 ?_;refine run_seq ?_;obtain ⟨i1,j1,rfl⟩:=r1.ptr (by rw [innerL_length];omega)
   obtain ⟨i2,j2,rfl⟩:=r2.ptr (by rw [innerL_length];omega)
   have hpl:=hv.plank
   refine rr1 ?_;refine d54 ?_;refine run_loop (fun nn l h'=> ∃(k:Nat),nn=la.length-k∧(k≤la.length)∧(∃U:Nat→Value,l=((fbV b pp np cp pt nt ct pk nk ck)::(.slice p n c)::(.slice p2 n2 c2)::(.int .u16 (z:Int))::(.pointer (some ⟨q4,0,none⟩))::vw4 U 5 ((.slice (some ⟨qa,0,none⟩) la.length ca)::(.slice (some ⟨qb,0,none⟩) lb.length cb)::(U 11)::(.int .i64 x)::(.int .i64 (atI b.pts xs x))::vw7 U 14 ((.slice (some ⟨i1,j1,none⟩) (innerL b xs).length ce1)::(U 22)::(.slice (some ⟨i2,j2,none⟩) (innerL b ys).length ce2)::(U 24)::(.int .i64 (k:Int))::(U 26)::(U 27)::(U 28)::(U 29)::(U 30)::(U 31)::(U 32)::(U 33)::(U 34)::(U 35)::(U 36)::(U 37)::(U 38)::(U 39)::(U 40)::(U 41)::(U 42)::(U 43)::(U 44)::(U 45)::(U 46)::(U 47)::(U 48)::(U 49)::(U 50)::(U 51)::(U 52)::(U 53)::(U 54)::(U 55)::(U 56)::(U 57)::(U 58)::(U 59)::(U 60)::(U 61)::(U 62)::(U 63)::(U 64)::(U 65)::(U 66)::(U 67)::(U 68)::(U 69)::vw156 U 70 []))))∧h++[⟨true,q4,.cells ((fbL b pp np cp pt nt ct pk nk ck).toArray) 26 (0,0)⟩]++[⟨true,qa,.cells (ints xs++ja).toArray 3 (0,0)⟩]++[⟨true,qb,.cells (ints ys++jb).toArray 3 (0,0)⟩]++nh1++nh2=h') _ ⟨0,rfl,by omega,exU rfl,(by simp)⟩ ?_
   rintro nn l h' ⟨k,rfl,hk3,⟨U,rfl⟩,rfl⟩ hnext3;have hil1:=innerL_length b xs
   have hil2:=innerL_length b ys
   have hb1:=hmx k
   have hb2:=hmy k
   have hb3:=hx k
   refine run_seq ?_;refine d120 ?_;refine k_lssS rfl zq (fun hc=>?_) (fun hc=>?_)
   ·refine d98 ?_;refine run_seq ?_
    have g1:=innerL_getD b xs (k:=k) (by omega)
    have g2:=innerL_getD b ys (k:=k) (by omega)
    refine run_draw [(0,.pure),(1,.pure),(2,.pure),(4,.pure),(5,.pure),(6,.pure),(3,.read),(7,.read),(8,.pure),(9,.pure),(10,.pure),(11,.pure),(12,.pure),(14,.pure),(15,.pure),(16,.pure),(13,.read),(17,.read),(18,.pure),(19,.pure),(20,.pure),(21,.pure),(22,.pure),(23,.pure),(25,.pure),(26,.pure),(27,.pure),(29,.pure),(24,.read),(28,.read),(30,.read),(31,.pure),(32,.pure),(33,.pure),(34,.pure),(35,.pure),(36,.pure),(37,.pure),(38,.read),(39,.pure),(40,.pure)] (by kernel_rfl) (by kernel_rfl) (List.Sublist.refl _) ?_;refine d11 ?_;refine d11 ?_
    refine k_ld rfl zq (r1.iat k (by omega) (by omega)) ?_;refine k_ld rfl zq (r2.iat k (by omega) (by omega)) ?_;refine k_gtrF rfl zq (by omega) ?_;refine d23 ?_;refine d130 ?_;refine d21 ?_
    refine k_ld rfl rfl (r1.iat k (by omega) (by omega)) ?_;refine k_ld rfl rfl (rd_blkI k rfl (by omega)) ?_;refine k_gtrF rfl rfl (by omega) ?_;refine k_pickF rfl zq ?_;refine d23 ?_;refine d130 ?_;refine d21 ?_;(first|refine k_fa0 rfl rfl ?_|refine k_fa rfl rfl ?_);refine k_ld rfl rfl (r1.iat k (by omega) (by omega)) ?_;refine k_ld rfl rfl (rd_blkI k rfl (by omega)) ?_;refine k_ldh rfl rfl ?_;refine k_sub rfl rfl (by unfold In64;omega) ?_;refine k_lssF rfl rfl (by omega) ?_;refine k_pickF rfl zq ?_;refine d23 ?_;refine d21 ?_;refine k_ld rfl rfl (r1.iat k (by omega) (by omega)) ?_;refine k_lssF rfl rfl (by omega) ?_;refine d126 ?_;refine d109 ?_
    exact (Md.starS Tryz.prog B).weak weakSub (hnext3 _ _ _ (by omega) ⟨k+1,rfl,by omega,exU rfl,rfl⟩)
   ·refine d75 ?_;refine run_seq ?_
    have hat:=at_sml hv.pts hx1 hx2 hmx
    have hin0:=inner_hand h0 (show xs.length=b.pts.length by omega) hmx
    have hi1:(innerL b xs).length≤1000:=by rw [innerL_length];omega
    have hpl:=hv.plank
    have m3:atI b.pts (innerL b xs) x≤atI b.pts xs x:=at_mono hv.pts hx1 hx2 (fun i=>by
     have hb:=hmx i
     by_cases e:i<xs.length
     ·rw [innerL_getD b xs e];omega
     ·rw [List.getD_eq_getElem?_getD,List.getElem?_eq_none (by rw [innerL_length];omega)];exact hb.1)
    have m4:=at_near (l:=xs) (m:=innerL b xs) (z:=b.plank) hv.pts hx1 hx2 (fun i hi=>by rw [innerL_getD b xs (by omega)];omega)
    refine rr9 ?_;refine k_ldA rfl zq ?_;refine d3 ?_;refine k_calP (Post:=fun v=>v= .tuple [.int .i64 (atI b.pts (innerL b xs) x),.int .i64 0].toArray) rfl zq (by kernel_rfl) (fun H' hH=>by have:=f23_c (Md.starS Tryz.prog B) H' (b:=b) (xs:=(innerL b xs)) (rdp.keeps (sq hH)) hp (rdt.keeps (sq hH)) ht (rdk.keeps (sq hH)) hk (r1.keeps (sq hH)) hi1 x;rw [orNo_yes (row_at2 hin0 hx1 hx2)] at this;exact this) ?_;rintro v rfl;refine d78 ?_;refine d97 ?_
    refine run_region [(0,.free),(1,.free),(2,.free),(3,.free),(4,.free),(5,.free),(6,.free),(7,.free),(8,.free),(9,.free),(10,.free),(11,.free),(12,.free),(13,.free),(14,.free),(15,.free),(16,.free),(17,.free),(18,.free)] (by kernel_rfl) (by kernel_rfl) ?_;refine mq rfl ?_;refine k_eqlT rfl zq (by decide) ?_;refine d23 ?_;refine k_mv rfl rfl ?_
    refine k_leqT rfl rfl m3 ?_;refine k_pickT rfl zq ?_;refine d23 ?_;refine k_mv rfl rfl ?_;refine d140 ?_;refine k_geqT rfl rfl m4 ?_;refine k_pickT rfl zq ?_;refine mq rfl ?_;refine k_cal rfl rfl (by kernel_rfl) (f18_c _) ?_;rintro v h' ⟨nF,rfl,rfl⟩;refine k_put ?_;refine d92 ?_;refine run_top rfl Tryz.func11 (by kernel_rfl) rfl ?_;rfl
 ·refine d44 ?_;refine d7 ?_;refine rs2 ?_
  refine k_cal rfl zq (by kernel_rfl) (f18_c _) ?_;rintro v h' ⟨nF,rfl,rfl⟩;refine d110 ?_
  refine run_top rfl Tryz.func11 (by kernel_rfl) rfl ?_;rfl
end Go.Proofs
