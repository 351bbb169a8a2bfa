/- A part of the proof of a law: my own separation logic over the machine, and walks of the program. Condition of each theorem: as its statement says. -/
import Derived.Test.YtnejmahckmhflaaGreatDoorWB9
set_option linter.all false
namespace Go.Lo
theorem segN_at {pts:List Pt} {hh:Int} {i:Nat} (up: ∀i,i+1<pts.length→(pts.getD i default).h<(pts.getD (i+1) default).h) (hi:i+1<pts.length) (h1:(pts.getD i default).h<hh) (h2:hh≤(pts.getD (i+1) default).h):segN pts hh=i:=by
 have mono: ∀j k,j≤k→k<pts.length→(pts.getD j default).h≤(pts.getD k default).h:=by
  intro j k hjk
  induction k with
  |zero=>
       intro _
       obtain rfl:j=0:=by omega
       exact Int.le_refl _
  |succ k ih=>
   intro hk
   rcases Nat.lt_or_ge j (k+1) with h|h
   ·have:=ih (by omega) (by omega);have:=up k hk;omega
   ·obtain rfl:j=k+1:=by omega
    exact Int.le_refl _
 refine segN_eq hi (fun k hk=>?_) h2
 have:=mono (k+1) i (by omega) (by omega)
 omega
theorem atI_between {pts:List Pt} {l:List Int} {hh:Int} {i:Nat} (up: ∀i,i+1<pts.length→(pts.getD i default).h<(pts.getD (i+1) default).h) (hi:i+1<pts.length) (h1:(pts.getD i default).h≤hh) (h2:hh≤(pts.getD (i+1) default).h):
  atI pts l hh=l.getD i 0+((l.getD (i+1) 0-l.getD i 0)*(hh-(pts.getD i default).h))/((pts.getD (i+1) default).h-(pts.getD i default).h):=by
 rcases Int.lt_or_eq_of_le h1 with h|h
 ·unfold atI downI
  rw [segN_at up hi h h2]
 ·subst h
  rw [Int.sub_self,Int.mul_zero,Int.zero_ediv,Int.add_zero];cases i with
  |zero=>
   unfold atI downI
   rw [segN_eq (i:=0) hi (fun k hk=>by omega) h2];simp
  |succ i=>
   have hu:=up i (by omega)
   unfold atI downI
   rw [segN_at (i:=i) up (by omega) hu (Int.le_refl _)];have:(pts.getD (i+1) default).h-(pts.getD i default).h≠0:=by omega
   simp only
   rw [Int.mul_ediv_cancel _ this];omega
theorem mean_up {a c t t' d:Int} (hd:0<d) (hac:a≤c) (ht:t≤t'):a+((c-a)*t)/d≤a+((c-a)*t')/d:=by
 have:=Int.ediv_le_ediv hd (Int.mul_le_mul_of_nonneg_left ht (show 0≤c-a by omega))
 omega
theorem mean_down {a c t t' d:Int} (hd:0<d) (hac:c≤a) (ht:t≤t'):a+((c-a)*t')/d≤a+((c-a)*t)/d:=by
 have h1:(c-a)*t'≤(c-a)*t:=by
  have:=Int.mul_le_mul_of_nonneg_left ht (show 0≤a-c by omega)
  rw [Int.sub_mul,Int.sub_mul] at this⊢
  omega
 have:=Int.ediv_le_ediv hd h1
 omega
end Go.Lo
namespace Go.Proofs
open Go.Lo
open Go.Conc (G)
set_option maxRecDepth 100000
set_option synthInstance.maxHeartbeats 1000000
section
variable {P:Program} {B:Array Obj} {m:Md P B} {ops:Array Oper} {l l':List Value} {S h h' H:Hp} {C:List Value→Hp→Prop} {i:Nat} {kd:Kd} {r:List (Nat×Kd)}
 {d:Option Tmp} {ty:TypeId} {pos:String} {af:Array Edge} {g:Option (Nat×Bool)}
theorem k_leqT {t u:TypeId} {x y:Operand} {a b:Int} {k:IntKind} (ho:ops[i]?=some ⟨d,.binOp .leq t x y u,ty,pos,af,g⟩) (hw:Wt ops l g) [kh:KHeap kd S h H] [ex:OpV l x (.int k a)] [ey:OpV l y (.int k b)] (e:a≤b) [pt:PutV l d (.bool true) l'] (q:RegK m S ops r l' h C):RegK m S ops ((i,kd)::r) l h C:=by
 have pq:=pt;rw [←decide_eq_true e] at pq;exact k_leq (l':=l') ho hw q
theorem k_geqT {t u:TypeId} {x y:Operand} {a b:Int} {k:IntKind} (ho:ops[i]?=some ⟨d,.binOp .geq t x y u,ty,pos,af,g⟩) (hw:Wt ops l g) [kh:KHeap kd S h H] [ex:OpV l x (.int k a)] [ey:OpV l y (.int k b)] (e:b≤a) [pt:PutV l d (.bool true) l'] (q:RegK m S ops r l' h C):RegK m S ops ((i,kd)::r) l h C:=by
 have pq:=pt;rw [←decide_eq_true e] at pq;exact k_geq (l':=l') ho hw q
end
end Go.Proofs
namespace Go.Proofs
open Go.Lo
open Go.Conc (G)
set_option maxRecDepth 100000
set_option synthInstance.maxSize 100000
set_option synthInstance.maxHeartbeats 1000000
set_option maxHeartbeats 4000000
variable {b:Fb} {pp:Option Addr} {np cp:Nat} {pt:Option Addr} {nt ct:Nat} {pk:Option Addr} {nk ck:Nat}
variable {B:Array Obj}
variable [LaidF B]
abbrev u16s (zs:List Int):List Value:=zs.map (Value.int .u16)
theorem u16_at {zs:List Int} {k:Nat} (h:k<zs.length):(u16s zs).getD k undef= .int .u16 (zs.getD k 0):=by
 rw [List.getD_eq_getElem?_getD,List.getD_eq_getElem?_getD,List.getElem?_map,List.getElem?_eq_getElem h];rfl
theorem getD_sn (l:List Int) (x:Int) (i:Nat):(l++[x]).getD i 0=if i<l.length then l.getD i 0 else if i=l.length then x else 0:=by
 rw [List.getD_eq_getElem?_getD,List.getD_eq_getElem?_getD,List.getElem?_append];split
 ·rfl
 ·split
  ·rename_i h1 h2
   subst h2
   simp
  ·rename_i h1 h2
   rw [List.getElem?_eq_none (by simp;omega)];rfl
theorem _root_.Go.Lo.PtsOk.span {pts:List Pt} (k:PtsOk pts) {i:Nat} (hi:i<pts.length):0≤(pts.getD i default).lo∧(pts.getD i default).lo≤(pts.getD i default).hi∧(pts.getD i default).hi≤959:=(k.ok _ (mem_getDR.2 ⟨i,hi,rfl⟩)).2.1
theorem _root_.Go.Lo.PtsOk.lt {pts:List Pt} (k:PtsOk pts): ∀(d i:Nat),i+d+1<pts.length→(pts.getD i default).h<(pts.getD (i+d+1) default).h
 |0,i,h=>k.up i (by omega)
 |d+1,i,h=>by
  have h1:=k.lt d i (by omega)
  have h2:=k.up (i+d+1) (by omega)
  rw [show i+(d+1)+1=i+d+1+1 by omega];omega
theorem f48_c (m:Md Tryz.prog B) (h:Hp) (rdp:Rp B h b pp np cp) (rdt:Rt B h b pt nt ct) (rdk:Rk B h b pk nk ck):FnC m 48 #[fbV b pp np cp pt nt ct pk nk ck] h fun v h'=>h'=h∧IsB (np≤20∧nt≤20∧nk≤20∧fbS b=0) v:=by
 refine fn_enter Tryz.func48 rfl rfl (l:=(fbV b pp np cp pt nt ct pk nk ck)::uu10) rfl ?_
 intro cf cs K hK
 refine rs2 ?_;refine k_box rfl zq (fun q1=>k_hp (k_put ?_));refine aq rfl ?_;refine rs9 ?_;refine k_ldA rfl zq ?_
 refine k_calP (Post:=fun v=>IsB _ v) rfl zq (by kernel_rfl) (fun H' hH=>f17_c m H') ?_;rintro v (⟨hc,rfl⟩|⟨hc,rfl⟩)
 ·refine d43 ?_;refine d52 ?_;refine d72 ?_;refine d0 ?_
  refine run_res (h) rfl Tryz.func48 rfl weakSub ?_;refine hK _ _ ?_;first|exact ⟨rfl,IsB.yes ⟨by omega,by omega,by omega,by omega⟩⟩|exact ⟨rfl,IsB.no (by omega)⟩
 ·refine d44 ?_;refine mq rfl ?_;refine k_ldA rfl rfl ?_
  refine k_calP (Post:=fun v=>v=_) rfl rfl (by kernel_rfl) (fun H' hH=>f22_c m H' (rdp.keeps (sq hH)) (by omega) (rdt.keeps (sq hH)) (by omega) (rdk.keeps (sq hH)) (by omega)) ?_;rintro v rfl;refine k_put ?_;refine k_eqlS rfl rfl (fun hc=>?_) (fun hc=>?_)
  ·refine d92 ?_
   refine run_res (h) rfl Tryz.func48 rfl weakSub ?_;refine hK _ _ ?_;first|exact ⟨rfl,IsB.yes ⟨by omega,by omega,by omega,by omega⟩⟩|exact ⟨rfl,IsB.no (by omega)⟩
  ·refine d92 ?_
   refine run_res (h) rfl Tryz.func48 rfl weakSub ?_;refine hK _ _ ?_;first|exact ⟨rfl,IsB.yes ⟨by omega,by omega,by omega,by omega⟩⟩|exact ⟨rfl,IsB.no (by omega)⟩
theorem f128_c (m:Md Tryz.prog B) (h:Hp) {p:Option Addr} {n c:Nat} {zs:List Int} (rd:RdS B h 1 (.slice p n c) n (u16s zs)) (hz: ∀z∈zs,0≤z∧z≤65535) (k:Nat):FnC m 128 #[.slice p n c,.int .i64 (k:Int)] h fun v h'=>h'=h∧ ∃z:Nat,z≤65535∧v= .int .i64 (z:Int):=by
 refine fn_enter Tryz.func128 rfl rfl (l:=(.slice p n c)::(.int .i64 (k:Int))::uu16) rfl ?_
 intro cf cs K hK
 refine d93 ?_;refine rs8 ?_;refine mq rfl ?_
 refine k_geqS rfl zq (fun hc=>?_) (fun hc=>?_)
 ·refine d23 ?_;refine k_mv rfl rfl ?_;refine k_len rfl rfl ?_
  refine k_lssS rfl rfl (fun hc=>?_) (fun hc=>?_)
  ·refine k_pickT rfl zq ?_;refine d7 ?_;refine rs6 ?_;refine d3 ?_;have hzl:zs.length=n:=by have:=rd.len;simpa using this
   obtain ⟨pb,po,rfl⟩:=rd.ptr (by omega)
   refine k_ixs rfl zq (by first|rfl|assumption) (by omega) (by omega) ?_;have hzk:=getD_all hz (k:=k) (by omega)
   refine k_ld rfl zq (u16_at (zs:=zs) (k:=k) (by omega)▸rd.vat k (by omega) (by omega)) ?_;refine k_conv rfl zq (by kernel_rfl) (n':=zs.getD k 0) (by generalize zs.getD k 0=gz at hzk⊢;unfold IntKind.wrap;simp [IntKind.bits,IntKind.signed];omega) ?_;refine d0 ?_
   refine run_res (h) rfl Tryz.func128 rfl weakSub ?_;refine hK _ _ ?_;exact ⟨rfl,(zs.getD k 0).toNat,by omega,by rw [Int.toNat_of_nonneg (by omega)]⟩
  ·refine k_pickT rfl zq ?_;refine d13 ?_;refine d38 ?_;refine run_res (h) rfl Tryz.func128 rfl weakSub ?_;refine hK _ _ ?_;exact ⟨rfl,0,by omega,rfl⟩
 ·exact absurd hc (by omega)
theorem f49_c (m:Md Tryz.prog B) (h:Hp) (rdp:Rp B h b pp np cp) (hp:np≤1000) (hv:FOk b) {p:Option Addr} {n c:Nat} {zs:List Int} (rd:RdS B h 1 (.slice p n c) n (u16s zs)) (hz: ∀z∈zs,0≤z∧z≤65535):FnC m 49 #[fbV b pp np cp pt nt ct pk nk ck,.slice p n c] h fun v h'=> ∃new,h'=h++new∧ ∃ln,OwnS 3 1 v ln.length (ints ln) new∧ln.length=b.pts.length∧spansF b ln:=by
 have hml:=rdp.elen (by decide)
 refine fn_enter Tryz.func49 rfl rfl (l:=(fbV b pp np cp pt nt ct pk nk ck)::(.slice p n c)::uu26) rfl ?_
 intro cf cs K hK
 refine rs2 ?_;refine k_box rfl zq (fun q2=>k_hp (k_put ?_));refine aq rfl ?_;refine d93 ?_;refine d142 ?_
 refine run_loop (fun nn l h'=> ∃(k:Nat) (w:Value) (new:Hp) (ln:List Int),nn=np-k∧(k≤np)∧(ln.length=k)∧(OwnS 3 1 w k (ints ln) new)∧(∀i,i<k→(b.pts.getD i default).lo≤ln.getD i 0∧ln.getD i 0≤(b.pts.getD i default).hi)∧(∃U:Nat→Value,l=((fbV b pp np cp pt nt ct pk nk ck)::(.slice p n c)::(.pointer (some ⟨q2,0,none⟩))::(U 3)::(U 4)::w::(.int .i64 (k:Int))::(U 7)::vw20 U 8 []))∧h++[⟨true,q2,.cells ((fbL b pp np cp pt nt ct pk nk ck).toArray) 26 (0,0)⟩]++new=h') _ ⟨0,_,[],[],rfl,by omega,rfl,OwnS.nil,fun i hi=>by omega,exU rfl,(by simp)⟩ ?_;rintro nn l h' ⟨k,w,new,ln,rfl,hk,hll,ho,hla,⟨U,rfl⟩,rfl⟩ hnext;refine run_seq ?_;refine rs5 ?_;refine mq rfl ?_;refine d114 ?_;refine k_lssS rfl zq (fun hc=>?_) (fun hc=>?_)
 ·refine d98 ?_
  refine run_draw [(0,.pure),(1,.pure),(3,.pure),(7,.pure),(8,.pure),(2,.read),(4,.pure),(5,.pure),(6,.read),(9,.keep),(10,.keep),(11,.keep),(12,.free),(13,.pure)] (by kernel_rfl) (by kernel_rfl) (List.Sublist.refl _) ?_;refine mq rfl ?_;(first|refine k_fa0 rfl zq ?_|refine k_fa rfl zq ?_);refine d3 ?_;refine mq rfl ?_;refine k_ldh rfl zq ?_
  obtain ⟨rdp_b,rdp_o,rfl⟩:=rdp.ptr (by omega)
  refine d20 ?_
  refine k_ldN (vs:=[.int .i64 (b.pts.getD k default).lo,.int .i64 (b.pts.getD k default).hi]) rfl zq rfl (rdp.eatF k 1 (by omega) (by omega) rfl) ?_;refine k_calP (Post:=fun v=> ∃z:Nat,z≤65535∧v= .int .i64 (z:Int)) rfl zq (by kernel_rfl) (fun H' hH=>f128_c m H' (rd.keeps (sq hH)) hz k) ?_;rintro v ⟨zz,hzz,rfl⟩;refine k_put ?_;have hmk:=hv.pts.span (i:=k) (by omega)
  refine k_calP (Post:=fun v=>v=_) rfl zq (by kernel_rfl) (fun H' hH=>f60_c m H' _ _ zz (by omega) (by omega)) ?_;rintro v rfl;refine k_put ?_;have hz7:=Nat.mod_lt zz (show 0<((b.pts.getD k default).hi-(b.pts.getD k default).lo+1).toNat by omega)
  refine k_bs kdq rfl zq (by decide) (by decide) rfl (fun q25=>k_hp (k_put ?_));refine k_app1 (F:=h++[⟨true,q2,.cells ((fbL b (some ⟨rdp_b,rdp_o,none⟩) np cp pt nt ct pk nk ck).toArray) 26 (0,0)⟩]) rfl zq rfl ho kdq (by omega) (by omega) (fun w2 new2 ho2=>k_put ?_);rw [show ints ln++[Value.int .i64 ((b.pts.getD k default).lo+((zz%((b.pts.getD k default).hi-(b.pts.getD k default).lo+1).toNat:Nat):Int))]=ints (ln++[(b.pts.getD k default).lo+((zz%((b.pts.getD k default).hi-(b.pts.getD k default).lo+1).toNat:Nat):Int)]) by simp] at ho2
  refine d45 ?_;refine rr3 ?_;refine d61 ?_
  exact m.weak weakSub (hnext _ _ _ (by omega) ⟨k+1,_,_,_,rfl,by omega,by simp;omega,ho2,fun i hi=>by
   rw [getD_sn,hll];by_cases e:i<k
   ·rw [if_pos e];exact hla i e
   ·rw [if_neg e,if_pos (by omega),show i=k by omega];omega,exU rfl,rfl⟩)
 ·refine d75 ?_;refine d99 ?_
  refine run_res (h++new) rfl Tryz.func49 rfl weakSub ?_;refine hK _ _ ?_;have hkk:k=ln.length:=hll.symm
  subst hkk
  exact ⟨_,rfl,ln,ho,by omega,hla⟩
end Go.Proofs
namespace Go.Proofs
open Go.Lo
open Go.Conc (G)
set_option maxRecDepth 100000
set_option synthInstance.maxSize 100000
set_option synthInstance.maxHeartbeats 1000000
set_option maxHeartbeats 4000000
variable {B:Array Obj}
variable [LaidF B]
theorem row_small {b:Fb} {ln:List Int} (hv:FOk b) (hl:ln.length=b.pts.length) (hs:spansF b ln):SmL ln:=fun j=>by
 by_cases h:j<ln.length
 ·have h1:=hs j h
  have h2:=hv.pts.span (i:=j) (by omega)
  omega
 ·rw [List.getD_eq_getElem?_getD,List.getElem?_eq_none (by omega)];simp
theorem row_hand {b:Fb} {ln:List Int} (h0:fbS b=0) (hl:ln.length=b.pts.length) (hs:spansF b ln):fhandS b ln=0:=by
 have hm:=row_small (fbS_zero h0) hl hs
 rw [fhandS,if_neg (fun e=>e h0),brS,if_neg (by omega),if_neg];rintro ⟨i,hi,h⟩;exact h (hm i)
theorem row_at {b:Fb} {ln:List Int} (h0:fbS b=0) (hl:ln.length=b.pts.length) (hs:spansF b ln) {x:Int} (h1:(b.pts.getD 0 default).h≤x) (h2:x≤(b.pts.getD (b.pts.length-1) default).h):atS b ln x=0:=atS_0 (row_hand h0 hl hs) ⟨h1,h2⟩
end Go.Proofs
namespace Go.Proofs
open Go.Lo
open Go.Conc (G)
set_option maxRecDepth 100000
set_option synthInstance.maxSize 100000
set_option synthInstance.maxHeartbeats 1000000
set_option maxHeartbeats 4000000
variable {b:Fb} {pp:Option Addr} {np cp:Nat} {pt:Option Addr} {nt ct:Nat} {pk:Option Addr} {nk ck:Nat}
variable {B:Array Obj}
variable [LaidF B]
theorem at_lo {pts:List Pt} {l:List Int} {i:Nat} (k:PtsOk pts) (hi:i+1<pts.length):atI pts l (pts.getD i default).h=l.getD i 0:=by
 have:=k.up i hi
 rw [atI_between k.up hi (Int.le_refl _) (by omega),Int.sub_self,Int.mul_zero,Int.zero_ediv,Int.add_zero]
theorem at_hi {pts:List Pt} {l:List Int} {i:Nat} (k:PtsOk pts) (hi:i+1<pts.length):atI pts l (pts.getD (i+1) default).h=l.getD (i+1) 0:=by
 have:=k.up i hi
 rw [atI_between k.up hi (by omega) (Int.le_refl _),Int.mul_ediv_cancel _ (by omega)];omega
theorem at_up {pts:List Pt} {l:List Int} {i:Nat} {x y:Int} (k:PtsOk pts) (hi:i+1<pts.length) (h1:(pts.getD i default).h≤x) (h2:x≤y) (h3:y≤(pts.getD (i+1) default).h) (h:l.getD i 0≤l.getD (i+1) 0):atI pts l x≤atI pts l y:=by
 have:=k.up i hi
 rw [atI_between k.up hi h1 (by omega),atI_between k.up hi (by omega) h3];exact mean_up (by omega) h (by omega)
theorem at_down {pts:List Pt} {l:List Int} {i:Nat} {x y:Int} (k:PtsOk pts) (hi:i+1<pts.length) (h1:(pts.getD i default).h≤x) (h2:x≤y) (h3:y≤(pts.getD (i+1) default).h) (h:l.getD (i+1) 0≤l.getD i 0):atI pts l y≤atI pts l x:=by
 have:=k.up i hi
 rw [atI_between k.up hi h1 (by omega),atI_between k.up hi (by omega) h3];exact mean_down (by omega) h (by omega)
theorem _root_.Go.Lo.PtsOk.between {pts:List Pt} (k:PtsOk pts) {i:Nat} (hi:i<pts.length):(pts.getD 0 default).h≤(pts.getD i default).h∧(pts.getD i default).h≤(pts.getD (pts.length-1) default).h:=by
 constructor
 ·rcases Nat.eq_zero_or_pos i with e|e
  ·subst e
   exact Int.le_refl _
  ·have:=k.lt (i-1) 0 (by omega)
   rw [show 0+(i-1)+1=i by omega] at this
   omega
 ·rcases Nat.lt_or_ge i (pts.length-1) with e|e
  ·have:=k.lt (pts.length-1-i-1) i (by omega)
   rw [show i+(pts.length-1-i-1)+1=pts.length-1 by omega] at this
   omega
  ·rw [show i=pts.length-1 by omega];exact Int.le_refl _
theorem f9_t (h:Hp) (rdp:Rp B h b pp np cp) (rdt:Rt B h b pt nt ct) (rdk:Rk B h b pk nk ck) {p:Option Addr} {n c:Nat} {zs:List Int} (rd:RdS B h 1 (.slice p n c) n (u16s zs)) (hz: ∀z∈zs,0≤z∧z≤65535) (x y z:Nat) (hx:x≤255) (hy:y≤65535) (hzz:z≤65535):(Md.starS Tryz.prog B).R (AtEnd Tryz.prog B fun v _=>v= .bool true) (G (Frame.enter Tryz.prog 9 #[fbV b pp np cp pt nt ct pk nk ck,.slice p n c,.int .u8 (x:Int),.int .u16 (y:Int),.int .u16 (z:Int)] .normal) []) h:=by
 refine top_enter Tryz.func9 rfl rfl (l:=[fbV b pp np cp pt nt ct pk nk ck,.slice p n c,.int .u8 (x:Int),.int .u16 (y:Int),.int .u16 (z:Int),undef,undef,undef,undef,undef,undef,undef,undef,undef,undef,undef,undef,undef,undef,undef,undef,undef,undef,undef,undef,undef,undef,undef,undef,undef,undef,undef,undef,undef,undef,undef,undef,undef,undef,undef,undef,undef,undef,undef,undef,undef,undef,undef,undef,undef,undef,undef,undef,undef,undef,undef,undef,undef,undef,undef,undef,undef,undef,undef,undef,undef,undef,undef,undef,undef,undef,undef,undef,undef,undef,undef,undef,undef,undef,undef,undef,undef,undef,undef,undef,undef,undef,undef,undef,undef,undef,undef,undef,undef,undef,undef,undef,undef,undef,undef,undef,undef,undef,undef,undef,undef,undef,undef,undef,undef,undef,undef,undef,undef,undef,undef,undef,undef,undef,undef,undef,undef,undef,undef,undef,undef,undef,undef,undef,undef,undef,undef,undef,undef,undef,undef,undef,undef,undef,undef,undef,undef,undef,undef,undef,undef,undef,undef,undef,undef,undef,undef,undef,undef,undef,undef,undef,undef,undef,undef,undef,undef,undef,undef]) rfl ?_
 refine rs2 ?_;refine k_box rfl zq (fun q5=>k_hp (k_put ?_));refine d12 ?_;refine d94 ?_
 refine k_calP (Post:=fun v=>IsB _ v) rfl zq (by kernel_rfl) (fun H' hH=>f48_c _ H' (rdp.keeps (sq hH)) (rdt.keeps (sq hH)) (rdk.keeps (sq hH))) ?_;rintro v (⟨hc,rfl⟩|⟨hc,rfl⟩)
 ·refine d43 ?_;refine d37 ?_
  have hp:np≤1000:=by omega
  have ht:nt≤1000:=by omega
  have hk:nk≤1000:=by omega
  have h0:fbS b=0:=by omega
  have hv:=fbS_zero h0
  have hv1:=hv.pts.five
  have hv2:=hv.pts.two
  have hml:=rdp.elen (by decide)
  refine rr4 ?_;refine d69 ?_;refine k_calC rfl zq (by kernel_rfl) (Post:=fun v new=> ∃ln,OwnS 3 1 v ln.length (ints ln) new∧ln.length=b.pts.length∧spansF b ln) (fun H' hH=>f49_c _ H' (rdp.keeps (sq hH)) hp hv (rd.keeps (sq hH)) hz) ?_;rintro v n49 ⟨ln,o49,hll,hsp⟩;refine k_hpA (k_put ?_);obtain ⟨pl,cl,rfl,hcl,rl⟩:=own_rdA (B:=B) o49
  have hln:ln.length≤1000:=by omega
  refine aq rfl ?_;refine rs8 ?_;refine mq rfl ?_
  refine k_conv rfl zq (by kernel_rfl) (n':=(x:Int)) (by unfold IntKind.wrap;simp [IntKind.bits,IntKind.signed];omega) ?_;refine d2 ?_;refine d71 ?_;refine k_remT rfl zq (by omega) ?_
  rw [show (x:Int).tmod ((np:Int)-1)=((x%(np-1):Nat):Int) by rw [show (np:Int)-1=((np-1:Nat):Int) by omega];exact (Int.ofNat_tmod x (np-1)).symm];have hxk:=Nat.mod_lt x (show 0<np-1 by omega)
  generalize x%(np-1)=i at hxk⊢
  refine d12 ?_
  have hup:=hv.pts.up i (by omega)
  have hbi:=hv.pts.at (i:=i) (by omega)
  have hbj:=hv.pts.at (i:=i+1) (by omega)
  obtain ⟨w1,w2⟩:=hv.pts.between (i:=i) (by omega)
  obtain ⟨w3,w4⟩:=hv.pts.between (i:=i+1) (by omega)
  refine run_draw [(0,.pure),(2,.pure),(6,.pure),(8,.pure),(9,.pure),(1,.read),(3,.pure),(4,.pure),(5,.read),(13,.pure),(7,.read),(10,.pure),(11,.pure),(12,.read),(14,.pure)] (by kernel_rfl) (by kernel_rfl) (List.Sublist.refl _) ?_;(first|refine k_fa0 rfl zq ?_|refine k_fa rfl zq ?_);refine mq rfl ?_;(first|refine k_fa0 rfl zq ?_|refine k_fa rfl zq ?_);refine d4 ?_;refine k_ldh rfl zq ?_
  obtain ⟨rdp_b,rdp_o,rfl⟩:=rdp.ptr (by omega)
  refine d20 ?_
  refine k_ld rfl zq (rdp.fat (v:= .int .i64 (b.pts.getD i default).h) i 0 (by omega) (by omega) rfl) ?_;refine k_as rfl zq ?_;refine k_ldh rfl zq ?_;refine d20 ?_;refine k_ld rfl zq (rdp.fat (v:= .int .i64 (b.pts.getD (i+1) default).h) (i+1) 0 (by omega) (by omega) rfl) ?_;refine d12 ?_
  refine run_region [(0,.free),(1,.free),(2,.free),(3,.free),(4,.free),(5,.free),(6,.free),(7,.free),(8,.free),(9,.free),(10,.free),(11,.free),(12,.free),(13,.free)] (by kernel_rfl) (by kernel_rfl) ?_;refine d3 ?_
  refine k_calP (Post:=fun v=>v=_) rfl zq (by kernel_rfl) (fun H' hH=>f61_c _ H' _ _) ?_;rintro v rfl;refine k_put ?_;refine mq rfl ?_;refine k_conv rfl zq (by kernel_rfl) (n':=(y:Int)) (by unfold IntKind.wrap;simp [IntKind.bits,IntKind.signed];omega) ?_;refine k_calP (Post:=fun v=> ∃x:Int,v= .int .i64 x∧(b.pts.getD i default).h≤x∧x≤(b.pts.getD (i+1) default).h) rfl zq (by kernel_rfl) (fun H' hH=>(f60_c (Md.starS Tryz.prog B) H' (b.pts.getD i default).h (b.pts.getD (i+1) default).h y (by omega) (by omega)).mono fun v h' e=>⟨e.1,_,e.2,by have:=Nat.mod_lt y (show 0<((b.pts.getD (i+1) default).h-(b.pts.getD i default).h+1).toNat by omega);omega,by have:=Nat.mod_lt y (show 0<((b.pts.getD (i+1) default).h-(b.pts.getD i default).h+1).toNat by omega);omega⟩) ?_;rintro v ⟨u,rfl,u1,u2⟩;refine k_put ?_;refine d3 ?_;refine k_calP (Post:=fun v=>v=_) rfl zq (by kernel_rfl) (fun H' hH=>f61_c _ H' _ _) ?_;rintro v rfl;refine k_put ?_;refine mq rfl ?_;refine k_conv rfl zq (by kernel_rfl) (n':=(z:Int)) (by unfold IntKind.wrap;simp [IntKind.bits,IntKind.signed];omega) ?_;refine k_calP (Post:=fun v=> ∃x:Int,v= .int .i64 x∧(b.pts.getD i default).h≤x∧x≤(b.pts.getD (i+1) default).h) rfl zq (by kernel_rfl) (fun H' hH=>(f60_c (Md.starS Tryz.prog B) H' (b.pts.getD i default).h (b.pts.getD (i+1) default).h z (by omega) (by omega)).mono fun v h' e=>⟨e.1,_,e.2,by have:=Nat.mod_lt z (show 0<((b.pts.getD (i+1) default).h-(b.pts.getD i default).h+1).toNat by omega);omega,by have:=Nat.mod_lt z (show 0<((b.pts.getD (i+1) default).h-(b.pts.getD i default).h+1).toNat by omega);omega⟩) ?_;rintro v ⟨wz,rfl,wz1,wz2⟩;refine k_put ?_;refine d46 ?_;refine rs8 ?_;refine d3 ?_;refine k_min rfl zq ?_;refine d3 ?_;refine k_max rfl zq ?_;refine d97 ?_;obtain ⟨lo,hlo⟩: ∃lo,lo=min u wz:=⟨_,rfl⟩
  obtain ⟨hi,hhi⟩: ∃hi,hi=max u wz:=⟨_,rfl⟩
  rw [←hlo,←hhi];refine rr9 ?_;refine k_ldA rfl zq ?_;refine d3 ?_;refine k_calP (Post:=fun v=>v= .tuple [.int .i64 (atI b.pts ln (b.pts.getD i default).h),.int .i64 0].toArray) rfl zq (by kernel_rfl) (fun H' hH=>by have:=f23_c (Md.starS Tryz.prog B) H' (b:=b) (xs:=ln) (rdp.keeps (sq hH)) hp (rdt.keeps (sq hH)) ht (rdk.keeps (sq hH)) hk (rl.keeps (sq hH)) hln (b.pts.getD i default).h;rw [orNo_yes (row_at h0 hll hsp w1 w2)] at this;exact this) ?_;rintro v rfl;refine d134 ?_;refine rs9 ?_;refine k_ldA rfl zq ?_;refine d3 ?_
  refine k_calP (Post:=fun v=>v= .tuple [.int .i64 (atI b.pts ln (b.pts.getD (i+1) default).h),.int .i64 0].toArray) rfl zq (by kernel_rfl) (fun H' hH=>by have:=f23_c (Md.starS Tryz.prog B) H' (b:=b) (xs:=ln) (rdp.keeps (sq hH)) hp (rdt.keeps (sq hH)) ht (rdk.keeps (sq hH)) hk (rl.keeps (sq hH)) hln (b.pts.getD (i+1) default).h;rw [orNo_yes (row_at h0 hll hsp w3 w4)] at this;exact this) ?_;rintro v rfl;refine d134 ?_;refine rs9 ?_;refine k_ldA rfl zq ?_;refine d3 ?_
  refine k_calP (Post:=fun v=>v= .tuple [.int .i64 (atI b.pts ln lo),.int .i64 0].toArray) rfl zq (by kernel_rfl) (fun H' hH=>by have:=f23_c (Md.starS Tryz.prog B) H' (b:=b) (xs:=ln) (rdp.keeps (sq hH)) hp (rdt.keeps (sq hH)) ht (rdk.keeps (sq hH)) hk (rl.keeps (sq hH)) hln lo;rw [orNo_yes (row_at h0 hll hsp (by omega) (by omega))] at this;exact this) ?_;rintro v rfl;refine d134 ?_;refine rs9 ?_;refine k_ldA rfl zq ?_;refine d3 ?_
  refine k_calP (Post:=fun v=>v= .tuple [.int .i64 (atI b.pts ln hi),.int .i64 0].toArray) rfl zq (by kernel_rfl) (fun H' hH=>by have:=f23_c (Md.starS Tryz.prog B) H' (b:=b) (xs:=ln) (rdp.keeps (sq hH)) hp (rdt.keeps (sq hH)) ht (rdk.keeps (sq hH)) hk (rl.keeps (sq hH)) hln hi;rw [orNo_yes (row_at h0 hll hsp (by omega) (by omega))] at this;exact this) ?_;rintro v rfl;refine d78 ?_;refine d97 ?_;refine run_seq ?_
  refine run_region [(0,.free),(1,.free),(2,.free),(3,.free),(4,.free),(5,.free),(6,.free),(7,.free),(8,.free),(9,.free),(10,.free),(11,.free),(12,.free),(13,.free),(14,.free),(15,.free),(16,.free),(17,.free),(18,.free),(19,.free),(20,.free),(21,.free),(22,.free),(23,.free),(24,.free),(25,.free),(26,.free),(27,.free),(28,.free),(29,.free),(30,.free)] (by kernel_rfl) (by kernel_rfl) ?_;refine mq rfl ?_;refine k_neqF rfl zq (by decide) ?_;refine d87 ?_;refine d87 ?_;refine d87 ?_;refine d23 ?_;refine k_mv rfl rfl ?_;refine k_mv rfl rfl ?_
  obtain ⟨rl_b,rl_o,rfl⟩:=rl.ptr (by omega)
  refine k_ixs rfl rfl (by first|rfl|assumption) (by omega) (by omega) ?_;refine k_ld rfl rfl (rl.iat i (by omega) (by omega)) ?_;refine k_neqF rfl rfl (at_lo hv.pts (by omega)) ?_;refine k_pickF rfl zq ?_;refine d23 ?_;refine k_mv rfl rfl ?_;refine k_mv rfl rfl ?_;refine k_add rfl rfl (by unfold In64;omega) ?_;refine k_ixs rfl rfl (by first|rfl|assumption) (by omega) (by omega) ?_;refine k_ld rfl rfl (rl.iat (i+1) (by omega) (by omega)) ?_;refine k_neqF rfl rfl (at_hi hv.pts (by omega)) ?_;refine k_pickF rfl zq ?_;refine d37 ?_;refine run_seq ?_;have e1:=at_lo (l:=ln) hv.pts (show i+1<b.pts.length by omega)
  have e2:=at_hi (l:=ln) hv.pts (show i+1<b.pts.length by omega)
  have hij:i+1<b.pts.length:=by omega
  refine rr3 ?_;refine d3 ?_;refine k_leqS rfl zq (fun hc=>?_) (fun hc=>?_)
  ·refine d7 ?_;refine run_seq ?_
   have hac:ln.getD i 0≤ln.getD (i+1) 0:=by omega
   have m1:=at_up (l:=ln) hv.pts hij (Int.le_refl _) (show (b.pts.getD i default).h≤lo by omega) (by omega) hac
   have m2:=at_up (l:=ln) hv.pts hij (show (b.pts.getD i default).h≤lo by omega) (show lo≤hi by omega) (by omega) hac
   have m3:=at_up (l:=ln) hv.pts hij (show (b.pts.getD i default).h≤hi by omega) (show hi≤(b.pts.getD (i+1) default).h by omega) (Int.le_refl _) hac
   refine run_region [(0,.free),(1,.free),(2,.free),(3,.free),(4,.free),(5,.free),(6,.free),(7,.free),(8,.free),(9,.free),(10,.free),(11,.free),(12,.free),(13,.free),(14,.free),(15,.free),(16,.free)] (by kernel_rfl) (by kernel_rfl) ?_;refine d3 ?_
   refine k_leqT rfl zq m1 ?_;refine d23 ?_;refine k_mv rfl rfl ?_
   refine k_leqT rfl rfl m2 ?_;refine k_pickT rfl zq ?_;refine d23 ?_;refine k_mv rfl rfl ?_;refine k_leqT rfl rfl m3 ?_;refine k_pickT rfl zq ?_;refine mq rfl ?_;refine k_cal rfl rfl (by kernel_rfl) (f18_c _) ?_;rintro v h' ⟨nF,rfl,rfl⟩;refine k_put ?_;refine d92 ?_;refine run_top rfl Tryz.func9 (by kernel_rfl) rfl ?_;rfl
  ·refine d37 ?_
   have hac:ln.getD (i+1) 0≤ln.getD i 0:=by omega
   have m1:=at_down (l:=ln) hv.pts hij (Int.le_refl _) (show (b.pts.getD i default).h≤lo by omega) (by omega) hac
   have m2:=at_down (l:=ln) hv.pts hij (show (b.pts.getD i default).h≤lo by omega) (show lo≤hi by omega) (by omega) hac
   have m3:=at_down (l:=ln) hv.pts hij (show (b.pts.getD i default).h≤hi by omega) (show hi≤(b.pts.getD (i+1) default).h by omega) (Int.le_refl _) hac
   refine run_region [(0,.free),(1,.free),(2,.free),(3,.free),(4,.free),(5,.free),(6,.free),(7,.free),(8,.free),(9,.free),(10,.free),(11,.free),(12,.free),(13,.free),(14,.free),(15,.free),(16,.free)] (by kernel_rfl) (by kernel_rfl) ?_;refine d3 ?_
   refine k_geqT rfl zq m1 ?_;refine d23 ?_;refine k_mv rfl rfl ?_
   refine k_geqT rfl rfl m2 ?_;refine k_pickT rfl zq ?_;refine d23 ?_;refine k_mv rfl rfl ?_;refine k_geqT rfl rfl m3 ?_;refine k_pickT rfl zq ?_;refine mq rfl ?_;refine k_cal rfl rfl (by kernel_rfl) (f18_c _) ?_;rintro v h' ⟨nF,rfl,rfl⟩;refine k_put ?_;refine d92 ?_;refine run_top rfl Tryz.func9 (by kernel_rfl) rfl ?_;rfl
 ·refine d44 ?_;refine d7 ?_;refine rs2 ?_
  refine k_cal rfl zq (by kernel_rfl) (f18_c _) ?_;rintro v h' ⟨nF,rfl,rfl⟩;refine d110 ?_
  refine run_top rfl Tryz.func9 (by kernel_rfl) rfl ?_;rfl
end Go.Proofs
