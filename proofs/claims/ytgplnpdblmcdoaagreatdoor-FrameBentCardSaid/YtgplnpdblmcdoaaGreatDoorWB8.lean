/- A part of the proof of a law: my own separation logic over the machine, and walks of the program. Condition of each theorem: as its statement says. -/
import Derived.Test.YtgplnpdblmcdoaaGreatDoorWB7
set_option linter.all false
namespace Go.Proofs
open Go.Lo
open Go.Conc (G)
set_option maxRecDepth 100000
set_option synthInstance.maxSize 100000
set_option synthInstance.maxHeartbeats 1000000
set_option maxHeartbeats 4000000
variable {b:Fb} {pp:Option Addr} {np cp:Nat} {pt:Option Addr} {nt ct:Nat} {pk:Option Addr} {nk ck:Nat}
variable {B:Array Obj}
variable [LaidF B]
def openS (b:Fb) (own:Int):Int:=if fbS b≠0 then fbS b else if own≠0 then own else if boatsOf b=[] then 9 else 0
theorem openS_b {b:Fb} {own:Int} (h:fbS b≠0):openS b own=fbS b:=by rw [openS,if_pos h]
theorem openS_o {b:Fb} {own:Int} (h:fbS b=0) (h2:own≠0):openS b own=own:=by rw [openS,if_neg (fun e=>e h),if_pos h2]
theorem openS_9 {b:Fb} {own:Int} (h:fbS b=0) (h2:own=0) (h3:boatsOf b=[]):openS b own=9:=by rw [openS,if_neg (fun e=>e h),if_neg (fun e=>e h2),if_pos h3]
theorem openS_0 {b:Fb} {own:Int} (h:fbS b=0) (h2:own=0) (h3:boatsOf b≠[]):openS b own=0:=by rw [openS,if_neg (fun e=>e h),if_neg (fun e=>e h2),if_neg h3]
theorem openS_zero {b:Fb} {own:Int} (h:openS b own=0):fbS b=0∧own=0∧boatsOf b≠[]:=by
 unfold openS at h
 split at h
 ·contradiction
 ·rename_i h1
  split at h
  ·contradiction
  ·rename_i h2
   split at h
   ·cases h
   ·rename_i h3
    exact ⟨Classical.byContradiction h1,Classical.byContradiction h2,h3⟩
theorem f31_c (m:Md Tryz.prog B) (h:Hp) (rdp:Rp B h b pp np cp) (hp:np≤1000) (rdt:Rt B h b pt nt ct) (ht:nt≤1000) (rdk:Rk B h b pk nk ck) (hk:nk≤1000):FnC m 31 #[fbV b pp np cp pt nt ct pk nk ck] h fun v h'=>h'=h∧v=orNo (fbS b) (boatsOf b).length:=by
 have hml:=rdp.elen (by decide)
 refine fn_enter Tryz.func31 rfl rfl (l:=(fbV b pp np cp pt nt ct pk nk ck)::uu13) rfl ?_
 intro cf cs K hK
 refine rs3 ?_;refine k_box rfl zq (fun q1=>k_hp (k_put ?_));refine d99 ?_;refine d96 ?_
 refine k_calP (Post:=fun v=>v=_) rfl zq (by kernel_rfl) (fun H' hH=>f54_c m H' (rdp.keeps (sq hH)) hp (rdt.keeps (sq hH)) ht (rdk.keeps (sq hH)) hk) ?_;rintro v rfl;refine d138 ?_
 refine k_neqS rfl zq (fun hc=>?_) (fun hc=>?_)
 ·refine d134 ?_
  refine run_res (h) rfl Tryz.func31 rfl weakSub ?_;refine hK _ _ ?_;exact ⟨rfl,by rw [orNo_no (by assumption)]⟩
 ·refine d13 ?_;refine rs6 ?_
  have hz0:fbS b=0:=by omega
  have hv:=fbS_zero hz0
  have hbl:=boatsOf_le hv.pts
  refine d133 ?_
  refine k_calC rfl zq (by kernel_rfl) (Post:=fun v nw=>OwnS 98 5 v (boatsOf b).length (encs (boatsOf b)) nw) (fun H' hH=>f75_c m H' (rdp.keeps (sq hH)) hp (rdt.keeps (sq hH)) ht (rdk.keeps (sq hH)) hk hv) ?_;rintro v nw o;obtain ⟨bp,bc,rfl,_⟩:=o.len
  refine k_hpA (k_put ?_);refine k_len rfl zq ?_;refine d27 ?_;refine run_res (h) rfl Tryz.func31 rfl weakSub ?_;refine hK _ _ ?_;exact ⟨rfl,by rw [orNo_yes hz0]⟩
theorem f85_c (m:Md Tryz.prog B) (h:Hp):FnC m 85 #[fbV b pp np cp pt nt ct pk nk ck] h fun v h'=>h'=h∧v= .int .i64 0:=by
 refine fn_enter Tryz.func85 rfl rfl (l:=[fbV b pp np cp pt nt ct pk nk ck,undef,undef]) rfl ?_
 intro cf cs K hK
 refine rs2 ?_;refine k_box rfl zq (fun q1=>k_hp (k_put ?_));refine aq rfl ?_;refine d37 ?_
 refine run_res (h) rfl Tryz.func85 rfl weakSub ?_;refine hK _ _ ?_;exact ⟨rfl,rfl⟩
theorem f129_c (m:Md Tryz.prog B) (h:Hp) (hp:np≤1000) {q:Nat} {st:Int} (rd:Rd B h ⟨q,0,none⟩ (.int .i64 st)):FnC m 129 #[fbV b pp np cp pt nt ct pk nk ck,.pointer (some ⟨q,0,none⟩)] h fun v h'=>h'=h∧v= .int .i64 (if 0≤st∧st≤(np:Int)-1 then 0 else 6):=by
 refine fn_enter Tryz.func129 rfl rfl (l:=(fbV b pp np cp pt nt ct pk nk ck)::(.pointer (some ⟨q,0,none⟩))::uu6) rfl ?_
 intro cf cs K hK
 refine rs2 ?_;refine k_box rfl zq (fun q2=>k_hp (k_put ?_));refine d12 ?_;refine rs4 ?_;refine k_ldA rfl zq ?_
 refine k_ld rfl zq (rd.keeps SubH.sub) ?_;refine k_calP (Post:=fun v=>IsB _ v) rfl zq (by kernel_rfl) (fun H' hH=>f125_c m H' _ hp) ?_;rintro v (⟨hc,rfl⟩|⟨hc,rfl⟩)
 ·refine d40 ?_;refine d13 ?_;refine d37 ?_
  refine run_res (h) rfl Tryz.func129 rfl weakSub ?_;refine hK _ _ ?_;first|exact ⟨rfl,by rw [if_neg (by omega)]⟩|exact ⟨rfl,by rw [if_pos (by omega)]⟩
 ·refine d41 ?_;refine d58 ?_
  refine run_res (h) rfl Tryz.func129 rfl weakSub ?_;refine hK _ _ ?_;first|exact ⟨rfl,by rw [if_neg (by omega)]⟩|exact ⟨rfl,by rw [if_pos (by omega)]⟩
theorem f130_c (m:Md Tryz.prog B) (h:Hp) (rdp:Rp B h b pp np cp) (hp:np≤1000) (h1:1≤np) {q q':Nat} {x y:Int} (rd:Rd B h ⟨q,0,none⟩ (.int .i64 x)) (rd':Rd B h ⟨q',0,none⟩ (.int .i64 y)):FnC m 130 #[fbV b pp np cp pt nt ct pk nk ck,.pointer (some ⟨q,0,none⟩),.pointer (some ⟨q',0,none⟩)] h fun v h'=>h'=h∧v= .int .i64 (if ((b.pts.getD 0 default).h≤x∧x≤(b.pts.getD (np-1) default).h)∧0≤y∧y≤959 then 0 else 1):=by
 refine fn_enter Tryz.func130 rfl rfl (l:=(fbV b pp np cp pt nt ct pk nk ck)::(.pointer (some ⟨q,0,none⟩))::(.pointer (some ⟨q',0,none⟩))::uu11) rfl ?_
 intro cf cs K hK
 refine rs2 ?_;refine k_box rfl zq (fun q3=>k_hp (k_put ?_));refine d12 ?_;refine rs9 ?_;refine k_ldA rfl zq ?_
 refine k_ld rfl zq (rd.keeps SubH.sub) ?_;refine k_calP (Post:=fun v=>IsB _ v) rfl zq (by kernel_rfl) (fun H' hH=>f45_c m H' _ (rdp.keeps (sq hH)) hp h1) ?_;rintro v (⟨hc,rfl⟩|⟨hc,rfl⟩)
 ·refine d40 ?_;refine mq rfl ?_
  refine k_ld rfl rfl (rd'.keeps SubH.sub) ?_;refine k_calP (Post:=fun v=>IsB _ v) rfl rfl (by kernel_rfl) (fun H' hH=>f68_c m H' _ _ _) ?_;rintro v (⟨hc,rfl⟩|⟨hc,rfl⟩)
  ·refine d85 ?_;refine d126 ?_;refine d37 ?_
   refine run_res (h) rfl Tryz.func130 rfl weakSub ?_;refine hK _ _ ?_;first|exact ⟨rfl,by rw [if_neg (by omega)]⟩|exact ⟨rfl,by rw [if_pos (by omega)]⟩
  ·refine d100 ?_;refine k_pickF rfl zq ?_;refine d58 ?_
   refine run_res (h) rfl Tryz.func130 rfl weakSub ?_;refine hK _ _ ?_;first|exact ⟨rfl,by rw [if_neg (by omega)]⟩|exact ⟨rfl,by rw [if_pos (by omega)]⟩
 ·refine d41 ?_;refine d52 ?_;refine k_off rfl rfl ?_;refine d142 ?_
  refine run_res (h) rfl Tryz.func130 rfl weakSub ?_;refine hK _ _ ?_;first|exact ⟨rfl,by rw [if_neg (by omega)]⟩|exact ⟨rfl,by rw [if_pos (by omega)]⟩
theorem f83_c (m:Md Tryz.prog B) (h:Hp) (hp:np≤1000) {q q':Nat} {x y:Int} (rd:Rd B h ⟨q,0,none⟩ (.int .i64 x)) (rd':Rd B h ⟨q',0,none⟩ (.int .i64 y)):FnC m 83 #[fbV b pp np cp pt nt ct pk nk ck,.pointer (some ⟨q,0,none⟩),.pointer (some ⟨q',0,none⟩)] h fun v h'=>h'=h∧v= .int .i64 (ordS np x y):=by
 refine fn_enter Tryz.func83 rfl rfl (l:=(fbV b pp np cp pt nt ct pk nk ck)::(.pointer (some ⟨q,0,none⟩))::(.pointer (some ⟨q',0,none⟩))::uu6) rfl ?_
 intro cf cs K hK
 refine rs2 ?_;refine k_box rfl zq (fun q3=>k_hp (k_put ?_));refine aq rfl ?_;refine rs5 ?_;refine k_ldA rfl zq ?_
 refine k_ld rfl zq (rd.keeps SubH.sub) ?_;refine k_ld rfl zq (rd'.keeps SubH.sub) ?_;refine k_calP (Post:=fun v=>v=_) rfl zq (by kernel_rfl) (fun H' hH=>f70_c m H' _ _ hp) ?_;rintro v rfl;refine d111 ?_
 refine run_res (h) rfl Tryz.func83 rfl weakSub ?_;refine hK _ _ ?_;exact ⟨rfl,rfl⟩
def Opened (b:Fb) (bv:Value) (s:Int) (nw:Hp) (v:Value):Prop:= ∃x p1 n1 c1 p2 n2 c2 p3 n3 c3 p4 n4 c4,v= .tuple [.agg [.int .i64 x,.slice p1 n1 c1,.slice p2 n2 c2,.slice p3 n3 c3,.slice p4 n4 c4].toArray,.int .i64 s].toArray∧
 (s=0→bv= .agg [.int .i64 x,.slice p1 n1 c1,.slice p2 n2 c2,.slice p3 n3 c3].toArray∧n4=(boatsOf b).length∧n4≤c4∧ ∀{B:Array Obj},RdS B nw 5 (.slice p4 n4 c4) n4 (encs (boatsOf b)))
theorem opened_no {b:Fb} {bv:Value} {s:Int} (h:s≠0):Opened b bv s [] (.tuple [.agg [.int .i64 0,.slice none 0 0,.slice none 0 0,.slice none 0 0,.slice none 0 0].toArray,.int .i64 s].toArray):=
 ⟨0,none,0,0,none,0,0,none,0,0,none,0,0,rfl,fun e=>absurd e h⟩
theorem f76_c (m:Md Tryz.prog B) (h:Hp) (rdp:Rp B h b pp np cp) (hp:np≤1000) (rdt:Rt B h b pt nt ct) (ht:nt≤1000) (rdk:Rk B h b pk nk ck) (hk:nk≤1000) {fid:Nat} {gc gp:Array Value} {own:Int} (hcall:callB Tryz.prog fid=true) (hown:fbS b=0→ ∀H':Hp,h.Sublist H'→FnC m fid (gc++[fbV b pp np cp pt nt ct pk nk ck].toArray++gp) H' fun v h'=>h'=H'∧v= .int .i64 own):FnC m 76 #[fbV b pp np cp pt nt ct pk nk ck,.func (.func fid) gc gp] h fun v h'=> ∃nw,h'=h++nw∧Opened b (fbV b pp np cp pt nt ct pk nk ck) (openS b own) nw v:=by
 have hml:=rdp.elen (by decide)
 refine fn_enter Tryz.func76 rfl rfl (l:=(fbV b pp np cp pt nt ct pk nk ck)::(.func (.func fid) gc gp)::uu34) rfl ?_
 intro cf cs K hK
 refine rs3 ?_;refine k_box rfl zq (fun q2=>k_hp (k_put ?_));refine k_new rfl zq (fun q4=>k_hp (k_put ?_));refine d12 ?_;refine d96 ?_
 refine k_calP (Post:=fun v=>v=_) rfl zq (by kernel_rfl) (fun H' hH=>f54_c m H' (rdp.keeps (sq hH)) hp (rdt.keeps (sq hH)) ht (rdk.keeps (sq hH)) hk) ?_;rintro v rfl;refine d138 ?_
 refine k_neqS rfl zq (fun hc=>?_) (fun hc=>?_)
 ·refine d7 ?_;refine rs4 ?_;refine d113 ?_
  refine k_stA rfl zq (by first|rfl|exact rws_length _) ?_;refine d0 ?_
  refine run_res (h) rfl Tryz.func76 rfl weakSub ?_;refine hK _ _ ?_;exact ⟨[],by simp,by rw [openS_b (by assumption)];exact opened_no (by assumption)⟩
 ·refine d13 ?_;refine rs5 ?_;refine d133 ?_;refine k_bld rfl zq ?_
  refine k_new rfl zq (fun q7=>k_hp (k_put ?_));refine k_stA rfl zq (by first|rfl|exact rws_length _) ?_;refine d24 ?_;refine d140 ?_;refine d60 ?_
  refine k_valP (Post:=fun v=>v=_) rfl zq hcall (fun H' hH=>hown (by omega) H' (sq hH)) ?_;rintro v rfl;refine d138 ?_
  refine k_neqS rfl zq (fun hc=>?_) (fun hc=>?_)
  ·refine d7 ?_;refine rs4 ?_;refine d113 ?_
   refine k_stA rfl zq (by first|rfl|exact rws_length _) ?_;refine d0 ?_
   refine run_res (h) rfl Tryz.func76 rfl weakSub ?_;refine hK _ _ ?_;exact ⟨[],by simp,by rw [openS_o (by omega) (by assumption)];exact opened_no (by assumption)⟩
  ·refine d38 ?_;refine rs5 ?_;refine d60 ?_
   have hz0:fbS b=0:=by omega
   have hv:=fbS_zero hz0
   have hbl:=boatsOf_le hv.pts
   refine k_calC rfl zq (by kernel_rfl) (Post:=fun v nw=>OwnS 98 5 v (boatsOf b).length (encs (boatsOf b)) nw) (fun H' hH=>f75_c m H' (rdp.keeps (sq hH)) hp (rdt.keeps (sq hH)) ht (rdk.keeps (sq hH)) hk hv) ?_;rintro v nw o;obtain ⟨bp,bc,rfl,_⟩:=o.len
   refine k_hpA (k_put ?_);refine d145 ?_;refine rs4 ?_;refine d106 ?_
   refine k_eqlS rfl zq (fun hc=>?_) (fun hc=>?_)
   ·refine d7 ?_;refine rs3 ?_;refine k_bld rfl zq ?_
    refine k_stA rfl zq (by first|rfl|exact rws_length _) ?_;refine d0 ?_
    refine run_res (h) rfl Tryz.func76 rfl weakSub ?_;refine hK _ _ ?_;exact ⟨[],by simp,by rw [openS_9 hz0 (by omega) (List.length_eq_zero_iff.1 (by omega))];exact opened_no (by decide)⟩
   ·refine d13 ?_;refine d96 ?_
    refine k_stA rfl zq (by first|rfl|exact rws_length _) ?_;refine d0 ?_
    refine run_res (h++nw) rfl Tryz.func76 rfl weakSub ?_;refine hK _ _ ?_;have e:openS b own=0:=openS_0 hz0 (by omega) (fun e=>hc (by rw [e];rfl))
    exact ⟨nw,rfl,_,_,_,_,_,_,_,_,_,_,_,_,_,by rw [e],fun _=>⟨rfl,rfl,o.cap,o.rd (List.Sublist.refl _)⟩⟩
def openL (b:Fb) (s:Int):List (List Int):=if s≠0 then [] else boatsOf b
def toldL (mf:Nat→Int) (k:Nat):List Int:=(List.range k).map mf
theorem toldL_succ (mf:Nat→Int) (k:Nat):toldL mf (k+1)=toldL mf k++[mf k]:=by
 rw [toldL,List.range_succ,List.map_append];rfl
theorem toldL_map (f:List Int→Int) (ll:List (List Int)):toldL (fun i=>f (ll.getD i default)) ll.length=ll.map f:=by
 refine List.ext_getElem (by simp [toldL]) fun i h1 h2=>?_
 simp only [toldL,List.getElem_map,List.getElem_range]
 rw [List.getD_eq_getElem?_getD,List.getElem?_eq_getElem (by simpa using h2)];rfl
theorem f78_c (m:Md Tryz.prog B) (h:Hp) {p:Option Addr} {n c:Nat} {ll:List (List Int)} (rd:RdS B h 5 (.slice p n c) n (encs ll)) (hn:n≤10000) {fid:Nat} {gc gp:Array Value} {mf:Nat→Int} {J:Hp→Prop} (hcall:callB Tryz.prog fid=true)
  (hf: ∀i,i<n→ ∀F R:Hp,h.Sublist F→J R→FnC m fid (gc++[rwV (ll.getD i default)].toArray++gp) (F++R) fun v h'=>v= .int .i64 (mf i)∧ ∃R',h'=F++R'∧J R') {R:Hp} (hR:J R):
  FnC m 78 #[.slice p n c,.func (.func fid) gc gp] (h++R) fun v h'=> ∃R' nw,h'=h++R'++nw∧J R'∧OwnS 3 1 v n (ints (toldL mf n)) nw:=by
 refine fn_enter Tryz.func78 rfl rfl (l:=(.slice p n c)::(.func (.func fid) gc gp)::uu20) rfl ?_
 intro cf cs K hK
 refine d83 ?_;refine d69 ?_;refine d44 ?_;refine d136 ?_
 refine run_loop (fun nn l h'=> ∃(k:Nat) (w5:Value) (R1 W:Hp),nn=n-k∧(k≤n)∧(J R1)∧(OwnS 3 1 w5 k (ints (toldL mf k)) W)∧(∃U:Nat→Value,l=((.slice p n c)::(.func (.func fid) gc gp)::(U 2)::(U 3)::(U 4)::w5::(U 6)::(U 7)::(.slice p n c)::(.int .i64 (n:Int))::(.int .i64 (k:Int))::vw11 U 11 []))∧h++R1++W=h') _ ⟨0,_,R,[],rfl,by omega,hR,OwnS.nil,exU rfl,(by simp)⟩ ?_;rintro nn l h' ⟨k,w5,R1,W,rfl,hk,hR1,ho,⟨U,rfl⟩,rfl⟩ hnext;refine rs1 ?_;refine k_lssS rfl zq (fun hc=>?_) (fun hc=>?_)
 ·refine d104 ?_;refine rs4 ?_
  obtain ⟨rb,ro,rfl⟩:=rd.ptr (by omega)
  refine k_ixs rfl zq (by first|rfl|assumption) (by omega) (by omega) ?_;refine k_ldN (vs:=rws (ll.getD k default)) rfl zq (rws_length _) (rd.eat k (by omega) (by omega)) ?_;refine k_new rfl zq (fun q7=>k_hp (k_put ?_));refine k_stA rfl zq (by first|rfl|exact rws_length _) ?_;refine k_nil ?_;refine rr7 ?_;refine d3 ?_;refine k_ldA rfl zq ?_;refine k_weak (h':=h++(W++[⟨true,q7,.cells (rws (ll.getD k default)).toArray 98 (0,0)⟩])++R1) (by rw [List.append_assoc (h++R1)];exact Weak.mid h R1 _) ?_;refine k_callV rfl zq (CallV.fn' hcall rfl (hf k (by omega) (h++(W++[⟨true,q7,.cells (rws (ll.getD k default)).toArray 98 (0,0)⟩])) R1 (List.sublist_append_left _ _) hR1)) ?_;rintro v h' ⟨rfl,R2,rfl,hR2⟩;refine k_put ?_;refine k_weak (h':=h++R2++W++[⟨true,q7,.cells (rws (ll.getD k default)).toArray 98 (0,0)⟩]) (by rw [List.append_assoc (h++R2)];exact Weak.mid h _ R2) ?_;refine k_bs kdq rfl zq (by decide) (by decide) rfl (fun q18=>k_hp (k_put ?_));refine k_app1 (F:=h++R2) rfl zq rfl ho kdq (by omega) (by omega) (fun w9 n9 o9=>k_put ?_);refine d45 ?_;refine d84 ?_
  exact m.weak weakSub (hnext _ _ _ (by omega) ⟨k+1,_,R2,n9,rfl,by omega,hR2,by rw [toldL_succ,ints_append];exact o9,exU rfl,rfl⟩)
 ·refine d105 ?_;refine d95 ?_
  refine run_res (h++R1++W) rfl Tryz.func78 rfl weakSub ?_;refine hK _ _ ?_;obtain rfl:k=n:=by omega
  exact ⟨R1,W,rfl,hR1,ho⟩
theorem f77_c (m:Md Tryz.prog B) (h:Hp) (st:Int):FnC m 77 #[.int .i64 st] h fun v h'=> ∃nw,h'=h++nw∧ ∃q,nw=[⟨true,q,.cells [.int .i64 st].toArray 3 (0,0)⟩]∧v= .func (.func 129) #[] [.pointer (some ⟨q,0,none⟩)].toArray:=by
 refine fn_enter Tryz.func77 rfl rfl (l:=[.int .i64 st,undef,undef,undef]) rfl ?_
 intro cf cs K hK
 refine rs2 ?_;refine k_box rfl zq (fun q1=>k_hp (k_put ?_));refine aq rfl ?_;refine rs2 ?_;refine k_fun rfl zq ?_;refine d0 ?_
 refine run_res (h++[⟨true,q1,.cells [.int .i64 st].toArray 3 (0,0)⟩]) rfl Tryz.func77 rfl weakSub ?_;refine hK _ _ ?_;exact ⟨_,rfl,q1,rfl,rfl⟩
theorem f80_c (m:Md Tryz.prog B) (h:Hp) (x y:Int):FnC m 80 #[.int .i64 x,.int .i64 y] h fun v h'=> ∃nw,h'=h++nw∧ ∃q q',nw=[⟨true,q,.cells [.int .i64 x].toArray 3 (0,0)⟩,⟨true,q',.cells [.int .i64 y].toArray 3 (0,0)⟩]∧v= .func (.func 130) #[] [.pointer (some ⟨q,0,none⟩),.pointer (some ⟨q',0,none⟩)].toArray:=by
 refine fn_enter Tryz.func80 rfl rfl (l:=[.int .i64 x,.int .i64 y,undef,undef,undef,undef]) rfl ?_
 intro cf cs K hK
 refine rs3 ?_;refine k_box rfl zq (fun q2=>k_hp (k_put ?_));refine k_box rfl zq (fun q3=>k_hp (k_put ?_));refine aq rfl ?_;refine rs2 ?_;refine k_fun rfl zq ?_;refine d0 ?_
 refine run_res (h++[⟨true,q2,.cells [.int .i64 x].toArray 3 (0,0)⟩,⟨true,q3,.cells [.int .i64 y].toArray 3 (0,0)⟩]) rfl Tryz.func80 rfl weakSub ?_;refine hK _ _ ?_;exact ⟨_,rfl,q2,q3,rfl,rfl⟩
theorem f79_c (m:Md Tryz.prog B) (h:Hp) {xs:List Int} {q:Nat} {s:Nat} (hs:s<5) (rd:Rd B h ⟨q,0,none⟩ (.int .i64 (s:Int))):FnC m 79 #[rwV xs,.pointer (some ⟨q,0,none⟩)] h fun v h'=>h'=h∧v= .int .i64 (xs.getD s 0):=by
 refine fn_enter Tryz.func79 rfl rfl (l:=[rwV xs,.pointer (some ⟨q,0,none⟩),undef,undef,undef,undef,undef]) rfl ?_
 intro cf cs K hK
 refine rs2 ?_;refine k_box rfl zq (fun q2=>k_hp (k_put ?_));refine aq rfl ?_;refine rs4 ?_
 refine k_ld rfl zq (rd.keeps SubH.sub) ?_;refine k_ixa rfl zq (by omega) (by omega) ?_;refine k_ld rfl zq (rd_rws s (by omega) (by omega)) ?_;refine d0 ?_
 refine run_res (h) rfl Tryz.func79 rfl weakSub ?_;refine hK _ _ ?_;exact ⟨rfl,rfl⟩
theorem f82_c (m:Md Tryz.prog B) (h:Hp) (rdp:Rp B h b pp np cp) (hp:np≤1000) {xs:List Int} (hln:xs.length=np) (hpo:PtsOk b.pts) (hsm:SmL xs) {qo q:Nat} (ro:RdN B h qo 0 (fbL b pp np cp pt nt ct pk nk ck)) {x:Int} (rq:Rd B h ⟨q,0,none⟩ (.int .i64 x)) (hx:(b.pts.getD 0 default).h≤x∧x≤(b.pts.getD (np-1) default).h):FnC m 82 #[rwV xs,.pointer (some ⟨qo,0,none⟩),.pointer (some ⟨q,0,none⟩)] h fun v h'=>h'=h∧v= .int .i64 (atI b.pts xs x):=by
 refine fn_enter Tryz.func82 rfl rfl (l:=(rwV xs)::(.pointer (some ⟨qo,0,none⟩))::(.pointer (some ⟨q,0,none⟩))::uu7) rfl ?_
 intro cf cs K hK
 refine rs2 ?_;refine k_box rfl zq (fun q3=>k_hp (k_put ?_));refine aq rfl ?_;refine rs6 ?_;(first|refine k_fa0 rfl zq ?_|refine k_fa rfl zq ?_)
 refine k_ldN (vs:=fbL b pp np cp pt nt ct pk nk ck) rfl zq rfl (fun j hj=>(ro j hj).keeps SubH.sub) ?_;refine k_ldA rfl zq ?_;refine k_ld rfl zq (rq.keeps SubH.sub) ?_;refine k_calP (Post:=fun v=>v=_) rfl zq (by kernel_rfl) (fun H' hH=>f46_c m H' (rdp.keeps (sq hH)) hp (by omega) hpo hsm _ hx) ?_;rintro v rfl;refine d111 ?_
 refine run_res (h) rfl Tryz.func82 rfl weakSub ?_;refine hK _ _ ?_;exact ⟨rfl,rfl⟩
theorem f86_c (m:Md Tryz.prog B) (h:Hp) (rdp:Rp B h b pp np cp) (hp:np≤1000) {xs:List Int} (hln:xs.length=np) (hpo:PtsOk b.pts) (hsm:SmL xs) {qo q:Nat} (ro:RdN B h qo 0 (fbL b pp np cp pt nt ct pk nk ck)) {x:Int} (rq:Rd B h ⟨q,0,none⟩ (.int .i64 x)) (hx:(b.pts.getD 0 default).h≤x∧x≤(b.pts.getD (np-1) default).h):FnC m 86 #[rwV xs,.pointer (some ⟨qo,0,none⟩),.pointer (some ⟨q,0,none⟩)] h fun v h'=>h'=h∧v= .int .i64 (atI b.pts xs x):=by
 refine fn_enter Tryz.func86 rfl rfl (l:=(rwV xs)::(.pointer (some ⟨qo,0,none⟩))::(.pointer (some ⟨q,0,none⟩))::uu7) rfl ?_
 intro cf cs K hK
 refine rs2 ?_;refine k_box rfl zq (fun q3=>k_hp (k_put ?_));refine aq rfl ?_;refine rs6 ?_;(first|refine k_fa0 rfl zq ?_|refine k_fa rfl zq ?_)
 refine k_ldN (vs:=fbL b pp np cp pt nt ct pk nk ck) rfl zq rfl (fun j hj=>(ro j hj).keeps SubH.sub) ?_;refine k_ldA rfl zq ?_;refine k_ld rfl zq (rq.keeps SubH.sub) ?_;refine k_calP (Post:=fun v=>v=_) rfl zq (by kernel_rfl) (fun H' hH=>f46_c m H' (rdp.keeps (sq hH)) hp (by omega) hpo hsm _ hx) ?_;rintro v rfl;refine d111 ?_
 refine run_res (h) rfl Tryz.func86 rfl weakSub ?_;refine hK _ _ ?_;exact ⟨rfl,rfl⟩
theorem f84_c (m:Md Tryz.prog B) (h:Hp) (qM:Nat) (es:Ents) (hes:OkE es) (rdp:Rp B h b pp np cp) (hp:np≤1000) {xs:List Int} (hln:xs.length=np) (hpo:PtsOk b.pts) (hsm:SmL xs) {qo qm q q':Nat} (ro:RdN B h qo 0 (fbL b pp np cp pt nt ct pk nk ck)) (rm:Rd B h ⟨qm,0,none⟩ (.map (some qM))) {f t:Int} (rf:Rd B h ⟨q,0,none⟩ (.int .i64 f)) (rt:Rd B h ⟨q',0,none⟩ (.int .i64 t)) {f' t':Nat} (hf:f=f') (he:t=t') (hft:f'≤t') (ht:t'<np):FnC m 84 #[rwV xs,.pointer (some ⟨qo,0,none⟩),.pointer (some ⟨qm,0,none⟩),.pointer (some ⟨q,0,none⟩),.pointer (some ⟨q',0,none⟩)] (h++[⟨true,qM,mapO es⟩]) fun v h'=> ∃es',h'=h++[⟨true,qM,mapO es'⟩]∧OkE es'∧v= .int .i64 (girthI b.pts xs f t):=by
 refine fn_enter Tryz.func84 rfl rfl (l:=(rwV xs)::(.pointer (some ⟨qo,0,none⟩))::(.pointer (some ⟨qm,0,none⟩))::(.pointer (some ⟨q,0,none⟩))::(.pointer (some ⟨q',0,none⟩))::uu9) rfl ?_
 intro cf cs K hK
 refine rs2 ?_;refine k_box rfl zq (fun q5=>k_hp (k_put ?_));refine aq rfl ?_;refine rs8 ?_;(first|refine k_fa0 rfl zq ?_|refine k_fa rfl zq ?_)
 refine k_ldN (vs:=fbL b pp np cp pt nt ct pk nk ck) rfl zq rfl (fun j hj=>(ro j hj).keeps SubH.sub) ?_;refine k_ld rfl zq (rm.keeps SubH.sub) ?_;refine k_ldA rfl zq ?_;refine k_ld rfl zq (rf.keeps SubH.sub) ?_;refine k_ld rfl zq (rt.keeps SubH.sub) ?_;refine k_calM (Post:=fun v es'=>OkE es'∧v=_) qM rfl zq (by kernel_rfl) (f71_i m _ qM es hes (rdp.keeps SubH.sub) hp (by omega) hpo hsm f t f' t' hf he hft ht) ?_;rintro v es2 ⟨hes2,rfl⟩;refine d111 ?_
 refine run_res (h++[⟨true,qM,mapO es2⟩]) rfl Tryz.func84 rfl weakSub ?_;refine hK _ _ ?_;exact ⟨es2,rfl,hes2,rfl⟩
theorem uniqT_asc {xs:List Int} (hs:SortR xs 0 xs.length): ∀t,t≤xs.length→Asc (uniqT xs t)∧(∀z∈uniqT xs t,∃i,i<t∧z=xs.getD i 0)
 |0,_=>⟨List.Pairwise.nil,by simp [uniqT]⟩
 |t+1,h=>by
  obtain ⟨h1,h2⟩:=uniqT_asc hs t (by omega)
  rw [uniqT];by_cases e:t=0∨xs.getD t 0≠xs.getD (t-1) 0
  ·rw [if_pos e];refine ⟨?_,fun z hz=>?_⟩
   ·unfold Asc at h1⊢
    rw [List.pairwise_append];refine ⟨h1,by simp,fun x hx y hy=>?_⟩
    simp only [List.mem_singleton] at hy
    subst hy
    obtain ⟨i,hi,rfl⟩:=h2 x hx
    have e1:xs.getD i 0≤xs.getD (t-1) 0:=by
     by_cases e2:i=t-1
     ·subst e2
      exact Int.le_refl _
     ·exact hs i (t-1) (by omega) (by omega) (by omega)
    have e3:xs.getD (t-1) 0≤xs.getD t 0:=hs (t-1) t (by omega) (by omega) (by omega)
    rcases e with e|e
    ·omega
    ·omega
   ·rcases List.mem_append.1 hz with hz|hz
    ·obtain ⟨i,hi,e⟩:=h2 z hz
     exact ⟨i,by omega,e⟩
    ·simp only [List.mem_singleton] at hz
     exact ⟨t,by omega,hz⟩
  ·rw [if_neg e,List.append_nil];exact ⟨h1,fun z hz=>by obtain ⟨i,hi,e⟩:=h2 z hz;exact ⟨i,by omega,e⟩⟩
theorem uniqT_mem {xs:List Int}: ∀t i,i<t→xs.getD i 0∈uniqT xs t
 |0,i,h=>by omega
 |t+1,i,h=>by
  rw [uniqT,List.mem_append];rcases Nat.lt_or_ge i t with h1|h1
  ·exact .inl (uniqT_mem t i h1)
  ·obtain rfl:i=t:=by omega
   by_cases e:i=0∨xs.getD i 0≠xs.getD (i-1) 0
   ·rw [if_pos e];exact .inr (by simp)
   ·have h0:i≠0:=fun x=>e (.inl x)
    have e2:xs.getD i 0=xs.getD (i-1) 0:=Classical.byContradiction fun x=>e (.inr x)
    rw [e2];exact .inl (uniqT_mem i (i-1) (by omega))
theorem rdN_has {B:Array Obj} {h:Hp} {q t:Nat} {rw:Bool} {f:Nat×Nat} {vs:List Value} [x:Has h q rw (.cells vs.toArray t f)]:RdN B h q 0 vs:=fun j hj=>Rd.held x.mem (by
 rw [Nat.zero_add,List.getElem?_toArray,List.getD_eq_getElem?_getD,List.getElem?_eq_getElem hj];rfl)
theorem rd_has {B:Array Obj} {h:Hp} {q t:Nat} {rw:Bool} {f:Nat×Nat} {v:Value} [x:Has h q rw (.cells [v].toArray t f)]:Rd B h ⟨q,0,none⟩ v:=Rd.held x.mem rfl
theorem own_block {v:Value} {n:Nat} {xs:List Int} {new:Hp} (o:OwnS 3 1 v n (ints xs) new) (h:0<n): ∃b c junk,v= .slice (some ⟨b,0,none⟩) n c∧new=[blkC b xs junk]∧xs.length=n∧n+junk.length=c:=by
 unfold blkC
 generalize hg:ints xs=ys at o⊢
 have hy:ys.length=xs.length:=by rw [←hg];simp
 cases o with
 |nil=>omega
 |blk hl hc hn=>exact ⟨_,_,_,rfl,rfl,by omega,by omega⟩
theorem mem_uniqT {xs:List Int} {z:Int} (hs:SortR xs 0 xs.length):z∈uniqT xs xs.length↔z∈xs:=by
 constructor
 ·intro h
  obtain ⟨i,hi,rfl⟩:=(uniqT_asc hs _ (Nat.le_refl _)).2 z h
  exact mem_getD.2 ⟨i,hi,rfl⟩
 ·intro h
  obtain ⟨i,hi,rfl⟩:=mem_getD.1 h
  exact uniqT_mem _ i hi
theorem f78_p (m:Md Tryz.prog B) (h:Hp) {p:Option Addr} {n c:Nat} {ll:List (List Int)} (rd:RdS B h 5 (.slice p n c) n (encs ll)) (hn:n≤10000) {fid:Nat} {gc gp:Array Value} {mf:Nat→Int} (hcall:callB Tryz.prog fid=true)
  (hf: ∀i,i<n→ ∀H':Hp,h.Sublist H'→FnC m fid (gc++[rwV (ll.getD i default)].toArray++gp) H' fun v h'=>h'=H'∧v= .int .i64 (mf i)):
  FnC m 78 #[.slice p n c,.func (.func fid) gc gp] h fun v h'=> ∃nw,h'=h++nw∧OwnS 3 1 v n (ints (toldL mf n)) nw:=by
 have:=f78_c m h rd hn (J:=fun R=>R=[]) hcall (fun i hi F R hF hR=>by
  subst hR
  rw [List.append_nil];exact CallF.mono (hf i hi F hF) fun v h' ⟨e1,e2⟩=>⟨e2,[],by simp [e1],rfl⟩) rfl
 rw [List.append_nil] at this
 refine CallF.mono this fun v h' ⟨R',nw,e,hR,o⟩=>?_
 subst hR
 exact ⟨nw,by simpa using e,o⟩
theorem openL_yes {b:Fb} {s:Int} (h:s=0):openL b s=boatsOf b:=by rw [openL,if_neg (fun e=>e h)]
theorem openL_no {b:Fb} {s:Int} (h:s≠0):openL b s=[]:=by rw [openL,if_pos h]
def breadthsAt (ll:List (List Int)) (s:Nat):List Int:=ll.map fun l=>l.getD s 0
theorem callB129:callB Tryz.prog 129=true:=by kernel_rfl
theorem callB79:callB Tryz.prog 79=true:=by kernel_rfl
theorem f32_c (m:Md Tryz.prog B) (h:Hp) (rdp:Rp B h b pp np cp) (hp:np≤1000) (rdt:Rt B h b pt nt ct) (ht:nt≤1000) (rdk:Rk B h b pk nk ck) (hk:nk≤1000) (st:Int):FnC m 32 #[fbV b pp np cp pt nt ct pk nk ck,.int .i64 st] h fun v h'=> ∃new,h'=h++new∧ ∃w ys,v= .tuple [w,.int .i64 (openS b (if 0≤st∧st≤(np:Int)-1 then 0 else 6))].toArray∧OwnS 3 1 w ys.length (ints ys) new∧Asc ys∧ ∀z,z∈ys↔z∈breadthsAt (openL b (openS b (if 0≤st∧st≤(np:Int)-1 then 0 else 6))) st.toNat:=by
 have hml:=rdp.elen (by decide)
 refine fn_enter Tryz.func32 rfl rfl (l:=(fbV b pp np cp pt nt ct pk nk ck)::(.int .i64 st)::uu25) rfl ?_
 intro cf cs K hK
 refine rs4 ?_;refine k_box rfl zq (fun q2=>k_hp (k_put ?_));refine k_box rfl zq (fun q3=>k_hp (k_put ?_));refine d99 ?_
 refine run_drawT [0,1,2,3,4,5,6,7,8,9] (by kernel_rfl) (by kernel_rfl) (List.Sublist.refl _) ?_;refine DrawT.split 2 7 (by decide) ?_ ?_
 ·refine DrawT.split 3 7 (by decide) ?_ ?_
  ·refine DrawT.leaf [(0,.read),(1,.read),(2,.keep),(3,.keep),(4,.pure),(5,.pure),(6,.pure),(7,.alloc),(8,.free),(9,.pure)] (by kernel_rfl) ?_
   refine d64 ?_
   refine k_calC rfl zq (by kernel_rfl) (Post:=fun v nw=> ∃q,nw=[⟨true,q,.cells [.int .i64 st].toArray 3 (0,0)⟩]∧v= .func (.func 129) #[] [.pointer (some ⟨q,0,none⟩)].toArray) (fun H' hH=>f77_c m H' st) ?_;rintro v nw ⟨qs,rfl,rfl⟩;refine k_hpA (k_put ?_);refine k_calC rfl zq (by kernel_rfl) (Post:=fun v nw=>Opened b (fbV b pp np cp pt nt ct pk nk ck) (openS b (if 0≤st∧st≤(np:Int)-1 then 0 else 6)) nw v) (fun H' hH=>f76_c m H' (rdp.keeps (sq hH)) hp (rdt.keeps (sq hH)) ht (rdk.keeps (sq hH)) hk callB129 (fun hbz K hK=>by simpa using f129_c m K hp ((rd_has (q:=qs)).keeps (hH.trans hK)))) ?_;rintro v nw ⟨x1,p1,n1,c1,p2,n2,c2,p3,n3,c3,z1,z2,z3,rfl,hz⟩;refine k_hpA (k_put ?_);refine d42 ?_
   refine k_new rfl zq (fun q6=>k_hp (k_put ?_));refine k_stA rfl zq (by first|rfl|exact rws_length _) ?_;refine d88 ?_
   refine k_neqS rfl zq (fun hc=>?_) (fun hc=>?_)
   ·refine d134 ?_
    refine run_res (h) rfl Tryz.func32 rfl weakSub ?_;refine hK _ _ ?_;exact ⟨[],by simp,_,[],rfl,OwnS.nil,List.Pairwise.nil,by rw [openL_no (by assumption)];simp [breadthsAt]⟩
   ·refine d13 ?_;refine rs5 ?_
    have hz0:openS b (if 0≤st∧st≤(np:Int)-1 then 0 else 6)=0:=by first|assumption|omega
    obtain ⟨hz1,rfl,hzc,rdB⟩:=hz hz0
    injection hz1 with hz1
    injection hz1 with hz1
    injection hz1 with e1 hz1
    injection hz1 with e2 hz1
    injection hz1 with e3 hz1
    injection hz1 with e4 hz1
    injection e1 with _ e1
    injection e2 with u1 u2 u3
    injection e3 with u4 u5 u6
    injection e4 with u7 u8 u9
    subst e1 u1 u2 u3 u4 u5 u6 u7 u8 u9
    obtain ⟨hbz,hoz,hbne⟩:=openS_zero hz0
    have hv:=fbS_zero hbz
    have hpo:=hv.pts
    have hv5:=hpo.five
    have hbl:=boatsOf_le hpo
    have hpos:0<(boatsOf b).length:=List.length_pos_iff.2 hbne
    have hst1:0≤st∧st≤(np:Int)-1:=Classical.byContradiction fun e=>by rw [if_neg e] at hoz;omega
    obtain ⟨s,rfl⟩:=Int.eq_ofNat_of_zero_le hst1.1
    refine d107 ?_
    refine k_calC rfl zq (by kernel_rfl) (Post:=fun v nw=>OwnS 3 1 v (boatsOf b).length (ints (toldL (fun i=>((boatsOf b).getD i default).getD s 0) (boatsOf b).length)) nw) (fun H' hH=>f78_p m H' (RdS.keeps rdB (sq hH)) (by omega) callB79 (fun i hi K hK=>by simpa using f79_c m K (xs:=(boatsOf b).getD i default) (s:=s) (by omega) ((rd_has (q:=q3)).keeps (hH.trans hK)))) ?_;rintro v n8 ho;refine k_hpA (k_put ?_);rw [toldL_map (fun l=>l.getD s 0)] at ho
    refine aq rfl ?_;refine rs2 ?_
    obtain ⟨bk,c,junk,rfl,rfl,hbk1,hbk2⟩:=own_block ho hpos
    refine mq rfl ?_
    refine k_cal rfl zq (by kernel_rfl) (f65_c m _ (f123_all m) (by decide) hbk1 (by omega)) ?_;rintro v h' ⟨rfl,ys,rfl,hsw,hso⟩;refine k_put ?_;have hyl:=hsw.length
    refine k_nil ?_;refine d118 ?_;refine k_cal rfl zq (by kernel_rfl) (f66_c m _ (show ys.length=_ by omega) hbk2 (by omega)) ?_;rintro v h' ⟨n11,rfl,k,hk',ho'⟩;refine k_put ?_;refine d27 ?_;refine run_res (h++n11) rfl Tryz.func32 rfl weakSub ?_;refine hK _ _ ?_;have hyn:ys.length=(boatsOf b).length:=by omega
    rw [←hyn] at hso ho' hk'
    subst hk'
    refine ⟨n11,rfl,_,_,by rw [hz0],ho',(uniqT_asc hso _ (Nat.le_refl _)).1,fun z=>?_⟩
    rw [openL_yes hz0,mem_uniqT hso];exact (hsw.perm (by omega)).mem_iff
  ·refine DrawT.leaf [(0,.read),(1,.read),(2,.keep),(7,.alloc),(3,.keep),(4,.pure),(5,.pure),(6,.pure),(8,.free),(9,.pure)] (by kernel_rfl) ?_
   refine d64 ?_
   refine k_calC rfl zq (by kernel_rfl) (Post:=fun v nw=> ∃q,nw=[⟨true,q,.cells [.int .i64 st].toArray 3 (0,0)⟩]∧v= .func (.func 129) #[] [.pointer (some ⟨q,0,none⟩)].toArray) (fun H' hH=>f77_c m H' st) ?_;rintro v nw ⟨qs,rfl,rfl⟩;refine k_hpA (k_put ?_);refine k_new rfl zq (fun q6=>k_hp (k_put ?_));refine k_calC rfl zq (by kernel_rfl) (Post:=fun v nw=>Opened b (fbV b pp np cp pt nt ct pk nk ck) (openS b (if 0≤st∧st≤(np:Int)-1 then 0 else 6)) nw v) (fun H' hH=>f76_c m H' (rdp.keeps (sq hH)) hp (rdt.keeps (sq hH)) ht (rdk.keeps (sq hH)) hk callB129 (fun hbz K hK=>by simpa using f129_c m K hp ((rd_has (q:=qs)).keeps (hH.trans hK)))) ?_;rintro v nw ⟨x1,p1,n1,c1,p2,n2,c2,p3,n3,c3,z1,z2,z3,rfl,hz⟩;refine k_hpA (k_put ?_);refine d42 ?_
   refine k_stA rfl zq (by first|rfl|exact rws_length _) ?_;refine d88 ?_
   refine k_neqS rfl zq (fun hc=>?_) (fun hc=>?_)
   ·refine d134 ?_
    refine run_res (h) rfl Tryz.func32 rfl weakSub ?_;refine hK _ _ ?_;exact ⟨[],by simp,_,[],rfl,OwnS.nil,List.Pairwise.nil,by rw [openL_no (by assumption)];simp [breadthsAt]⟩
   ·refine d13 ?_;refine rs5 ?_
    have hz0:openS b (if 0≤st∧st≤(np:Int)-1 then 0 else 6)=0:=by first|assumption|omega
    obtain ⟨hz1,rfl,hzc,rdB⟩:=hz hz0
    injection hz1 with hz1
    injection hz1 with hz1
    injection hz1 with e1 hz1
    injection hz1 with e2 hz1
    injection hz1 with e3 hz1
    injection hz1 with e4 hz1
    injection e1 with _ e1
    injection e2 with u1 u2 u3
    injection e3 with u4 u5 u6
    injection e4 with u7 u8 u9
    subst e1 u1 u2 u3 u4 u5 u6 u7 u8 u9
    obtain ⟨hbz,hoz,hbne⟩:=openS_zero hz0
    have hv:=fbS_zero hbz
    have hpo:=hv.pts
    have hv5:=hpo.five
    have hbl:=boatsOf_le hpo
    have hpos:0<(boatsOf b).length:=List.length_pos_iff.2 hbne
    have hst1:0≤st∧st≤(np:Int)-1:=Classical.byContradiction fun e=>by rw [if_neg e] at hoz;omega
    obtain ⟨s,rfl⟩:=Int.eq_ofNat_of_zero_le hst1.1
    refine d107 ?_
    refine k_calC rfl zq (by kernel_rfl) (Post:=fun v nw=>OwnS 3 1 v (boatsOf b).length (ints (toldL (fun i=>((boatsOf b).getD i default).getD s 0) (boatsOf b).length)) nw) (fun H' hH=>f78_p m H' (RdS.keeps rdB (sq hH)) (by omega) callB79 (fun i hi K hK=>by simpa using f79_c m K (xs:=(boatsOf b).getD i default) (s:=s) (by omega) ((rd_has (q:=q3)).keeps (hH.trans hK)))) ?_;rintro v n8 ho;refine k_hpA (k_put ?_);rw [toldL_map (fun l=>l.getD s 0)] at ho
    refine aq rfl ?_;refine rs2 ?_
    obtain ⟨bk,c,junk,rfl,rfl,hbk1,hbk2⟩:=own_block ho hpos
    refine mq rfl ?_
    refine k_cal rfl zq (by kernel_rfl) (f65_c m _ (f123_all m) (by decide) hbk1 (by omega)) ?_;rintro v h' ⟨rfl,ys,rfl,hsw,hso⟩;refine k_put ?_;have hyl:=hsw.length
    refine k_nil ?_;refine d118 ?_;refine k_cal rfl zq (by kernel_rfl) (f66_c m _ (show ys.length=_ by omega) hbk2 (by omega)) ?_;rintro v h' ⟨n11,rfl,k,hk',ho'⟩;refine k_put ?_;refine d27 ?_;refine run_res (h++n11) rfl Tryz.func32 rfl weakSub ?_;refine hK _ _ ?_;have hyn:ys.length=(boatsOf b).length:=by omega
    rw [←hyn] at hso ho' hk'
    subst hk'
    refine ⟨n11,rfl,_,_,by rw [hz0],ho',(uniqT_asc hso _ (Nat.le_refl _)).1,fun z=>?_⟩
    rw [openL_yes hz0,mem_uniqT hso];exact (hsw.perm (by omega)).mem_iff
 ·refine DrawT.leaf [(0,.read),(1,.read),(7,.alloc),(2,.keep),(3,.keep),(4,.pure),(5,.pure),(6,.pure),(8,.free),(9,.pure)] (by kernel_rfl) ?_
  refine d64 ?_
  refine k_new rfl zq (fun q6=>k_hp (k_put ?_));refine k_calC rfl zq (by kernel_rfl) (Post:=fun v nw=> ∃q,nw=[⟨true,q,.cells [.int .i64 st].toArray 3 (0,0)⟩]∧v= .func (.func 129) #[] [.pointer (some ⟨q,0,none⟩)].toArray) (fun H' hH=>f77_c m H' st) ?_;rintro v nw ⟨qs,rfl,rfl⟩;refine k_hpA (k_put ?_);refine k_calC rfl zq (by kernel_rfl) (Post:=fun v nw=>Opened b (fbV b pp np cp pt nt ct pk nk ck) (openS b (if 0≤st∧st≤(np:Int)-1 then 0 else 6)) nw v) (fun H' hH=>f76_c m H' (rdp.keeps (sq hH)) hp (rdt.keeps (sq hH)) ht (rdk.keeps (sq hH)) hk callB129 (fun hbz K hK=>by simpa using f129_c m K hp ((rd_has (q:=qs)).keeps (hH.trans hK)))) ?_;rintro v nw ⟨x1,p1,n1,c1,p2,n2,c2,p3,n3,c3,z1,z2,z3,rfl,hz⟩;refine k_hpA (k_put ?_);refine d42 ?_
  refine k_stA rfl zq (by first|rfl|exact rws_length _) ?_;refine d88 ?_
  refine k_neqS rfl zq (fun hc=>?_) (fun hc=>?_)
  ·refine d134 ?_
   refine run_res (h) rfl Tryz.func32 rfl weakSub ?_;refine hK _ _ ?_;exact ⟨[],by simp,_,[],rfl,OwnS.nil,List.Pairwise.nil,by rw [openL_no (by assumption)];simp [breadthsAt]⟩
  ·refine d13 ?_;refine rs5 ?_
   have hz0:openS b (if 0≤st∧st≤(np:Int)-1 then 0 else 6)=0:=by first|assumption|omega
   obtain ⟨hz1,rfl,hzc,rdB⟩:=hz hz0
   injection hz1 with hz1
   injection hz1 with hz1
   injection hz1 with e1 hz1
   injection hz1 with e2 hz1
   injection hz1 with e3 hz1
   injection hz1 with e4 hz1
   injection e1 with _ e1
   injection e2 with u1 u2 u3
   injection e3 with u4 u5 u6
   injection e4 with u7 u8 u9
   subst e1 u1 u2 u3 u4 u5 u6 u7 u8 u9
   obtain ⟨hbz,hoz,hbne⟩:=openS_zero hz0
   have hv:=fbS_zero hbz
   have hpo:=hv.pts
   have hv5:=hpo.five
   have hbl:=boatsOf_le hpo
   have hpos:0<(boatsOf b).length:=List.length_pos_iff.2 hbne
   have hst1:0≤st∧st≤(np:Int)-1:=Classical.byContradiction fun e=>by rw [if_neg e] at hoz;omega
   obtain ⟨s,rfl⟩:=Int.eq_ofNat_of_zero_le hst1.1
   refine d107 ?_
   refine k_calC rfl zq (by kernel_rfl) (Post:=fun v nw=>OwnS 3 1 v (boatsOf b).length (ints (toldL (fun i=>((boatsOf b).getD i default).getD s 0) (boatsOf b).length)) nw) (fun H' hH=>f78_p m H' (RdS.keeps rdB (sq hH)) (by omega) callB79 (fun i hi K hK=>by simpa using f79_c m K (xs:=(boatsOf b).getD i default) (s:=s) (by omega) ((rd_has (q:=q3)).keeps (hH.trans hK)))) ?_;rintro v n8 ho;refine k_hpA (k_put ?_);rw [toldL_map (fun l=>l.getD s 0)] at ho
   refine aq rfl ?_;refine rs2 ?_
   obtain ⟨bk,c,junk,rfl,rfl,hbk1,hbk2⟩:=own_block ho hpos
   refine mq rfl ?_
   refine k_cal rfl zq (by kernel_rfl) (f65_c m _ (f123_all m) (by decide) hbk1 (by omega)) ?_;rintro v h' ⟨rfl,ys,rfl,hsw,hso⟩;refine k_put ?_;have hyl:=hsw.length
   refine k_nil ?_;refine d118 ?_;refine k_cal rfl zq (by kernel_rfl) (f66_c m _ (show ys.length=_ by omega) hbk2 (by omega)) ?_;rintro v h' ⟨n11,rfl,k,hk',ho'⟩;refine k_put ?_;refine d27 ?_;refine run_res (h++n11) rfl Tryz.func32 rfl weakSub ?_;refine hK _ _ ?_;have hyn:ys.length=(boatsOf b).length:=by omega
   rw [←hyn] at hso ho' hk'
   subst hk'
   refine ⟨n11,rfl,_,_,by rw [hz0],ho',(uniqT_asc hso _ (Nat.le_refl _)).1,fun z=>?_⟩
   rw [openL_yes hz0,mem_uniqT hso];exact (hsw.perm (by omega)).mem_iff
end Go.Proofs
namespace Go.Proofs
open Go.Lo
open Go.Conc (G)
set_option maxRecDepth 100000
set_option synthInstance.maxSize 100000
set_option synthInstance.maxHeartbeats 1000000
set_option maxHeartbeats 4000000
variable {B:Array Obj}
variable [LaidF B]
def minL (ys:List Int):Int:=(ys.drop 1).foldl min (ys.getD 0 0)
def maxL (ys:List Int):Int:=(ys.drop 1).foldl max (ys.getD 0 0)
theorem fold_take (op:Int→Int→Int) (ys:List Int) {k:Nat} (h0:0<k) (h:k<ys.length):((ys.take (k+1)).drop 1).foldl op ((ys.take (k+1)).getD 0 0)=op (((ys.take k).drop 1).foldl op ((ys.take k).getD 0 0)) (ys.getD k 0):=by
 have e: ∀k,0<k→(ys.take k).getD 0 0=ys.getD 0 0:=fun k hk=>by
  rw [List.getD_eq_getElem?_getD,List.getD_eq_getElem?_getD,List.getElem?_take,if_pos hk]
 rw [e (k+1) (by omega),e k h0,take_snoc' ys k h,List.drop_append_of_le_length (by rw [List.length_take];omega),List.foldl_append];rfl
theorem minL_one (ys:List Int):minL (ys.take 1)=ys.getD 0 0:=by cases ys<;>rfl
theorem maxL_one (ys:List Int):maxL (ys.take 1)=ys.getD 0 0:=by cases ys<;>rfl
theorem minL_take (ys:List Int) {k:Nat} (h0:0<k) (h:k<ys.length):minL (ys.take (k+1))=min (minL (ys.take k)) (ys.getD k 0):=fold_take min ys h0 h
theorem maxL_take (ys:List Int) {k:Nat} (h0:0<k) (h:k<ys.length):maxL (ys.take (k+1))=max (maxL (ys.take k)) (ys.getD k 0):=fold_take max ys h0 h
theorem f172_c (m:Md Tryz.prog B) (h:Hp) {p:Option Addr} {n c:Nat} {xs:List Int} (rd:RdS B h 1 (.slice p n c) n (ints xs)) (hn:n≤10000) (h1:1≤n):FnC m 172 #[.slice p n c] h fun v h'=>h'=h∧v= .int .i64 (minL xs):=by
 have hl:=rd.ilen
 have hn63:n<9000000000000000000:=by omega
 obtain ⟨rb,ro,rfl⟩:=rd.ptr (by omega)
 refine fn_enter Tryz.func172 rfl rfl (l:=(.slice (some ⟨rb,ro,none⟩) n c)::uu24) rfl ?_
 intro cf cs K hK
 refine d69 ?_;refine d44 ?_;refine k_len rfl zq ?_
 refine k_lssS rfl zq (fun hc=>?_) (fun hc=>?_)
 ·omega
 ·refine d13 ?_;refine rs4 ?_;refine d39 ?_
  refine k_ld rfl zq (rd.iat 0 (by omega) (by omega)) ?_;refine d12 ?_;refine d135 ?_
  refine run_loop (fun nn l h'=> ∃(k:Nat) (mo:Int),nn=n-k∧(k≤n)∧(1≤k)∧(mo=minL (xs.take k))∧(∃U:Nat→Value,l=((.slice (some ⟨rb,ro,none⟩) n c)::(U 1)::(U 2)::(.int .i64 mo)::(.int .i64 (k:Int))::vw20 U 5 []))∧h=h') _ ⟨1,_,rfl,by omega,by omega,by rw [minL_one],exU rfl,rfl⟩ ?_;rintro nn l h' ⟨k,mo,rfl,hk,hk1,hmo,⟨U,rfl⟩,rfl⟩ hnext;refine run_seq ?_;refine d120 ?_;refine k_lssS rfl zq (fun hc=>?_) (fun hc=>?_)
  ·refine d94 ?_;refine rr7 ?_;refine d3 ?_;refine d39 ?_
   refine k_ld rfl zq (rd.iat k (by omega) (by omega)) ?_;refine k_min rfl zq ?_;refine d45 ?_;refine rr3 ?_;refine d59 ?_;exact m.weak weakSub (hnext _ _ _ (by omega) ⟨k+1,_,rfl,by omega,by omega,by rw [minL_take _ (by omega) (by omega),←hmo],exU rfl,rfl⟩)
  ·refine d67 ?_;refine d95 ?_
   refine run_res (h) rfl Tryz.func172 rfl weakSub ?_;refine hK _ _ ?_;obtain rfl:k=n:=by omega
   exact ⟨rfl,by rw [hmo,List.take_of_length_le (by omega)]⟩
theorem f173_c (m:Md Tryz.prog B) (h:Hp) {p:Option Addr} {n c:Nat} {xs:List Int} (rd:RdS B h 1 (.slice p n c) n (ints xs)) (hn:n≤10000) (h1:1≤n):FnC m 173 #[.slice p n c] h fun v h'=>h'=h∧v= .int .i64 (maxL xs):=by
 have hl:=rd.ilen
 have hn63:n<9000000000000000000:=by omega
 obtain ⟨rb,ro,rfl⟩:=rd.ptr (by omega)
 refine fn_enter Tryz.func173 rfl rfl (l:=(.slice (some ⟨rb,ro,none⟩) n c)::uu24) rfl ?_
 intro cf cs K hK
 refine d69 ?_;refine d44 ?_;refine k_len rfl zq ?_
 refine k_lssS rfl zq (fun hc=>?_) (fun hc=>?_)
 ·omega
 ·refine d13 ?_;refine rs4 ?_;refine d39 ?_
  refine k_ld rfl zq (rd.iat 0 (by omega) (by omega)) ?_;refine d12 ?_;refine d135 ?_
  refine run_loop (fun nn l h'=> ∃(k:Nat) (mo:Int),nn=n-k∧(k≤n)∧(1≤k)∧(mo=maxL (xs.take k))∧(∃U:Nat→Value,l=((.slice (some ⟨rb,ro,none⟩) n c)::(U 1)::(U 2)::(.int .i64 mo)::(.int .i64 (k:Int))::vw20 U 5 []))∧h=h') _ ⟨1,_,rfl,by omega,by omega,by rw [maxL_one],exU rfl,rfl⟩ ?_;rintro nn l h' ⟨k,mo,rfl,hk,hk1,hmo,⟨U,rfl⟩,rfl⟩ hnext;refine run_seq ?_;refine d120 ?_;refine k_lssS rfl zq (fun hc=>?_) (fun hc=>?_)
  ·refine d94 ?_;refine rr7 ?_;refine d3 ?_;refine d39 ?_
   refine k_ld rfl zq (rd.iat k (by omega) (by omega)) ?_;refine k_max rfl zq ?_;refine d45 ?_;refine rr3 ?_;refine d59 ?_;exact m.weak weakSub (hnext _ _ _ (by omega) ⟨k+1,_,rfl,by omega,by omega,by rw [maxL_take _ (by omega) (by omega),←hmo],exU rfl,rfl⟩)
  ·refine d67 ?_;refine d95 ?_
   refine run_res (h) rfl Tryz.func173 rfl weakSub ?_;refine hK _ _ ?_;obtain rfl:k=n:=by omega
   exact ⟨rfl,by rw [hmo,List.take_of_length_le (by omega)]⟩
def spanT (s:Int) (ys:List Int):Value:= .tuple [.agg [.int .i64 (if s≠0 then 0 else minL ys),.int .i64 (if s≠0 then 0 else maxL ys)].toArray,.int .i64 s].toArray
theorem spanT_no {s:Int} {ys:List Int} (h:s≠0):spanT s ys= .tuple [.agg [.int .i64 0,.int .i64 0].toArray,.int .i64 s].toArray:=by rw [spanT,if_pos h,if_pos h]
theorem spanT_yes {s:Int} {ys:List Int} (h:s=0):spanT s ys= .tuple [.agg [.int .i64 (minL ys),.int .i64 (maxL ys)].toArray,.int .i64 0].toArray:=by rw [spanT,if_neg (fun e=>e h),if_neg (fun e=>e h),h]
def bestBy (lt:List Int→List Int→Bool) (ll:List (List Int)):List Int:=(ll.drop 1).foldl (fun o x=>if lt x o then x else o) (ll.getD 0 [])
theorem bestBy_one (lt:List Int→List Int→Bool) (ll:List (List Int)):bestBy lt (ll.take 1)=ll.getD 0 []:=by
 cases ll<;>rfl
theorem bestBy_succ (lt:List Int→List Int→Bool) (ll:List (List Int)) (k:Nat) (h0:0<k) (h:k<ll.length):bestBy lt (ll.take (k+1))=if lt (ll.getD k []) (bestBy lt (ll.take k)) then ll.getD k [] else bestBy lt (ll.take k):=by
 have e: ∀k,0<k→(ll.take k).getD 0 []=ll.getD 0 []:=fun k hk=>by
  rw [List.getD_eq_getElem?_getD,List.getD_eq_getElem?_getD,List.getElem?_take,if_pos hk]
 unfold bestBy
 rw [e (k+1) (by omega),e k h0,take_snocL ll k h,List.drop_append_of_le_length (by rw [List.length_take];omega),List.foldl_append];rfl
theorem bestBy_mem (lt:List Int→List Int→Bool) (ll:List (List Int)) (h:0<ll.length):bestBy lt ll∈ll:=by
 have gen: ∀(r:List (List Int)) (o:List Int),o∈ll→(∀x∈r,x∈ll)→r.foldl (fun o x=>if lt x o then x else o) o∈ll:=by
  intro r
  induction r with
  |nil=>exact fun o ho _=>ho
  |cons x r ih=>
   intro o ho hr
   refine ih _ ?_ fun y hy=>hr y (List.mem_cons_of_mem _ hy)
   show (if lt x o then x else o)∈ll
   split
   ·exact hr x List.mem_cons_self
   ·exact ho
 exact gen _ _ (mem_getDR.2 ⟨0,h,rfl⟩) fun x hx=>List.mem_of_mem_drop hx
def ltArea (b:Fb) (x o:List Int):Bool:=decide (areaI b.pts x<areaI b.pts o)
def leanL (b:Fb) (ll:List (List Int)):List Int:=bestBy (ltArea b) ll
theorem minL_app (x:Int) (ys:List Int):min x (minL (ys++[x]))=minL (x::ys):=by
 have gen: ∀(r:List Int) (a b:Int),r.foldl min (min a b)=min a (r.foldl min b):=by
  intro r
  induction r with
  |nil=>exact fun _ _=>rfl
  |cons c r ih=>intro a b;simp only [List.foldl_cons];rw [show min (min a b) c=min a (min b c) by omega,ih]
 cases ys with
 |nil=>simp [minL]
 |cons y r=>
  simp only [minL,List.cons_append,List.drop_one,List.tail_cons,List.foldl_append,List.foldl_cons,List.foldl_nil,List.getD_cons_zero]
  rw [gen];omega
theorem maxL_app (x:Int) (ys:List Int):max x (maxL (ys++[x]))=maxL (x::ys):=by
 have gen: ∀(r:List Int) (a b:Int),r.foldl max (max a b)=max a (r.foldl max b):=by
  intro r
  induction r with
  |nil=>exact fun _ _=>rfl
  |cons c r ih=>intro a b;simp only [List.foldl_cons];rw [show max (max a b) c=max a (max b c) by omega,ih]
 cases ys with
 |nil=>simp [maxL]
 |cons y r=>
  simp only [maxL,List.cons_append,List.drop_one,List.tail_cons,List.foldl_append,List.foldl_cons,List.foldl_nil,List.getD_cons_zero]
  rw [gen];omega
theorem weak3 {B:Array Obj} {h:Hp} {a b c:Chunk}:Weak B (h++[a,b,c]) ((h++[b])++[a]):=Weak.trans (Weak.sub (by simp:(h++[a,b]).Sublist (h++[a,b,c]))) (Weak.perm (by
 rw [List.append_assoc];exact List.Perm.append_left h (.swap _ _ [])))
theorem f131_c (m:Md Tryz.prog B) (h:Hp) {bk n c:Nat} {x:Int} {ys:List Int} {junk:List Value} (hy:ys.length=n) (hj:n+junk.length=c) (hn:n≤1000):FnC m 131 #[.int .i64 x,.slice (some ⟨bk,1,none⟩) n c] (h++[⟨true,bk,.cells ([Value.int .i64 x]++ints ys++junk).toArray 3 (0,0)⟩]) fun v h'=>h'=h∧v= .agg [.int .i64 (minL (x::ys)),.int .i64 (maxL (x::ys))].toArray:=by
 refine fn_enter Tryz.func131 rfl rfl (l:=(.int .i64 x)::(.slice (some ⟨bk,1,none⟩) n c)::uu18) rfl ?_
 intro cf cs K hK
 refine rs1 ?_;refine k_new rfl zq (fun q4=>k_hp (k_put ?_));refine d24 ?_
 refine run_region [(0,.free),(1,.free),(2,.free),(3,.free),(4,.free),(5,.free),(6,.free),(7,.free),(8,.free),(9,.free),(10,.free),(11,.free),(12,.free),(13,.free),(14,.free),(15,.free)] (by kernel_rfl) (by kernel_rfl) ?_;refine d3 ?_;refine mq rfl ?_
 refine k_bs kdq rfl zq (by decide) (by decide) rfl (fun q8=>k_hp (k_put ?_));refine k_appP (t':=3) (F:=h++[⟨true,q4,.cells [.int .i64 0,.int .i64 0].toArray 30 (0,0)⟩]) (pre:=[.int .i64 x]) (cs:=ints ys) (junk:=junk) (n:=n) rfl zq rfl rfl weak3 (by simp [hy]) (by simp [hy];omega) (by omega) kdq (by omega) (by omega) (fun v1 jk1 ex1 hj1 rd1=>k_put ?_);have rr1:=rd1
 rw [show ints ys++[Value.int .i64 x]=ints (ys++[x]) by simp] at rr1
 obtain ⟨p1,c1,rfl,_⟩:=id rr1
 refine k_calP (Post:=fun v=>v=_) rfl zq (by kernel_rfl) (fun H' hH=>f172_c m H' (rr1.keeps ((List.sublist_append_right _ _).trans hH)) (by omega) (by omega)) ?_;rintro v rfl;refine k_put ?_;refine k_min rfl zq ?_;refine d3 ?_;refine mq rfl ?_;refine k_bs kdq rfl zq (by decide) (by decide) rfl (fun q15=>k_hp (k_put ?_));refine k_appP (t':=3) (F:=h++[⟨true,q4,.cells [.int .i64 0,.int .i64 0].toArray 30 (0,0)⟩]) (pre:=[.int .i64 x]) (cs:=ints ys) (junk:=jk1) (n:=n) rfl zq rfl rfl weakSub (by simp [hy]) (by simp [hy];omega) (by omega) kdq (by omega) (by omega) (fun v2 jk2 ex2 hj2 rd2=>k_put ?_);have rr2:=rd2
 rw [show ints ys++[Value.int .i64 x]=ints (ys++[x]) by simp] at rr2
 obtain ⟨p2,c2,rfl,_⟩:=id rr2
 refine k_calP (Post:=fun v=>v=_) rfl zq (by kernel_rfl) (fun H' hH=>f173_c m H' (rr2.keeps ((List.sublist_append_right _ _).trans hH)) (by omega) (by omega)) ?_;rintro v rfl;refine k_put ?_;refine k_max rfl zq ?_;refine k_bld rfl zq ?_;refine d93 ?_;refine run_res (h) rfl Tryz.func131 rfl weakSub ?_;refine hK _ _ ?_;exact ⟨rfl,by rw [minL_app,maxL_app]⟩
theorem f166z_c (m:Md Tryz.prog B) (h:Hp) {pp:Option Addr} {x:Int}:FnC m 131 #[.int .i64 x,.slice pp 0 0] h fun v h'=>h'=h∧v= .agg [.int .i64 x,.int .i64 x].toArray:=by
 refine fn_enter Tryz.func131 rfl rfl (l:=(.int .i64 x)::(.slice pp 0 0)::uu18) rfl ?_
 intro cf cs K hK
 refine rs1 ?_;refine k_new rfl zq (fun q4=>k_hp (k_put ?_));refine d24 ?_
 refine run_region [(0,.free),(1,.free),(2,.free),(3,.free),(4,.free),(5,.free),(6,.free),(7,.free),(8,.free),(9,.free),(10,.free),(11,.free),(12,.free),(13,.free),(14,.free),(15,.free)] (by kernel_rfl) (by kernel_rfl) ?_;refine d3 ?_;refine mq rfl ?_
 refine k_bs kdq rfl zq (by decide) (by decide) rfl (fun q8=>k_hp (k_put ?_));refine k_app0 rfl zq (by first|rfl|simp) (by omega) kdq (by omega) (by omega) (fun v1 ch1 rd1=>k_put ?_);obtain ⟨p1,c1,rfl,_⟩:=id rd1
 have rr1:RdS B [ch1] 1 (.slice p1 (0+1) c1) (0+1) (ints [x]):=rd1
 refine k_calP (Post:=fun v=>v=_) rfl zq (by kernel_rfl) (fun H' hH=>f172_c m H' (rr1.keeps ((List.sublist_append_right _ _).trans hH)) (by omega) (by omega)) ?_;rintro v rfl;refine k_put ?_;refine k_min rfl zq ?_;refine d3 ?_;refine mq rfl ?_;refine k_bs kdq rfl zq (by decide) (by decide) rfl (fun q15=>k_hp (k_put ?_));refine k_app0 rfl zq (by first|rfl|simp) (by omega) kdq (by omega) (by omega) (fun v2 ch2 rd2=>k_put ?_);obtain ⟨p2,c2,rfl,_⟩:=id rd2
 have rr2:RdS B [ch2] 1 (.slice p2 (0+1) c2) (0+1) (ints [x]):=rd2
 refine k_calP (Post:=fun v=>v=_) rfl zq (by kernel_rfl) (fun H' hH=>f173_c m H' (rr2.keeps ((List.sublist_append_right _ _).trans hH)) (by omega) (by omega)) ?_;rintro v rfl;refine k_put ?_;refine k_max rfl zq ?_;refine k_bld rfl zq ?_;refine d93 ?_;refine run_res (h) rfl Tryz.func131 rfl weakSub ?_;refine hK _ _ ?_;exact ⟨rfl,by simp [minL,maxL]⟩
theorem weakSw {B:Array Obj} {h:Hp} {a b:Chunk}:Weak B (h++[a,b]) ((h++[b])++[a]):=Weak.perm (by
 rw [List.append_assoc];exact List.Perm.append_left h (.swap _ _ []))
theorem rd_has0 {B:Array Obj} {h:Hp} {q t:Nat} {rw:Bool} {f:Nat×Nat} {cs:List Value} {v:Value} [x:Has h q rw (.cells cs.toArray t f)] (e:cs[0]?=some v):Rd B h ⟨q,0,none⟩ v:=Rd.held x.mem (by rw [List.getElem?_toArray];exact e)
theorem f81_c (m:Md Tryz.prog B) (h:Hp) {bk n c:Nat} {x:Int} {ys:List Int} {junk:List Value} (hy:ys.length+1=n) (hj:n+junk.length=c) (hn:n≤1000):FnC m 81 #[.slice (some ⟨bk,0,none⟩) n c] (h++[⟨true,bk,.cells ([Value.int .i64 x]++ints ys++junk).toArray 3 (0,0)⟩]) fun v h'=>h'=h∧v= .agg [.int .i64 (minL (x::ys)),.int .i64 (maxL (x::ys))].toArray:=by
 refine fn_enter Tryz.func81 rfl rfl (l:=(.slice (some ⟨bk,0,none⟩) n c)::uu8) rfl ?_
 intro cf cs K hK
 refine rs1 ?_;refine k_new rfl zq (fun q2=>k_hp (k_put ?_));refine d24 ?_
 rcases Nat.eq_or_lt_of_le (show 1≤c by omega) with hc|hc
 ·obtain rfl:ys=[]:=List.length_eq_zero_iff.1 (by omega)
  obtain rfl:junk=[]:=List.length_eq_zero_iff.1 (by omega)
  refine run_draw [(0,.pure),(1,.pure),(3,.pure),(4,.pure),(2,.read),(5,.free),(6,.free)] (by kernel_rfl) (by kernel_rfl) (List.Sublist.refl _) ?_;refine d39 ?_;refine mq rfl ?_
  refine k_slFrom (a:=1) rfl zq rfl (by omega) ?_;rw [show n-1=0 by omega,show c-1=0 by omega];refine k_ld (v:= .int .i64 x) rfl zq (rd_has0 (q:=bk) rfl) ?_;refine k_cal rfl zq (by kernel_rfl) (f166z_c m _) ?_;rintro v h' ⟨rfl,rfl⟩;refine k_put ?_;refine d93 ?_;refine run_res (h) rfl Tryz.func81 rfl weakSub ?_;refine hK _ _ ?_;exact ⟨rfl,by simp [minL,maxL]⟩
 ·refine run_draw [(0,.pure),(1,.pure),(3,.pure),(4,.pure),(2,.read),(5,.free),(6,.free)] (by kernel_rfl) (by kernel_rfl) (List.Sublist.refl _) ?_;refine d39 ?_;refine mq rfl ?_
  refine k_slFrom (a:=1) rfl zq rfl (by omega) ?_;rw [show cutP 1 (some ⟨bk,0,none⟩) c 1=some ⟨bk,1,none⟩ by unfold cutP;rw [if_neg (by omega)];rfl];refine k_ld (v:= .int .i64 x) rfl zq (rd_has0 (q:=bk) rfl) ?_;refine k_cal rfl zq (by kernel_rfl) (CallF.weak weakSw (f131_c m _ (ys:=ys) (junk:=junk) (by omega) (by omega) (by omega))) ?_;rintro v h' ⟨rfl,rfl⟩;refine k_put ?_;refine d93 ?_;refine run_res (h) rfl Tryz.func81 rfl weakSub ?_;refine hK _ _ ?_;exact ⟨rfl,rfl⟩
theorem f81_b (m:Md Tryz.prog B) (h:Hp) {bk n c:Nat} {zs:List Int} {junk:List Value} (hz:0<n) (hy:zs.length=n) (hj:n+junk.length=c) (hn:n≤1000):FnC m 81 #[.slice (some ⟨bk,0,none⟩) n c] (h++[blkC bk zs junk]) fun v h'=>h'=h∧v= .agg [.int .i64 (minL zs),.int .i64 (maxL zs)].toArray:=by
 cases zs with
 |nil=>exact absurd hy (by simp;omega)
 |cons x ys=>exact f81_c m h hy hj hn
end Go.Proofs
namespace Go.Proofs
open Go.Lo
open Go.Conc (G)
set_option maxRecDepth 100000
set_option synthInstance.maxSize 100000
set_option synthInstance.maxHeartbeats 1000000
set_option maxHeartbeats 4000000
variable {b:Fb} {pp:Option Addr} {np cp:Nat} {pt:Option Addr} {nt ct:Nat} {pk:Option Addr} {nk ck:Nat}
variable {B:Array Obj}
variable [LaidF B]
theorem rdN_hasP {B:Array Obj} {h:Hp} {q t:Nat} {rw:Bool} {f:Nat×Nat} {cs vs:List Value} [x:Has h q rw (.cells cs.toArray t f)] (e:cs.take vs.length=vs):RdN B h q 0 vs:=fun j hj=>Rd.held x.mem (by
 have hj':cs[j]?=vs[j]?:=by rw [←e,List.getElem?_take,if_pos hj]
 rw [Nat.zero_add,List.getElem?_toArray,hj',List.getD_eq_getElem?_getD,List.getElem?_eq_getElem hj];rfl)
theorem callB130:callB Tryz.prog 130=true:=by kernel_rfl
theorem callB82:callB Tryz.prog 82=true:=by kernel_rfl
theorem callB86:callB Tryz.prog 86=true:=by kernel_rfl
theorem callB85:callB Tryz.prog 85=true:=by kernel_rfl
theorem callB72:callB Tryz.prog 72=true:=by kernel_rfl
theorem f33_c (m:Md Tryz.prog B) (h:Hp) (rdp:Rp B h b pp np cp) (hp:np≤1000) (rdt:Rt B h b pt nt ct) (ht:nt≤1000) (rdk:Rk B h b pk nk ck) (hk:nk≤1000) (x:Int):FnC m 33 #[fbV b pp np cp pt nt ct pk nk ck,.int .i64 x] h fun v h'=>h'=h∧v=spanT (openS b (if (b.pts.getD 0 default).h≤x∧x≤(b.pts.getD (np-1) default).h then 0 else 1)) ((boatsOf b).map fun l=>atI b.pts l x):=by
 have hml:=rdp.elen (by decide)
 refine fn_enter Tryz.func33 rfl rfl (l:=(fbV b pp np cp pt nt ct pk nk ck)::(.int .i64 x)::uu22) rfl ?_
 intro cf cs K hK
 refine rs4 ?_;refine k_box rfl zq (fun q2=>k_hp (k_put ?_));refine k_box rfl zq (fun q3=>k_hp (k_put ?_));refine k_new rfl zq (fun q4=>k_hp (k_put ?_));refine d12 ?_
 refine run_drawT [0,1,2,3,4,5,6,7,8,9] (by kernel_rfl) (by kernel_rfl) (List.Sublist.refl _) ?_;refine DrawT.split 2 7 (by decide) ?_ ?_
 ·refine DrawT.split 3 7 (by decide) ?_ ?_
  ·refine DrawT.leaf [(0,.read),(1,.read),(2,.keep),(3,.keep),(4,.pure),(5,.pure),(6,.pure),(7,.alloc),(8,.free),(9,.pure)] (by kernel_rfl) ?_
   refine d64 ?_
   refine k_calC rfl zq (by kernel_rfl) (Post:=fun v nw=> ∃q q',nw=[⟨true,q,.cells [.int .i64 x].toArray 3 (0,0)⟩,⟨true,q',.cells [.int .i64 0].toArray 3 (0,0)⟩]∧v= .func (.func 130) #[] [.pointer (some ⟨q,0,none⟩),.pointer (some ⟨q',0,none⟩)].toArray) (fun H' hH=>f80_c m H' x 0) ?_;rintro v nw ⟨qs,qt,rfl,rfl⟩;refine k_hpA (k_put ?_);refine k_calC rfl zq (by kernel_rfl) (Post:=fun v nw=>Opened b (fbV b pp np cp pt nt ct pk nk ck) (openS b (if (b.pts.getD 0 default).h≤x∧x≤(b.pts.getD (np-1) default).h then 0 else 1)) nw v) (fun H' hH=>f76_c m H' (rdp.keeps (sq hH)) hp (rdt.keeps (sq hH)) ht (rdk.keeps (sq hH)) hk callB130 (fun hbz K hK=>by simpa using f130_c m K (rdp.keeps ((sq hH).trans hK)) hp (by have:=(fbS_zero hbz).pts.two;omega) ((rd_has (q:=qs)).keeps (hH.trans hK)) ((rd_has (q:=qt)).keeps (hH.trans hK)))) ?_;rintro v nw ⟨x1,p1,n1,c1,p2,n2,c2,p3,n3,c3,z1,z2,z3,rfl,hz⟩;refine k_hpA (k_put ?_);refine d42 ?_
   refine k_new rfl zq (fun q6=>k_hp (k_put ?_));refine k_stA rfl zq (by first|rfl|exact rws_length _) ?_;refine d88 ?_
   refine k_neqS rfl zq (fun hc=>?_) (fun hc=>?_)
   ·refine d7 ?_;refine rs4 ?_;refine d113 ?_;refine d72 ?_
    refine run_res (h) rfl Tryz.func33 rfl weakSub ?_;refine hK _ _ ?_;exact ⟨rfl,by rw [spanT_no (by assumption)]⟩
   ·refine d13 ?_;refine rs7 ?_
    have hz0:openS b (if (b.pts.getD 0 default).h≤x∧x≤(b.pts.getD (np-1) default).h then 0 else 1)=0:=by first|assumption|omega
    obtain ⟨hz1,rfl,hzc,rdB⟩:=hz hz0
    injection hz1 with hz1
    injection hz1 with hz1
    injection hz1 with e1 hz1
    injection hz1 with e2 hz1
    injection hz1 with e3 hz1
    injection hz1 with e4 hz1
    injection e1 with _ e1
    injection e2 with u1 u2 u3
    injection e3 with u4 u5 u6
    injection e4 with u7 u8 u9
    subst e1 u1 u2 u3 u4 u5 u6 u7 u8 u9
    obtain ⟨hbz,hoz,hbne⟩:=openS_zero hz0
    have hv:=fbS_zero hbz
    have hpo:=hv.pts
    have hv5:=hpo.five
    have hbl:=boatsOf_le hpo
    have hpos:0<(boatsOf b).length:=List.length_pos_iff.2 hbne
    have hx:(b.pts.getD 0 default).h≤x∧x≤(b.pts.getD (np-1) default).h:=Classical.byContradiction fun e=>by rw [if_neg e] at hoz;omega
    refine d107 ?_
    refine k_calC rfl zq (by kernel_rfl) (Post:=fun v nw=>OwnS 3 1 v (boatsOf b).length (ints (toldL (fun i=>atI b.pts ((boatsOf b).getD i default) x) (boatsOf b).length)) nw) (fun H' hH=>f78_p m H' (RdS.keeps rdB (sq hH)) (by omega) callB82 (fun i hi K hK=>by
     have hmi:(boatsOf b).getD i default∈boatsOf b:=mem_getDR.2 ⟨i,hi,rfl⟩
     simpa using f82_c m K (rdp.keeps ((sq hH).trans hK)) hp ((mem_boats.1 hmi).1.trans hml) hpo (boat_sml hpo hmi) ((rdN_hasP (q:=q6) rfl).keeps (hH.trans hK)) ((rd_has (q:=q3)).keeps (hH.trans hK)) hx)) ?_
    rintro v n8 ho;refine k_hpA (k_put ?_);rw [toldL_map (fun l=>atI b.pts l x)] at ho
    obtain ⟨bk,c,junk,rfl,rfl,hbk1,hbk2⟩:=own_block ho hpos
    refine k_cal rfl zq (by kernel_rfl) (f81_b m _ hpos hbk1 hbk2 (by omega)) ?_;rintro v h' ⟨rfl,rfl⟩;refine k_put ?_;refine d72 ?_;refine run_res (h) rfl Tryz.func33 rfl weakSub ?_;refine hK _ _ ?_;exact ⟨rfl,by rw [spanT_yes hz0]⟩
  ·refine DrawT.leaf [(0,.read),(1,.read),(2,.keep),(7,.alloc),(3,.keep),(4,.pure),(5,.pure),(6,.pure),(8,.free),(9,.pure)] (by kernel_rfl) ?_
   refine d64 ?_
   refine k_calC rfl zq (by kernel_rfl) (Post:=fun v nw=> ∃q q',nw=[⟨true,q,.cells [.int .i64 x].toArray 3 (0,0)⟩,⟨true,q',.cells [.int .i64 0].toArray 3 (0,0)⟩]∧v= .func (.func 130) #[] [.pointer (some ⟨q,0,none⟩),.pointer (some ⟨q',0,none⟩)].toArray) (fun H' hH=>f80_c m H' x 0) ?_;rintro v nw ⟨qs,qt,rfl,rfl⟩;refine k_hpA (k_put ?_);refine k_new rfl zq (fun q6=>k_hp (k_put ?_));refine k_calC rfl zq (by kernel_rfl) (Post:=fun v nw=>Opened b (fbV b pp np cp pt nt ct pk nk ck) (openS b (if (b.pts.getD 0 default).h≤x∧x≤(b.pts.getD (np-1) default).h then 0 else 1)) nw v) (fun H' hH=>f76_c m H' (rdp.keeps (sq hH)) hp (rdt.keeps (sq hH)) ht (rdk.keeps (sq hH)) hk callB130 (fun hbz K hK=>by simpa using f130_c m K (rdp.keeps ((sq hH).trans hK)) hp (by have:=(fbS_zero hbz).pts.two;omega) ((rd_has (q:=qs)).keeps (hH.trans hK)) ((rd_has (q:=qt)).keeps (hH.trans hK)))) ?_;rintro v nw ⟨x1,p1,n1,c1,p2,n2,c2,p3,n3,c3,z1,z2,z3,rfl,hz⟩;refine k_hpA (k_put ?_);refine d42 ?_
   refine k_stA rfl zq (by first|rfl|exact rws_length _) ?_;refine d88 ?_
   refine k_neqS rfl zq (fun hc=>?_) (fun hc=>?_)
   ·refine d7 ?_;refine rs4 ?_;refine d113 ?_;refine d72 ?_
    refine run_res (h) rfl Tryz.func33 rfl weakSub ?_;refine hK _ _ ?_;exact ⟨rfl,by rw [spanT_no (by assumption)]⟩
   ·refine d13 ?_;refine rs7 ?_
    have hz0:openS b (if (b.pts.getD 0 default).h≤x∧x≤(b.pts.getD (np-1) default).h then 0 else 1)=0:=by first|assumption|omega
    obtain ⟨hz1,rfl,hzc,rdB⟩:=hz hz0
    injection hz1 with hz1
    injection hz1 with hz1
    injection hz1 with e1 hz1
    injection hz1 with e2 hz1
    injection hz1 with e3 hz1
    injection hz1 with e4 hz1
    injection e1 with _ e1
    injection e2 with u1 u2 u3
    injection e3 with u4 u5 u6
    injection e4 with u7 u8 u9
    subst e1 u1 u2 u3 u4 u5 u6 u7 u8 u9
    obtain ⟨hbz,hoz,hbne⟩:=openS_zero hz0
    have hv:=fbS_zero hbz
    have hpo:=hv.pts
    have hv5:=hpo.five
    have hbl:=boatsOf_le hpo
    have hpos:0<(boatsOf b).length:=List.length_pos_iff.2 hbne
    have hx:(b.pts.getD 0 default).h≤x∧x≤(b.pts.getD (np-1) default).h:=Classical.byContradiction fun e=>by rw [if_neg e] at hoz;omega
    refine d107 ?_
    refine k_calC rfl zq (by kernel_rfl) (Post:=fun v nw=>OwnS 3 1 v (boatsOf b).length (ints (toldL (fun i=>atI b.pts ((boatsOf b).getD i default) x) (boatsOf b).length)) nw) (fun H' hH=>f78_p m H' (RdS.keeps rdB (sq hH)) (by omega) callB82 (fun i hi K hK=>by
     have hmi:(boatsOf b).getD i default∈boatsOf b:=mem_getDR.2 ⟨i,hi,rfl⟩
     simpa using f82_c m K (rdp.keeps ((sq hH).trans hK)) hp ((mem_boats.1 hmi).1.trans hml) hpo (boat_sml hpo hmi) ((rdN_hasP (q:=q6) rfl).keeps (hH.trans hK)) ((rd_has (q:=q3)).keeps (hH.trans hK)) hx)) ?_
    rintro v n8 ho;refine k_hpA (k_put ?_);rw [toldL_map (fun l=>atI b.pts l x)] at ho
    obtain ⟨bk,c,junk,rfl,rfl,hbk1,hbk2⟩:=own_block ho hpos
    refine k_cal rfl zq (by kernel_rfl) (f81_b m _ hpos hbk1 hbk2 (by omega)) ?_;rintro v h' ⟨rfl,rfl⟩;refine k_put ?_;refine d72 ?_;refine run_res (h) rfl Tryz.func33 rfl weakSub ?_;refine hK _ _ ?_;exact ⟨rfl,by rw [spanT_yes hz0]⟩
 ·refine DrawT.leaf [(0,.read),(1,.read),(7,.alloc),(2,.keep),(3,.keep),(4,.pure),(5,.pure),(6,.pure),(8,.free),(9,.pure)] (by kernel_rfl) ?_
  refine d64 ?_
  refine k_new rfl zq (fun q6=>k_hp (k_put ?_));refine k_calC rfl zq (by kernel_rfl) (Post:=fun v nw=> ∃q q',nw=[⟨true,q,.cells [.int .i64 x].toArray 3 (0,0)⟩,⟨true,q',.cells [.int .i64 0].toArray 3 (0,0)⟩]∧v= .func (.func 130) #[] [.pointer (some ⟨q,0,none⟩),.pointer (some ⟨q',0,none⟩)].toArray) (fun H' hH=>f80_c m H' x 0) ?_;rintro v nw ⟨qs,qt,rfl,rfl⟩;refine k_hpA (k_put ?_);refine k_calC rfl zq (by kernel_rfl) (Post:=fun v nw=>Opened b (fbV b pp np cp pt nt ct pk nk ck) (openS b (if (b.pts.getD 0 default).h≤x∧x≤(b.pts.getD (np-1) default).h then 0 else 1)) nw v) (fun H' hH=>f76_c m H' (rdp.keeps (sq hH)) hp (rdt.keeps (sq hH)) ht (rdk.keeps (sq hH)) hk callB130 (fun hbz K hK=>by simpa using f130_c m K (rdp.keeps ((sq hH).trans hK)) hp (by have:=(fbS_zero hbz).pts.two;omega) ((rd_has (q:=qs)).keeps (hH.trans hK)) ((rd_has (q:=qt)).keeps (hH.trans hK)))) ?_;rintro v nw ⟨x1,p1,n1,c1,p2,n2,c2,p3,n3,c3,z1,z2,z3,rfl,hz⟩;refine k_hpA (k_put ?_);refine d42 ?_
  refine k_stA rfl zq (by first|rfl|exact rws_length _) ?_;refine d88 ?_
  refine k_neqS rfl zq (fun hc=>?_) (fun hc=>?_)
  ·refine d7 ?_;refine rs4 ?_;refine d113 ?_;refine d72 ?_
   refine run_res (h) rfl Tryz.func33 rfl weakSub ?_;refine hK _ _ ?_;exact ⟨rfl,by rw [spanT_no (by assumption)]⟩
  ·refine d13 ?_;refine rs7 ?_
   have hz0:openS b (if (b.pts.getD 0 default).h≤x∧x≤(b.pts.getD (np-1) default).h then 0 else 1)=0:=by first|assumption|omega
   obtain ⟨hz1,rfl,hzc,rdB⟩:=hz hz0
   injection hz1 with hz1
   injection hz1 with hz1
   injection hz1 with e1 hz1
   injection hz1 with e2 hz1
   injection hz1 with e3 hz1
   injection hz1 with e4 hz1
   injection e1 with _ e1
   injection e2 with u1 u2 u3
   injection e3 with u4 u5 u6
   injection e4 with u7 u8 u9
   subst e1 u1 u2 u3 u4 u5 u6 u7 u8 u9
   obtain ⟨hbz,hoz,hbne⟩:=openS_zero hz0
   have hv:=fbS_zero hbz
   have hpo:=hv.pts
   have hv5:=hpo.five
   have hbl:=boatsOf_le hpo
   have hpos:0<(boatsOf b).length:=List.length_pos_iff.2 hbne
   have hx:(b.pts.getD 0 default).h≤x∧x≤(b.pts.getD (np-1) default).h:=Classical.byContradiction fun e=>by rw [if_neg e] at hoz;omega
   refine d107 ?_
   refine k_calC rfl zq (by kernel_rfl) (Post:=fun v nw=>OwnS 3 1 v (boatsOf b).length (ints (toldL (fun i=>atI b.pts ((boatsOf b).getD i default) x) (boatsOf b).length)) nw) (fun H' hH=>f78_p m H' (RdS.keeps rdB (sq hH)) (by omega) callB82 (fun i hi K hK=>by
    have hmi:(boatsOf b).getD i default∈boatsOf b:=mem_getDR.2 ⟨i,hi,rfl⟩
    simpa using f82_c m K (rdp.keeps ((sq hH).trans hK)) hp ((mem_boats.1 hmi).1.trans hml) hpo (boat_sml hpo hmi) ((rdN_hasP (q:=q6) rfl).keeps (hH.trans hK)) ((rd_has (q:=q3)).keeps (hH.trans hK)) hx)) ?_
   rintro v n8 ho;refine k_hpA (k_put ?_);rw [toldL_map (fun l=>atI b.pts l x)] at ho
   obtain ⟨bk,c,junk,rfl,rfl,hbk1,hbk2⟩:=own_block ho hpos
   refine k_cal rfl zq (by kernel_rfl) (f81_b m _ hpos hbk1 hbk2 (by omega)) ?_;rintro v h' ⟨rfl,rfl⟩;refine k_put ?_;refine d72 ?_;refine run_res (h) rfl Tryz.func33 rfl weakSub ?_;refine hK _ _ ?_;exact ⟨rfl,by rw [spanT_yes hz0]⟩
theorem f35_c (m:Md Tryz.prog B) (h:Hp) (rdp:Rp B h b pp np cp) (hp:np≤1000) (rdt:Rt B h b pt nt ct) (ht:nt≤1000) (rdk:Rk B h b pk nk ck) (hk:nk≤1000):FnC m 35 #[fbV b pp np cp pt nt ct pk nk ck] h fun v h'=>h'=h∧v=spanT (openS b 0) ((boatsOf b).map fun l=>areaI b.pts l):=by
 have hml:=rdp.elen (by decide)
 refine fn_enter Tryz.func35 rfl rfl (l:=(fbV b pp np cp pt nt ct pk nk ck)::uu21) rfl ?_
 intro cf cs K hK
 refine rs3 ?_;refine k_box rfl zq (fun q2=>k_hp (k_put ?_));refine k_new rfl zq (fun q4=>k_hp (k_put ?_));refine aq rfl ?_;refine d150 ?_
 refine k_calC rfl zq (by kernel_rfl) (Post:=fun v nw=>Opened b (fbV b pp np cp pt nt ct pk nk ck) (openS b (0:Int)) nw v) (fun H' hH=>f76_c m H' (rdp.keeps (sq hH)) hp (rdt.keeps (sq hH)) ht (rdk.keeps (sq hH)) hk callB85 (fun hbz K hK=>by simpa using f85_c m K (b:=b))) ?_;rintro v nw ⟨x1,p1,n1,c1,p2,n2,c2,p3,n3,c3,z1,z2,z3,rfl,hz⟩;refine k_hpA (k_put ?_);refine d42 ?_
 refine k_new rfl zq (fun q6=>k_hp (k_put ?_));refine k_stA rfl zq (by first|rfl|exact rws_length _) ?_;refine d88 ?_
 refine k_neqS rfl zq (fun hc=>?_) (fun hc=>?_)
 ·refine d7 ?_;refine rs4 ?_;refine d113 ?_;refine d72 ?_
  refine run_res (h) rfl Tryz.func35 rfl weakSub ?_;refine hK _ _ ?_;exact ⟨rfl,by rw [spanT_no (by assumption)]⟩
 ·refine d13 ?_;refine rs9 ?_
  have hz0:openS b (0:Int)=0:=by first|assumption|omega
  obtain ⟨hz1,rfl,hzc,rdB⟩:=hz hz0
  injection hz1 with hz1
  injection hz1 with hz1
  injection hz1 with e1 hz1
  injection hz1 with e2 hz1
  injection hz1 with e3 hz1
  injection hz1 with e4 hz1
  injection e1 with _ e1
  injection e2 with u1 u2 u3
  injection e3 with u4 u5 u6
  injection e4 with u7 u8 u9
  subst e1 u1 u2 u3 u4 u5 u6 u7 u8 u9
  obtain ⟨hbz,hoz,hbne⟩:=openS_zero hz0
  have hv:=fbS_zero hbz
  have hpo:=hv.pts
  have hv5:=hpo.five
  have hbl:=boatsOf_le hpo
  have hpos:0<(boatsOf b).length:=List.length_pos_iff.2 hbne
  refine d2 ?_;refine d60 ?_;refine k_fun rfl zq ?_
  refine k_calC rfl zq (by kernel_rfl) (Post:=fun v nw=>OwnS 3 1 v (boatsOf b).length (ints (toldL (fun i=>areaI b.pts ((boatsOf b).getD i default)) (boatsOf b).length)) nw) (fun H' hH=>f78_p m H' (RdS.keeps rdB (sq hH)) (by omega) callB72 (fun i hi K hK=>by
   have hmi:(boatsOf b).getD i default∈boatsOf b:=mem_getDR.2 ⟨i,hi,rfl⟩
   simpa using f72_c m K (rdp.keeps ((sq hH).trans hK)) hp hpo (boat_sml hpo hmi))) ?_
  rintro v n8 ho;refine k_hpA (k_put ?_);rw [toldL_map (fun l=>areaI b.pts l)] at ho
  obtain ⟨bk,c,junk,rfl,rfl,hbk1,hbk2⟩:=own_block ho hpos
  refine k_cal rfl zq (by kernel_rfl) (f81_b m _ hpos hbk1 hbk2 (by omega)) ?_;rintro v h' ⟨rfl,rfl⟩;refine k_put ?_;refine d72 ?_;refine run_res (h) rfl Tryz.func35 rfl weakSub ?_;refine hK _ _ ?_;exact ⟨rfl,by rw [spanT_yes hz0]⟩
def clearsI (b:Fb) (x y:Int):Int:=if maxL ((boatsOf b).map fun l=>atI b.pts l x)<y then 2 else if y≤minL ((boatsOf b).map fun l=>atI b.pts l x) then 1 else 0
theorem clearsI_no {b:Fb} {x y:Int} (h:maxL ((boatsOf b).map fun l=>atI b.pts l x)<y):clearsI b x y=2:=by rw [clearsI,if_pos h]
theorem clearsI_yes {b:Fb} {x y:Int} (h: ¬maxL ((boatsOf b).map fun l=>atI b.pts l x)<y) (h2:minL ((boatsOf b).map fun l=>atI b.pts l x)≥y):clearsI b x y=1:=by rw [clearsI,if_neg h,if_pos h2]
theorem clearsI_open {b:Fb} {x y:Int} (h: ¬maxL ((boatsOf b).map fun l=>atI b.pts l x)<y) (h2: ¬minL ((boatsOf b).map fun l=>atI b.pts l x)≥y):clearsI b x y=0:=by rw [clearsI,if_neg h,if_neg h2]
theorem f36_c (m:Md Tryz.prog B) (h:Hp) (rdp:Rp B h b pp np cp) (hp:np≤1000) (rdt:Rt B h b pt nt ct) (ht:nt≤1000) (rdk:Rk B h b pk nk ck) (hk:nk≤1000) (x y:Int):FnC m 36 #[fbV b pp np cp pt nt ct pk nk ck,.int .i64 x,.int .i64 y] h fun v h'=>h'=h∧v=orNo (openS b (if ((b.pts.getD 0 default).h≤x∧x≤(b.pts.getD (np-1) default).h)∧0≤y∧y≤959 then 0 else 1)) (clearsI b x y):=by
 have hml:=rdp.elen (by decide)
 refine fn_enter Tryz.func36 rfl rfl (l:=(fbV b pp np cp pt nt ct pk nk ck)::(.int .i64 x)::(.int .i64 y)::uu34) rfl ?_
 intro cf cs K hK
 refine rs4 ?_;refine k_box rfl zq (fun q2=>k_hp (k_put ?_));refine k_box rfl zq (fun q3=>k_hp (k_put ?_));refine d99 ?_
 refine run_drawT [0,1,2,3,4,5,6,7,8,9,10] (by kernel_rfl) (by kernel_rfl) (List.Sublist.refl _) ?_;refine DrawT.split 3 8 (by decide) ?_ ?_
 ·refine DrawT.split 4 8 (by decide) ?_ ?_
  ·refine DrawT.leaf [(2,.pure),(0,.read),(1,.read),(3,.keep),(4,.keep),(5,.pure),(6,.pure),(7,.pure),(8,.alloc),(9,.free),(10,.pure)] (by kernel_rfl) ?_
   refine mq rfl ?_;refine d64 ?_
   refine k_calC rfl zq (by kernel_rfl) (Post:=fun v nw=> ∃q q',nw=[⟨true,q,.cells [.int .i64 x].toArray 3 (0,0)⟩,⟨true,q',.cells [.int .i64 y].toArray 3 (0,0)⟩]∧v= .func (.func 130) #[] [.pointer (some ⟨q,0,none⟩),.pointer (some ⟨q',0,none⟩)].toArray) (fun H' hH=>f80_c m H' x y) ?_;rintro v nw ⟨qs,qt,rfl,rfl⟩;refine k_hpA (k_put ?_);refine k_calC rfl zq (by kernel_rfl) (Post:=fun v nw=>Opened b (fbV b pp np cp pt nt ct pk nk ck) (openS b (if ((b.pts.getD 0 default).h≤x∧x≤(b.pts.getD (np-1) default).h)∧0≤y∧y≤959 then 0 else 1)) nw v) (fun H' hH=>f76_c m H' (rdp.keeps (sq hH)) hp (rdt.keeps (sq hH)) ht (rdk.keeps (sq hH)) hk callB130 (fun hbz K hK=>by simpa using f130_c m K (rdp.keeps ((sq hH).trans hK)) hp (by have:=(fbS_zero hbz).pts.two;omega) ((rd_has (q:=qs)).keeps (hH.trans hK)) ((rd_has (q:=qt)).keeps (hH.trans hK)))) ?_;rintro v nw ⟨x1,p1,n1,c1,p2,n2,c2,p3,n3,c3,z1,z2,z3,rfl,hz⟩;refine k_hpA (k_put ?_);refine d42 ?_
   refine k_new rfl zq (fun q6=>k_hp (k_put ?_));refine k_stA rfl zq (by first|rfl|exact rws_length _) ?_;refine d88 ?_
   refine k_neqS rfl zq (fun hc=>?_) (fun hc=>?_)
   ·refine d134 ?_
    refine run_res (h) rfl Tryz.func36 rfl weakSub ?_;refine hK _ _ ?_;exact ⟨rfl,by rw [orNo_no (by assumption)]⟩
   ·refine d38 ?_;refine rs7 ?_
    have hz0:openS b (if ((b.pts.getD 0 default).h≤x∧x≤(b.pts.getD (np-1) default).h)∧0≤y∧y≤959 then 0 else 1)=0:=by first|assumption|omega
    obtain ⟨hz1,rfl,hzc,rdB⟩:=hz hz0
    injection hz1 with hz1
    injection hz1 with hz1
    injection hz1 with e1 hz1
    injection hz1 with e2 hz1
    injection hz1 with e3 hz1
    injection hz1 with e4 hz1
    injection e1 with _ e1
    injection e2 with u1 u2 u3
    injection e3 with u4 u5 u6
    injection e4 with u7 u8 u9
    subst e1 u1 u2 u3 u4 u5 u6 u7 u8 u9
    obtain ⟨hbz,hoz,hbne⟩:=openS_zero hz0
    have hv:=fbS_zero hbz
    have hpo:=hv.pts
    have hv5:=hpo.five
    have hbl:=boatsOf_le hpo
    have hpos:0<(boatsOf b).length:=List.length_pos_iff.2 hbne
    have hxy:((b.pts.getD 0 default).h≤x∧x≤(b.pts.getD (np-1) default).h)∧0≤y∧y≤959:=Classical.byContradiction fun e=>by rw [if_neg e] at hoz;omega
    obtain ⟨hx,_⟩:=hxy
    refine d107 ?_
    refine k_calC rfl zq (by kernel_rfl) (Post:=fun v nw=>OwnS 3 1 v (boatsOf b).length (ints (toldL (fun i=>atI b.pts ((boatsOf b).getD i default) x) (boatsOf b).length)) nw) (fun H' hH=>f78_p m H' (RdS.keeps rdB (sq hH)) (by omega) callB86 (fun i hi K hK=>by
     have hmi:(boatsOf b).getD i default∈boatsOf b:=mem_getDR.2 ⟨i,hi,rfl⟩
     simpa using f86_c m K (rdp.keeps ((sq hH).trans hK)) hp ((mem_boats.1 hmi).1.trans hml) hpo (boat_sml hpo hmi) ((rdN_hasP (q:=q6) rfl).keeps (hH.trans hK)) ((rd_has (q:=q3)).keeps (hH.trans hK)) hx)) ?_
    rintro v n8 ho;refine k_hpA (k_put ?_);rw [toldL_map (fun l=>atI b.pts l x)] at ho
    obtain ⟨bk,c,junk,rfl,rfl,hbk1,hbk2⟩:=own_block ho hpos
    refine k_cal rfl zq (by kernel_rfl) (f81_b m _ hpos hbk1 hbk2 (by omega)) ?_;rintro v h' ⟨rfl,rfl⟩;refine k_put ?_;refine k_new rfl zq (fun q10=>k_hp (k_put ?_));refine d48 ?_;refine run_block ?_;refine rs5 ?_;refine d2 ?_;refine mq rfl ?_
    refine k_lssS rfl zq (fun hc=>?_) (fun hc=>?_)
    ·refine d56 ?_;refine d147 ?_
     refine run_res (h) rfl Tryz.func36 rfl weakSub ?_;refine hK _ _ ?_;exact ⟨rfl,by rw [orNo_yes hz0,clearsI_no (b:=b) (x:=x) (y:=y) (by omega)]⟩
    ·refine d90 ?_;refine rs5 ?_;refine d2 ?_;refine mq rfl ?_
     refine k_geqS rfl zq (fun hc=>?_) (fun hc=>?_)
     ·refine d56 ?_;refine d147 ?_
      refine run_res (h) rfl Tryz.func36 rfl weakSub ?_;refine hK _ _ ?_;exact ⟨rfl,by rw [orNo_yes hz0,clearsI_yes (b:=b) (x:=x) (y:=y) (by omega) (by omega)]⟩
     ·refine aq rfl ?_;refine d143 ?_;refine d147 ?_
      refine run_res (h) rfl Tryz.func36 rfl weakSub ?_;refine hK _ _ ?_;exact ⟨rfl,by rw [orNo_yes hz0,clearsI_open (b:=b) (x:=x) (y:=y) (by omega) (by omega)]⟩
  ·refine DrawT.leaf [(2,.pure),(0,.read),(1,.read),(3,.keep),(8,.alloc),(4,.keep),(5,.pure),(6,.pure),(7,.pure),(9,.free),(10,.pure)] (by kernel_rfl) ?_
   refine mq rfl ?_;refine d64 ?_
   refine k_calC rfl zq (by kernel_rfl) (Post:=fun v nw=> ∃q q',nw=[⟨true,q,.cells [.int .i64 x].toArray 3 (0,0)⟩,⟨true,q',.cells [.int .i64 y].toArray 3 (0,0)⟩]∧v= .func (.func 130) #[] [.pointer (some ⟨q,0,none⟩),.pointer (some ⟨q',0,none⟩)].toArray) (fun H' hH=>f80_c m H' x y) ?_;rintro v nw ⟨qs,qt,rfl,rfl⟩;refine k_hpA (k_put ?_);refine k_new rfl zq (fun q6=>k_hp (k_put ?_));refine k_calC rfl zq (by kernel_rfl) (Post:=fun v nw=>Opened b (fbV b pp np cp pt nt ct pk nk ck) (openS b (if ((b.pts.getD 0 default).h≤x∧x≤(b.pts.getD (np-1) default).h)∧0≤y∧y≤959 then 0 else 1)) nw v) (fun H' hH=>f76_c m H' (rdp.keeps (sq hH)) hp (rdt.keeps (sq hH)) ht (rdk.keeps (sq hH)) hk callB130 (fun hbz K hK=>by simpa using f130_c m K (rdp.keeps ((sq hH).trans hK)) hp (by have:=(fbS_zero hbz).pts.two;omega) ((rd_has (q:=qs)).keeps (hH.trans hK)) ((rd_has (q:=qt)).keeps (hH.trans hK)))) ?_;rintro v nw ⟨x1,p1,n1,c1,p2,n2,c2,p3,n3,c3,z1,z2,z3,rfl,hz⟩;refine k_hpA (k_put ?_);refine d42 ?_
   refine k_stA rfl zq (by first|rfl|exact rws_length _) ?_;refine d88 ?_
   refine k_neqS rfl zq (fun hc=>?_) (fun hc=>?_)
   ·refine d134 ?_
    refine run_res (h) rfl Tryz.func36 rfl weakSub ?_;refine hK _ _ ?_;exact ⟨rfl,by rw [orNo_no (by assumption)]⟩
   ·refine d38 ?_;refine rs7 ?_
    have hz0:openS b (if ((b.pts.getD 0 default).h≤x∧x≤(b.pts.getD (np-1) default).h)∧0≤y∧y≤959 then 0 else 1)=0:=by first|assumption|omega
    obtain ⟨hz1,rfl,hzc,rdB⟩:=hz hz0
    injection hz1 with hz1
    injection hz1 with hz1
    injection hz1 with e1 hz1
    injection hz1 with e2 hz1
    injection hz1 with e3 hz1
    injection hz1 with e4 hz1
    injection e1 with _ e1
    injection e2 with u1 u2 u3
    injection e3 with u4 u5 u6
    injection e4 with u7 u8 u9
    subst e1 u1 u2 u3 u4 u5 u6 u7 u8 u9
    obtain ⟨hbz,hoz,hbne⟩:=openS_zero hz0
    have hv:=fbS_zero hbz
    have hpo:=hv.pts
    have hv5:=hpo.five
    have hbl:=boatsOf_le hpo
    have hpos:0<(boatsOf b).length:=List.length_pos_iff.2 hbne
    have hxy:((b.pts.getD 0 default).h≤x∧x≤(b.pts.getD (np-1) default).h)∧0≤y∧y≤959:=Classical.byContradiction fun e=>by rw [if_neg e] at hoz;omega
    obtain ⟨hx,_⟩:=hxy
    refine d107 ?_
    refine k_calC rfl zq (by kernel_rfl) (Post:=fun v nw=>OwnS 3 1 v (boatsOf b).length (ints (toldL (fun i=>atI b.pts ((boatsOf b).getD i default) x) (boatsOf b).length)) nw) (fun H' hH=>f78_p m H' (RdS.keeps rdB (sq hH)) (by omega) callB86 (fun i hi K hK=>by
     have hmi:(boatsOf b).getD i default∈boatsOf b:=mem_getDR.2 ⟨i,hi,rfl⟩
     simpa using f86_c m K (rdp.keeps ((sq hH).trans hK)) hp ((mem_boats.1 hmi).1.trans hml) hpo (boat_sml hpo hmi) ((rdN_hasP (q:=q6) rfl).keeps (hH.trans hK)) ((rd_has (q:=q3)).keeps (hH.trans hK)) hx)) ?_
    rintro v n8 ho;refine k_hpA (k_put ?_);rw [toldL_map (fun l=>atI b.pts l x)] at ho
    obtain ⟨bk,c,junk,rfl,rfl,hbk1,hbk2⟩:=own_block ho hpos
    refine k_cal rfl zq (by kernel_rfl) (f81_b m _ hpos hbk1 hbk2 (by omega)) ?_;rintro v h' ⟨rfl,rfl⟩;refine k_put ?_;refine k_new rfl zq (fun q10=>k_hp (k_put ?_));refine d48 ?_;refine run_block ?_;refine rs5 ?_;refine d2 ?_;refine mq rfl ?_
    refine k_lssS rfl zq (fun hc=>?_) (fun hc=>?_)
    ·refine d56 ?_;refine d147 ?_
     refine run_res (h) rfl Tryz.func36 rfl weakSub ?_;refine hK _ _ ?_;exact ⟨rfl,by rw [orNo_yes hz0,clearsI_no (b:=b) (x:=x) (y:=y) (by omega)]⟩
    ·refine d90 ?_;refine rs5 ?_;refine d2 ?_;refine mq rfl ?_
     refine k_geqS rfl zq (fun hc=>?_) (fun hc=>?_)
     ·refine d56 ?_;refine d147 ?_
      refine run_res (h) rfl Tryz.func36 rfl weakSub ?_;refine hK _ _ ?_;exact ⟨rfl,by rw [orNo_yes hz0,clearsI_yes (b:=b) (x:=x) (y:=y) (by omega) (by omega)]⟩
     ·refine aq rfl ?_;refine d143 ?_;refine d147 ?_
      refine run_res (h) rfl Tryz.func36 rfl weakSub ?_;refine hK _ _ ?_;exact ⟨rfl,by rw [orNo_yes hz0,clearsI_open (b:=b) (x:=x) (y:=y) (by omega) (by omega)]⟩
 ·refine DrawT.leaf [(2,.pure),(0,.read),(1,.read),(8,.alloc),(3,.keep),(4,.keep),(5,.pure),(6,.pure),(7,.pure),(9,.free),(10,.pure)] (by kernel_rfl) ?_
  refine mq rfl ?_;refine d64 ?_
  refine k_new rfl zq (fun q6=>k_hp (k_put ?_));refine k_calC rfl zq (by kernel_rfl) (Post:=fun v nw=> ∃q q',nw=[⟨true,q,.cells [.int .i64 x].toArray 3 (0,0)⟩,⟨true,q',.cells [.int .i64 y].toArray 3 (0,0)⟩]∧v= .func (.func 130) #[] [.pointer (some ⟨q,0,none⟩),.pointer (some ⟨q',0,none⟩)].toArray) (fun H' hH=>f80_c m H' x y) ?_;rintro v nw ⟨qs,qt,rfl,rfl⟩;refine k_hpA (k_put ?_);refine k_calC rfl zq (by kernel_rfl) (Post:=fun v nw=>Opened b (fbV b pp np cp pt nt ct pk nk ck) (openS b (if ((b.pts.getD 0 default).h≤x∧x≤(b.pts.getD (np-1) default).h)∧0≤y∧y≤959 then 0 else 1)) nw v) (fun H' hH=>f76_c m H' (rdp.keeps (sq hH)) hp (rdt.keeps (sq hH)) ht (rdk.keeps (sq hH)) hk callB130 (fun hbz K hK=>by simpa using f130_c m K (rdp.keeps ((sq hH).trans hK)) hp (by have:=(fbS_zero hbz).pts.two;omega) ((rd_has (q:=qs)).keeps (hH.trans hK)) ((rd_has (q:=qt)).keeps (hH.trans hK)))) ?_;rintro v nw ⟨x1,p1,n1,c1,p2,n2,c2,p3,n3,c3,z1,z2,z3,rfl,hz⟩;refine k_hpA (k_put ?_);refine d42 ?_
  refine k_stA rfl zq (by first|rfl|exact rws_length _) ?_;refine d88 ?_
  refine k_neqS rfl zq (fun hc=>?_) (fun hc=>?_)
  ·refine d134 ?_
   refine run_res (h) rfl Tryz.func36 rfl weakSub ?_;refine hK _ _ ?_;exact ⟨rfl,by rw [orNo_no (by assumption)]⟩
  ·refine d38 ?_;refine rs7 ?_
   have hz0:openS b (if ((b.pts.getD 0 default).h≤x∧x≤(b.pts.getD (np-1) default).h)∧0≤y∧y≤959 then 0 else 1)=0:=by first|assumption|omega
   obtain ⟨hz1,rfl,hzc,rdB⟩:=hz hz0
   injection hz1 with hz1
   injection hz1 with hz1
   injection hz1 with e1 hz1
   injection hz1 with e2 hz1
   injection hz1 with e3 hz1
   injection hz1 with e4 hz1
   injection e1 with _ e1
   injection e2 with u1 u2 u3
   injection e3 with u4 u5 u6
   injection e4 with u7 u8 u9
   subst e1 u1 u2 u3 u4 u5 u6 u7 u8 u9
   obtain ⟨hbz,hoz,hbne⟩:=openS_zero hz0
   have hv:=fbS_zero hbz
   have hpo:=hv.pts
   have hv5:=hpo.five
   have hbl:=boatsOf_le hpo
   have hpos:0<(boatsOf b).length:=List.length_pos_iff.2 hbne
   have hxy:((b.pts.getD 0 default).h≤x∧x≤(b.pts.getD (np-1) default).h)∧0≤y∧y≤959:=Classical.byContradiction fun e=>by rw [if_neg e] at hoz;omega
   obtain ⟨hx,_⟩:=hxy
   refine d107 ?_
   refine k_calC rfl zq (by kernel_rfl) (Post:=fun v nw=>OwnS 3 1 v (boatsOf b).length (ints (toldL (fun i=>atI b.pts ((boatsOf b).getD i default) x) (boatsOf b).length)) nw) (fun H' hH=>f78_p m H' (RdS.keeps rdB (sq hH)) (by omega) callB86 (fun i hi K hK=>by
    have hmi:(boatsOf b).getD i default∈boatsOf b:=mem_getDR.2 ⟨i,hi,rfl⟩
    simpa using f86_c m K (rdp.keeps ((sq hH).trans hK)) hp ((mem_boats.1 hmi).1.trans hml) hpo (boat_sml hpo hmi) ((rdN_hasP (q:=q6) rfl).keeps (hH.trans hK)) ((rd_has (q:=q3)).keeps (hH.trans hK)) hx)) ?_
   rintro v n8 ho;refine k_hpA (k_put ?_);rw [toldL_map (fun l=>atI b.pts l x)] at ho
   obtain ⟨bk,c,junk,rfl,rfl,hbk1,hbk2⟩:=own_block ho hpos
   refine k_cal rfl zq (by kernel_rfl) (f81_b m _ hpos hbk1 hbk2 (by omega)) ?_;rintro v h' ⟨rfl,rfl⟩;refine k_put ?_;refine k_new rfl zq (fun q10=>k_hp (k_put ?_));refine d48 ?_;refine run_block ?_;refine rs5 ?_;refine d2 ?_;refine mq rfl ?_
   refine k_lssS rfl zq (fun hc=>?_) (fun hc=>?_)
   ·refine d56 ?_;refine d147 ?_
    refine run_res (h) rfl Tryz.func36 rfl weakSub ?_;refine hK _ _ ?_;exact ⟨rfl,by rw [orNo_yes hz0,clearsI_no (b:=b) (x:=x) (y:=y) (by omega)]⟩
   ·refine d90 ?_;refine rs5 ?_;refine d2 ?_;refine mq rfl ?_
    refine k_geqS rfl zq (fun hc=>?_) (fun hc=>?_)
    ·refine d56 ?_;refine d147 ?_
     refine run_res (h) rfl Tryz.func36 rfl weakSub ?_;refine hK _ _ ?_;exact ⟨rfl,by rw [orNo_yes hz0,clearsI_yes (b:=b) (x:=x) (y:=y) (by omega) (by omega)]⟩
    ·refine aq rfl ?_;refine d143 ?_;refine d147 ?_
     refine run_res (h) rfl Tryz.func36 rfl weakSub ?_;refine hK _ _ ?_;exact ⟨rfl,by rw [orNo_yes hz0,clearsI_open (b:=b) (x:=x) (y:=y) (by omega) (by omega)]⟩
theorem weakM {B:Array Obj} {X:Hp} {a M c:Chunk}:Weak B (X++[a,M,c]) ((X++[a,c])++[M]):=Weak.perm (by
 rw [List.append_assoc];exact List.Perm.append_left X (.cons a (.swap _ _ [])))
theorem callB83:callB Tryz.prog 83=true:=by kernel_rfl
theorem callB84:callB Tryz.prog 84=true:=by kernel_rfl
theorem callB88:callB Tryz.prog 88=true:=by kernel_rfl
theorem f34_c (m:Md Tryz.prog B) (h:Hp) (rdp:Rp B h b pp np cp) (hp:np≤1000) (rdt:Rt B h b pt nt ct) (ht:nt≤1000) (rdk:Rk B h b pk nk ck) (hk:nk≤1000) (f t:Int):FnC m 34 #[fbV b pp np cp pt nt ct pk nk ck,.int .i64 f,.int .i64 t] h fun v h'=>h'=h∧v=spanT (openS b (ordS np f t)) ((boatsOf b).map fun l=>girthI b.pts l f t):=by
 have hml:=rdp.elen (by decide)
 refine fn_enter Tryz.func34 rfl rfl (l:=(fbV b pp np cp pt nt ct pk nk ck)::(.int .i64 f)::(.int .i64 t)::uu24) rfl ?_
 intro cf cs K hK
 refine rs5 ?_;refine k_box rfl zq (fun q3=>k_hp (k_put ?_));refine k_box rfl zq (fun q4=>k_hp (k_put ?_));refine k_box rfl zq (fun q5=>k_hp (k_put ?_));refine k_new rfl zq (fun q6=>k_hp (k_put ?_));refine aq rfl ?_;refine rs9 ?_;refine k_ldA rfl zq ?_;refine k_fun rfl zq ?_
 refine k_calC rfl zq (by kernel_rfl) (Post:=fun v nw=>Opened b (fbV b pp np cp pt nt ct pk nk ck) (openS b (ordS np f t)) nw v) (fun H' hH=>f76_c m H' (rdp.keeps (sq hH)) hp (rdt.keeps (sq hH)) ht (rdk.keeps (sq hH)) hk callB83 (fun hbz K hK=>by simpa using f83_c m K hp ((rd_has (q:=q4)).keeps (hH.trans hK)) ((rd_has (q:=q5)).keeps (hH.trans hK)))) ?_;rintro v nw ⟨x1,p1,n1,c1,p2,n2,c2,p3,n3,c3,z1,z2,z3,rfl,hz⟩;refine k_hpA (k_put ?_);refine d42 ?_
 refine k_new rfl zq (fun q8=>k_hp (k_put ?_));refine k_stA rfl zq (by first|rfl|exact rws_length _) ?_;refine d88 ?_
 refine k_neqS rfl zq (fun hc=>?_) (fun hc=>?_)
 ·refine d7 ?_;refine rs4 ?_;refine d113 ?_;refine d72 ?_
  refine run_res (h) rfl Tryz.func34 rfl weakSub ?_;refine hK _ _ ?_;exact ⟨rfl,by rw [spanT_no (by assumption)]⟩
 ·refine d38 ?_
  have hz0:openS b (ordS np f t)=0:=by first|assumption|omega
  obtain ⟨hz1,rfl,hzc,rdB⟩:=hz hz0
  injection hz1 with hz1
  injection hz1 with hz1
  injection hz1 with e1 hz1
  injection hz1 with e2 hz1
  injection hz1 with e3 hz1
  injection hz1 with e4 hz1
  injection e1 with _ e1
  injection e2 with u1 u2 u3
  injection e3 with u4 u5 u6
  injection e4 with u7 u8 u9
  subst e1 u1 u2 u3 u4 u5 u6 u7 u8 u9
  obtain ⟨hbz,hoz,hbne⟩:=openS_zero hz0
  have hv:=fbS_zero hbz
  have hpo:=hv.pts
  have hv5:=hpo.five
  have hbl:=boatsOf_le hpo
  have hpos:0<(boatsOf b).length:=List.length_pos_iff.2 hbne
  obtain ⟨hf0,hft,htn⟩:=ordS_zero hoz
  obtain ⟨f',hf'⟩: ∃k:Nat,f=k:=Int.eq_ofNat_of_zero_le (by omega)
  obtain ⟨t',ht'⟩: ∃k:Nat,t=k:=Int.eq_ofNat_of_zero_le (by omega)
  refine rr3 ?_;refine k_mkmap rfl zq (fun qM=>k_hp (k_put ?_));refine k_new rfl zq (fun q10=>k_hp (k_put ?_));refine d74 ?_;refine rs7 ?_;refine d107 ?_
  refine k_cal rfl zq (by kernel_rfl) (CallF.weak weakM (f78_c m _ (RdS.keeps rdB SubH.sub) (by omega) (mf:=fun i=>girthI b.pts ((boatsOf b).getD i default) f t) (J:=fun R=> ∃es,R=[⟨true,qM,mapO es⟩]∧OkE es) callB84 (fun i hi G R hG hR=>by
   obtain ⟨es,rfl,hes⟩:=hR
   have hmi:(boatsOf b).getD i default∈boatsOf b:=mem_getDR.2 ⟨i,hi,rfl⟩
   refine CallF.mono (Post:=fun v h'=> ∃es',h'=G++[⟨true,qM,mapO es'⟩]∧OkE es'∧v= .int .i64 (girthI b.pts ((boatsOf b).getD i default) f t)) (by have:=f84_c m G qM es hes (rdp.keeps (SubH.sub.trans hG)) hp ((mem_boats.1 hmi).1.trans hml) hpo (boat_sml hpo hmi) ((rdN_hasP (q:=q8) rfl).keeps hG) ((rd_has (q:=q10)).keeps hG) ((rd_has (q:=q4)).keeps hG) ((rd_has (q:=q5)).keeps hG) hf' ht' (by omega) (by omega);show FnC m 84 _ _ _;simpa using this) ?_
   rintro v h' ⟨es',e1,e2,e3⟩;exact ⟨e3,_,e1,es',rfl,e2⟩) ⟨[],rfl,OkE.nil⟩)) ?_
  rintro v h' ⟨R',n8,rfl,⟨es',rfl,hes'⟩,ho⟩;refine k_put ?_;rw [toldL_map (fun l=>girthI b.pts l f t)] at ho
  obtain ⟨bk,c,junk,rfl,rfl,hbk1,hbk2⟩:=own_block ho hpos
  refine k_cal rfl zq (by kernel_rfl) (f81_b m _ hpos hbk1 hbk2 (by omega)) ?_;rintro v h' ⟨rfl,rfl⟩;refine k_put ?_;refine d72 ?_;refine run_res (h) rfl Tryz.func34 rfl weakSub ?_;refine hK _ _ ?_;exact ⟨rfl,by rw [spanT_yes hz0]⟩
theorem f87_c (m:Md Tryz.prog B) (h:Hp) {p:Option Addr} {n c:Nat} {ll:List (List Int)} (rd:RdS B h 5 (.slice p n c) n (encs ll)) (hn:n≤10000) (h0:0<n) {fid:Nat} {gc gp:Array Value} {mf:List Int→Int} (hcall:callB Tryz.prog fid=true)
  (hf: ∀a∈ll,∀z∈ll,∀H':Hp,h.Sublist H'→FnC m fid (gc++[rwV a,rwV z].toArray++gp) H' fun v h'=>h'=H'∧v= .int .i64 (mf a-mf z)):
  FnC m 87 #[.slice p n c,.func (.func fid) gc gp] h fun v h'=>h'=h∧v=rwV (bestBy (fun a z=>decide (mf a<mf z)) ll):=by
 have hll:=rd.elen (by decide)
 refine fn_enter Tryz.func87 rfl rfl (l:=(.slice p n c)::(.func (.func fid) gc gp)::uu31) rfl ?_
 intro cf cs K hK
 refine rs1 ?_;refine k_new rfl zq (fun q4=>k_hp (k_put ?_));refine d24 ?_;refine d44 ?_;refine k_len rfl zq ?_
 refine k_lssS rfl zq (fun hc=>?_) (fun hc=>?_)
 ·exfalso
  omega
 ·refine d38 ?_
  obtain ⟨rb,ro,rfl⟩:=rd.ptr (by omega)
  refine rr5 ?_;refine d39 ?_;refine k_ldN (vs:=rws (ll.getD 0 default)) rfl zq (rws_length _) (rd.eat 0 (by omega) (by omega)) ?_;refine k_new rfl zq (fun q5=>k_hp (k_put ?_));refine k_stA rfl zq (by first|rfl|exact rws_length _) ?_;refine d24 ?_;refine d135 ?_
  refine run_loop (fun nn l h'=> ∃(k:Nat) (w:List Int),nn=n-k∧(0<k)∧(k≤n)∧(w=bestBy (fun a z=>decide (mf a<mf z)) (ll.take k))∧(w∈ll)∧(∃U:Nat→Value,l=((.slice (some ⟨rb,ro,none⟩) n c)::(.func (.func fid) gc gp)::(U 2)::(U 3)::(.pointer (some ⟨q4,0,none⟩))::(.pointer (some ⟨q5,0,none⟩))::(.int .i64 (k:Int))::vw26 U 7 []))∧h++[⟨true,q4,.cells [.int .i64 0,.int .i64 0,.int .i64 0,.int .i64 0,.int .i64 0].toArray 98 (0,0)⟩,⟨true,q5,.cells (rws w).toArray 98 (0,0)⟩]=h') _ ⟨1,ll.getD 0 [],rfl,by omega,by omega,by rw [bestBy_one],mem_getDR.2 ⟨0,by omega,rfl⟩,exU rfl,(by simp;rfl)⟩ ?_;rintro nn l h' ⟨k,w,rfl,hk0,hk,hw,hwm,⟨U,rfl⟩,rfl⟩ hnext;refine run_seq ?_;refine d120 ?_;refine k_lssS rfl zq (fun hc=>?_) (fun hc=>?_)
  ·refine d94 ?_;refine run_seq ?_
   have hkm:ll.getD k []∈ll:=mem_getDR.2 ⟨k,by omega,rfl⟩
   refine run_draw [(0,.pure),(1,.pure),(2,.pure),(3,.pure),(4,.read),(5,.read),(6,.keep),(7,.pure)] (by kernel_rfl) (by kernel_rfl) (List.Sublist.refl _) ?_;refine d3 ?_;refine d39 ?_
   refine k_ldN (vs:=rws (ll.getD k [])) rfl zq (rws_length _) (rd.eat k (by omega) (by omega)) ?_;refine k_ldN (vs:=rws w) rfl zq (rws_length _) rdN_has ?_;refine k_valP (Post:=fun v=>v=_) rfl zq hcall (fun H' hH=>hf _ hkm _ hwm H' (sq hH)) ?_;rintro v rfl;refine k_put ?_;refine k_lssS rfl zq (fun hc=>?_) (fun hc=>?_)
   ·refine d7 ?_;refine rr5 ?_;refine d11 ?_
    refine k_ldN (vs:=rws (ll.getD k [])) rfl zq (rws_length _) (rd.eat k (by omega) (by omega)) ?_;refine k_stA rfl zq (by first|rfl|exact rws_length _) ?_;refine k_nil ?_;refine d110 ?_;exact m.weak weakSub (hnext _ _ _ (by omega) ⟨k+1,ll.getD k [],rfl,by omega,by omega,by rw [bestBy_succ _ _ _ (by omega) (by omega),if_pos (by rw [←hw];exact decide_eq_true (show mf (ll.getD k [])<mf w by omega))],hkm,exU rfl,rfl⟩)
   ·refine d13 ?_;refine d110 ?_
    exact m.weak weakSub (hnext _ _ _ (by omega) ⟨k+1,w,rfl,by omega,by omega,by rw [bestBy_succ _ _ _ (by omega) (by omega),if_neg (by rw [←hw,decide_eq_true_iff];show¬mf (ll.getD k [])<mf w;omega),hw],hwm,exU rfl,rfl⟩)
  ·refine d67 ?_;refine rs2 ?_
   refine k_ldN (vs:=rws w) rfl zq (rws_length _) rdN_has ?_;refine k_stA rfl zq (by first|rfl|exact rws_length _) ?_;refine k_nil ?_;refine run_ret rfl ?_;refine run_res (h) rfl Tryz.func87 rfl weakSub ?_;refine hK _ _ ?_;obtain rfl:k=n:=by omega
   rw [List.take_of_length_le (by omega)] at hw
   exact ⟨rfl,by rw [hw]⟩
theorem f88_c (m:Md Tryz.prog B) (h:Hp) (rdp:Rp B h b pp np cp) (hp:np≤1000) {xs ys:List Int} (hpo:PtsOk b.pts) (hsx:SmL xs) (hsy:SmL ys) {qo:Nat} (ro:RdN B h qo 0 (fbL b pp np cp pt nt ct pk nk ck)) (hax: -100000000≤areaI b.pts xs∧areaI b.pts xs≤100000000) (hay: -100000000≤areaI b.pts ys∧areaI b.pts ys≤100000000):
  FnC m 88 #[rwV xs,rwV ys,.pointer (some ⟨qo,0,none⟩)] h fun v h'=>h'=h∧v= .int .i64 (areaI b.pts xs-areaI b.pts ys):=by
 refine fn_enter Tryz.func88 rfl rfl (l:=(rwV xs)::(rwV ys)::(.pointer (some ⟨qo,0,none⟩))::uu12) rfl ?_
 intro cf cs K hK
 refine rs3 ?_;refine k_box rfl zq (fun q3=>k_hp (k_put ?_));refine k_box rfl zq (fun q4=>k_hp (k_put ?_));refine d12 ?_
 refine run_draw [(0,.pure),(4,.pure),(1,.read),(2,.read),(5,.read),(6,.read),(3,.keep),(7,.keep),(8,.pure),(9,.pure)] (by kernel_rfl) (by kernel_rfl) (List.Sublist.refl _) ?_;refine d8 ?_
 refine k_ldN (vs:=fbL b pp np cp pt nt ct pk nk ck) rfl zq rfl (ro.keeps SubH.sub) ?_;refine k_ldN (vs:=rws xs) rfl zq (rws_length _) rdN_has ?_;refine k_ldN (vs:=fbL b pp np cp pt nt ct pk nk ck) rfl zq rfl (ro.keeps SubH.sub) ?_;refine k_ldN (vs:=rws ys) rfl zq (rws_length _) rdN_has ?_;refine k_calP (Post:=fun v=>v=_) rfl zq (by kernel_rfl) (fun H' hH=>f72_c m H' (rdp.keeps (sq hH)) hp hpo hsx) ?_;rintro v rfl;refine k_put ?_;refine k_calP (Post:=fun v=>v=_) rfl zq (by kernel_rfl) (fun H' hH=>f72_c m H' (rdp.keeps (sq hH)) hp hpo hsy) ?_;rintro v rfl;refine k_put ?_;refine k_sub rfl zq (by unfold In64;omega) ?_;refine d0 ?_;refine run_res (h) rfl Tryz.func88 rfl weakSub ?_;refine hK _ _ ?_;exact ⟨rfl,rfl⟩
theorem areaF_le {pts:List Pt} {l:List Int} (hp:PtsOk pts) (hs:SmL l): ∀k,k+1≤pts.length→0≤areaF pts l k∧areaF pts l k≤k*1900000
 |0,_=>by simp [areaF]
 |k+1,h=>by
  obtain ⟨h1,h2⟩:=areaF_le hp hs k (by omega)
  have e1:=hs k
  have e2:=hs (k+1)
  have e3:=hp.at (i:=k) (by omega)
  have e4:=hp.at (i:=k+1) (by omega)
  have e5:=hp.up k (by omega)
  simp only [areaF]
  have a1:0≤(l.getD k 0+l.getD (k+1) 0)*((pts.getD (k+1) default).h-(pts.getD k default).h):=Int.mul_nonneg (by omega) (by omega)
  have a2:=Int.mul_le_mul (show l.getD k 0+l.getD (k+1) 0≤1918 by omega) (show (pts.getD (k+1) default).h-(pts.getD k default).h≤959 by omega) (by omega) (by omega)
  have a3:((k+1:Nat):Int)*1900000=k*1900000+1900000:=by rw [Int.natCast_add,Int.add_mul];rfl
  omega
theorem areaI_le {pts:List Pt} {l:List Int} (hp:PtsOk pts) (hs:SmL l):0≤areaI pts l∧areaI pts l≤100000000:=by
 have h2:=hp.two
 have h5:=hp.five
 obtain ⟨h1,h3⟩:=areaF_le hp hs (pts.length-1) (by omega)
 unfold areaI
 have:((pts.length-1:Nat):Int)*1900000≤4*1900000:=Int.mul_le_mul_of_nonneg_right (by omega) (by omega)
 omega
theorem padR_padR (l:List Int):rws (padR l)=rws l:=by
 unfold rws
 congr 1
 have h:=padR_length l
 generalize padR l=z at h⊢
 unfold padR
 rw [List.take_append_of_le_length (by omega),List.take_of_length_le (by omega)]
theorem f73_p (m:Md Tryz.prog B) (h:Hp) {l:List Int} (hp5:np≤5) (hl:l.length=np):FnC m 73 #[fbV b pp np cp pt nt ct pk nk ck,rwV l] h fun v h'=> ∃nw,h'=h++nw∧RdI B nw v l:=by
 have:=f73_c m h (b:=b) (pp:=pp) (cp:=cp) (pt:=pt) (nt:=nt) (ct:=ct) (pk:=pk) (nk:=nk) (ck:=ck) (ys:=padR l) (padR_length l) hp5
 rw [show rwV (padR l)=rwV l by unfold rwV;rw [padR_padR],←hl,padR_take (by omega),hl] at this
 refine CallF.mono this fun v h' ⟨nw,e,o⟩=>⟨nw,e,?_⟩
 subst hl
 exact OwnS.rdI o
theorem f37_c (m:Md Tryz.prog B) (h:Hp) (rdp:Rp B h b pp np cp) (hp:np≤1000) (rdt:Rt B h b pt nt ct) (ht:nt≤1000) (rdk:Rk B h b pk nk ck) (hk:nk≤1000):FnC m 37 #[fbV b pp np cp pt nt ct pk nk ck] h fun v h'=> ∃new,h'=h++new∧ ∃w,v= .tuple [w,.int .i64 (if openS b 0≠0 then 0 else areaI b.pts (leanL b (boatsOf b))),.int .i64 (openS b 0)].toArray∧RdI B new w (if openS b 0≠0 then [] else leanL b (boatsOf b)):=by
 have hml:=rdp.elen (by decide)
 refine fn_enter Tryz.func37 rfl rfl (l:=(fbV b pp np cp pt nt ct pk nk ck)::uu26) rfl ?_
 intro cf cs K hK
 refine rs4 ?_;refine k_box rfl zq (fun q1=>k_hp (k_put ?_));refine k_as rfl zq ?_;refine d47 ?_;refine d150 ?_;refine k_calC rfl zq (by kernel_rfl) (Post:=fun v nw=>Opened b (fbV b pp np cp pt nt ct pk nk ck) (openS b (0:Int)) nw v) (fun H' hH=>f76_c m H' (rdp.keeps (sq hH)) hp (rdt.keeps (sq hH)) ht (rdk.keeps (sq hH)) hk callB85 (fun hbz K hK=>by simpa using f85_c m K (b:=b))) ?_;rintro v nw ⟨x1,p1,n1,c1,p2,n2,c2,p3,n3,c3,z1,z2,z3,rfl,hz⟩;refine k_hpA (k_put ?_);refine d42 ?_
 refine k_new rfl zq (fun q5=>k_hp (k_put ?_));refine k_stA rfl zq (by first|rfl|exact rws_length _) ?_;refine d88 ?_
 refine k_neqS rfl zq (fun hc=>?_) (fun hc=>?_)
 ·refine d7 ?_;refine d118 ?_;refine k_as rfl zq ?_;refine d27 ?_
  refine run_res (h) rfl Tryz.func37 rfl weakSub ?_;refine hK _ _ ?_;exact ⟨[],by simp,_,by rw [if_pos (by assumption)],by rw [if_pos (by assumption)];exact RdI.nil⟩
 ·refine d38 ?_
  have hz0:openS b (0:Int)=0:=by first|assumption|omega
  obtain ⟨hz1,rfl,hzc,rdB⟩:=hz hz0
  injection hz1 with hz1
  injection hz1 with hz1
  injection hz1 with e1 hz1
  injection hz1 with e2 hz1
  injection hz1 with e3 hz1
  injection hz1 with e4 hz1
  injection e1 with _ e1
  injection e2 with u1 u2 u3
  injection e3 with u4 u5 u6
  injection e4 with u7 u8 u9
  subst e1 u1 u2 u3 u4 u5 u6 u7 u8 u9
  obtain ⟨hbz,hoz,hbne⟩:=openS_zero hz0
  have hv:=fbS_zero hbz
  have hpo:=hv.pts
  have hv5:=hpo.five
  have hbl:=boatsOf_le hpo
  have hpos:0<(boatsOf b).length:=List.length_pos_iff.2 hbne
  have hlb:leanL b (boatsOf b)∈boatsOf b:=bestBy_mem _ _ hpos
  have hlm:=(mem_boats.1 hlb).1
  refine rr6 ?_;refine d107 ?_;refine k_calP (Post:=fun v=>v=rwV (leanL b (boatsOf b))) rfl zq (by kernel_rfl) (fun H' hH=>f87_c m H' (RdS.keeps rdB (sq hH)) (by omega) hpos (mf:=fun l=>areaI b.pts l) callB88 (fun a ha z hz' K hK=>by
   have ha1:=areaI_le hpo (boat_sml hpo ha)
   have hz1':=areaI_le hpo (boat_sml hpo hz')
   simpa using f88_c m K (rdp.keeps ((sq hH).trans hK)) hp hpo (boat_sml hpo ha) (boat_sml hpo hz') ((rdN_hasP (q:=q5) rfl).keeps (hH.trans hK)) (by omega) (by omega))) ?_
  rintro v rfl;refine k_put ?_;refine k_new rfl zq (fun q6=>k_hp (k_put ?_));refine k_stA rfl zq (by first|rfl|exact rws_length _) ?_;refine d24 ?_
  refine run_draw [(0,.pure),(4,.pure),(1,.read),(2,.read),(5,.read),(6,.read),(3,.call),(7,.call),(8,.pure),(9,.pure),(10,.pure)] (by kernel_rfl) (by kernel_rfl) (List.Sublist.refl _) ?_;refine d8 ?_
  refine k_ldN (vs:=fbL b pp np cp pt nt ct pk nk ck) rfl zq rfl (rdN_hasP rfl) ?_;refine k_ldN (vs:=rws (leanL b (boatsOf b))) rfl zq (rws_length _) rdN_has ?_;refine k_ldN (vs:=fbL b pp np cp pt nt ct pk nk ck) rfl zq rfl (rdN_hasP rfl) ?_;refine k_ldN (vs:=rws (leanL b (boatsOf b))) rfl zq (rws_length _) rdN_has ?_;refine k_calC rfl zq (by kernel_rfl) (Post:=fun v nw=>RdI B nw v (leanL b (boatsOf b))) (fun H' hH=>f73_p m H' (b:=b) (by omega) (hlm.trans hml)) ?_;rintro v nL rL;refine k_hpA (k_put ?_);refine k_calP (Post:=fun v=>v=_) rfl zq (by kernel_rfl) (fun H' hH=>f72_c m H' (rdp.keeps (sq hH)) hp hpo (boat_sml hpo hlb)) ?_;rintro v rfl;refine k_put ?_;refine k_as rfl zq ?_;refine d27 ?_;refine run_res (h++nL) rfl Tryz.func37 rfl weakSub ?_;refine hK _ _ ?_;exact ⟨nL,rfl,_,by rw [hz0,if_neg (by simp)],by rw [hz0,if_neg (by simp)];exact rL⟩
theorem countAt_le (ll:List (List Int)) (s:Nat) (x:Int):countAt ll s x≤ll.length:=List.length_filter_le _ _
theorem mem_lefts {ll:List (List Int)} {s:Nat} {z:Int}:z∈lefts ll s↔ ∃l∈ll,z=(countAt ll s (l.getD s 0):Int):=by
 unfold lefts
 rw [List.mem_map];exact ⟨fun ⟨l,h1,h2⟩=>⟨l,h1,h2.symm⟩,fun ⟨l,h1,h2⟩=>⟨l,h1,h2.symm⟩⟩
theorem leftOf_ge {ll:List (List Int)} {s:Nat} {l:List Int} (h:l∈ll):(countAt ll s (l.getD s 0):Int)≤leftOf ll s:=(mostL_spec _).1 _ (mem_lefts.2 ⟨l,h,rfl⟩)
theorem leftOf_lub {ll:List (List Int)} {s:Nat} {m:Int} (h0:0≤m) (h: ∀l∈ll,(countAt ll s (l.getD s 0):Int)≤m):leftOf ll s≤m:=by
 rcases (mostL_spec (lefts ll s)).2 with e|e
 ·unfold leftOf
  omega
 ·obtain ⟨l,hl,e⟩:=mem_lefts.1 e
  have:=h l hl
  unfold leftOf
  omega
theorem leftOf_nonneg (ll:List (List Int)) (s:Nat):0≤leftOf ll s:=mostL_nonneg _
theorem countAt_mono {ll mm:List (List Int)} (h:ll.Sublist mm) (s:Nat) (x:Int):countAt ll s x≤countAt mm s x:=(h.filter _).length_le
theorem leftOf_mono {ll mm:List (List Int)} (h:ll.Sublist mm) (s:Nat):leftOf ll s≤leftOf mm s:=leftOf_lub (leftOf_nonneg _ _) fun l hl=>by
 have h1:=countAt_mono h s (l.getD s 0)
 have h2:=leftOf_ge (s:=s) (h.subset hl)
 omega
theorem leftOf_pos {ll:List (List Int)} (h:0<ll.length) (s:Nat):1≤leftOf ll s:=by
 have hm:ll.getD 0 []∈ll:=mem_getDR.2 ⟨0,h,rfl⟩
 have h1:=leftOf_ge (s:=s) hm
 have h2:0<countAt ll s ((ll.getD 0 []).getD s 0):=List.length_pos_of_mem (List.mem_filter.2 ⟨hm,decide_eq_true rfl⟩)
 omega
theorem leftOf_take {ll:List (List Int)} {k:Nat} (h:k<ll.length) (s:Nat):leftOf (ll.take (k+1)) s=max (leftOf (ll.take k) s) ((countAt (ll.take k) s ((ll.getD k []).getD s 0):Int)+1):=by
 have hs:=take_snocL ll k h
 have hk:ll.getD k []∈ll.take (k+1):=by rw [hs];exact List.mem_append_right _ (List.mem_singleton.2 rfl)
 have h1:=leftOf_ge (s:=s) hk
 rw [countAt_yes _ _ _ _ h rfl] at h1
 have h2:=leftOf_mono (ll:=ll.take k) (mm:=ll.take (k+1)) (by rw [hs];exact List.sublist_append_left _ _) s
 have h0:=leftOf_nonneg (ll.take k) s
 have h3:leftOf (ll.take (k+1)) s≤max (leftOf (ll.take k) s) ((countAt (ll.take k) s ((ll.getD k []).getD s 0):Int)+1):=leftOf_lub (by omega) fun l hl=>by
  by_cases e:(ll.getD k []).getD s 0=l.getD s 0
  ·rw [←e,countAt_yes _ _ _ _ h rfl];omega
  ·rw [countAt_no _ _ _ _ h e];rw [hs] at hl
   rcases List.mem_append.1 hl with hl|hl
   ·have:=leftOf_ge (s:=s) hl;omega
   ·rw [List.mem_singleton.1 hl] at e
    exact absurd rfl e
 omega
def askP (ll:List (List Int)):Nat→Int×Int
 |0=>(-1,ll.length)
 |s+1=>if leftOf ll s<(askP ll s).2 then (s,leftOf ll s) else askP ll s
def askAt (b:Fb):Int:=if openS b 0≠0 then 0 else (askP (boatsOf b) b.pts.length).1
def askLeft (b:Fb):Int:=if openS b 0≠0 then 0 else (askP (boatsOf b) b.pts.length).2
theorem und175: Tryz.prog.underlying 149=some (.map 3 3):=by kernel_rfl
theorem und3: Tryz.prog.underlying 3=some (.int .i64):=by kernel_rfl
theorem f38_c (m:Md Tryz.prog B) (h:Hp) (rdp:Rp B h b pp np cp) (hp:np≤1000) (rdt:Rt B h b pt nt ct) (ht:nt≤1000) (rdk:Rk B h b pk nk ck) (hk:nk≤1000):FnC m 38 #[fbV b pp np cp pt nt ct pk nk ck] h fun v h'=>h'=h∧v= .tuple [.int .i64 (askAt b),.int .i64 (askLeft b),.int .i64 (openS b 0)].toArray:=by
 have hml:=rdp.elen (by decide)
 refine fn_enter Tryz.func38 rfl rfl (l:=(fbV b pp np cp pt nt ct pk nk ck)::uu57) rfl ?_
 intro cf cs K hK
 refine rs4 ?_;refine k_box rfl zq (fun q1=>k_hp (k_put ?_));refine k_as rfl zq ?_;refine d47 ?_;refine run_scope ?_;refine d150 ?_;refine k_calC rfl zq (by kernel_rfl) (Post:=fun v nw=>Opened b (fbV b pp np cp pt nt ct pk nk ck) (openS b (0:Int)) nw v) (fun H' hH=>f76_c m H' (rdp.keeps (sq hH)) hp (rdt.keeps (sq hH)) ht (rdk.keeps (sq hH)) hk callB85 (fun hbz K hK=>by simpa using f85_c m K (b:=b))) ?_;rintro v nw ⟨x1,p1,n1,c1,p2,n2,c2,p3,n3,c3,z1,z2,z3,rfl,hz⟩;refine k_hpA (k_put ?_);refine d42 ?_
 refine k_new rfl zq (fun q5=>k_hp (k_put ?_));refine k_stA rfl zq (by first|rfl|exact rws_length _) ?_;refine d88 ?_
 refine k_neqS rfl zq (fun hc=>?_) (fun hc=>?_)
 ·refine d7 ?_;refine d118 ?_;refine k_as rfl zq ?_;refine d27 ?_
  refine run_res (h) rfl Tryz.func38 rfl weakSub ?_;refine hK _ _ ?_;exact ⟨rfl,by rw [askAt,if_pos (by assumption),askLeft,if_pos (by assumption)]⟩
 ·refine d38 ?_
  have hz0:openS b (0:Int)=0:=by first|assumption|omega
  obtain ⟨hz1,rfl,hzc,rdB⟩:=hz hz0
  injection hz1 with hz1
  injection hz1 with hz1
  injection hz1 with e1 hz1
  injection hz1 with e2 hz1
  injection hz1 with e3 hz1
  injection hz1 with e4 hz1
  injection e1 with _ e1
  injection e2 with u1 u2 u3
  injection e3 with u4 u5 u6
  injection e4 with u7 u8 u9
  subst e1 u1 u2 u3 u4 u5 u6 u7 u8 u9
  obtain ⟨hbz,hoz,hbne⟩:=openS_zero hz0
  have hv:=fbS_zero hbz
  have hpo:=hv.pts
  have hv5:=hpo.five
  have hbl:=boatsOf_le hpo
  have hpos:0<(boatsOf b).length:=List.length_pos_iff.2 hbne
  refine run_draw [(0,.pure),(3,.pure),(1,.read),(2,.pure),(4,.pure)] (by kernel_rfl) (by kernel_rfl) (List.Sublist.refl _) ?_;(first|refine k_fa0 rfl zq ?_|refine k_fa rfl zq ?_);refine k_as rfl zq ?_;refine k_ldh rfl zq ?_;refine k_len rfl zq ?_;refine d12 ?_;refine run_label ?_;refine run_seq ?_;refine rs4 ?_;refine d2 ?_;refine d136 ?_
  refine run_loop (fun nn l h'=> ∃(j:Nat) (a c:Int),nn=np-j∧(j≤np)∧((a,c)=askP (boatsOf b) j)∧(1≤c)∧(∃U:Nat→Value,l=((fbV b pp np cp pt nt ct pk nk ck)::(.pointer (some ⟨q1,0,none⟩))::(.int .i64 a)::(.int .i64 c)::(U 4)::(.pointer (some ⟨q5,0,none⟩))::vw18 U 6 ((.int .i64 (np:Int))::(.int .i64 (j:Int))::vw32 U 26 [])))∧h++[⟨true,q1,.cells (fbL b pp np cp pt nt ct pk nk ck).toArray 26 (0,0)⟩]++nw++[⟨true,q5,.cells ([.int .i64 b.plank,.slice pp np cp,.slice pt nt ct,.slice pk nk ck,.slice z1 (boatsOf b).length z3]:List Value).toArray 139 (0,0)⟩]=h') _ ⟨0,-1,((boatsOf b).length:Int),rfl,by omega,rfl,by omega,exU rfl,rfl⟩ ?_;rintro nn l h' ⟨j,a,c,rfl,hj,hac,hc1,⟨U,rfl⟩,rfl⟩ hnext1;refine rs1 ?_;refine k_lssS rfl zq (fun hc=>?_) (fun hc=>?_)
  ·refine d104 ?_;refine d19 ?_;refine aq rfl ?_;refine rs2 ?_
   refine k_mkmapI rfl zq (fun qM=>k_hp (k_put ?_));refine aq rfl ?_;refine d69 ?_;refine rs4 ?_;refine d2 ?_;refine d136 ?_
   refine run_loop (fun nn l h'=> ∃(k:Nat) (es:List (Int×Int)) (w:Int),nn=(boatsOf b).length-k∧(k≤(boatsOf b).length)∧(∀x,cntI es x=(countAt ((boatsOf b).take k) j x:Int))∧(w=leftOf ((boatsOf b).take k) j)∧(w<c)∧(∃U:Nat→Value,l=((fbV b pp np cp pt nt ct pk nk ck)::(.pointer (some ⟨q1,0,none⟩))::(.int .i64 a)::(.int .i64 c)::(U 4)::(.pointer (some ⟨q5,0,none⟩))::(.int .i64 (j:Int))::(.map (some qM))::(.int .i64 w)::vw15 U 9 ((.int .i64 (np:Int))::(.int .i64 (j:Int))::vw4 U 26 ((.slice z1 (boatsOf b).length z3)::(.int .i64 ((boatsOf b).length:Int))::(.int .i64 (k:Int))::vw25 U 33 []))))∧h++[⟨true,q1,.cells (fbL b pp np cp pt nt ct pk nk ck).toArray 26 (0,0)⟩]++nw++[⟨true,q5,.cells ([.int .i64 b.plank,.slice pp np cp,.slice pt nt ct,.slice pk nk ck,.slice z1 (boatsOf b).length z3]:List Value).toArray 139 (0,0)⟩]++[⟨true,qM,mapI es⟩]=h') _ ⟨0,[],0,rfl,by omega,fun x=>rfl,rfl,by omega,exU rfl,(by simp)⟩ ?_;rintro nn l h' ⟨k,es,w,rfl,hk9,hes,hw,hwc,⟨U,rfl⟩,rfl⟩ hnext2;refine rs1 ?_;refine k_lssS rfl zq (fun hc=>?_) (fun hc=>?_)
   ·refine d104 ?_;refine run_seq ?_
    obtain ⟨zb,zo,rfl⟩:=RdS.ptr (B:=B) rdB (by omega)
    refine rr4 ?_;refine k_ixs rfl zq (by first|rfl|assumption) (by omega) (by omega) ?_;refine k_ldN (vs:=rws ((boatsOf b).getD k [])) rfl zq (rws_length _) (rdB.eat k (by omega) (by omega)) ?_;refine k_new rfl zq (fun q10=>k_hp (k_put ?_));refine k_stA rfl zq (by first|rfl|exact rws_length _) ?_;refine k_nil ?_;refine rs7 ?_;refine d125 ?_;refine k_ld rfl zq (rd_rws j (by omega) (by omega)) ?_;refine k_lookupI und175 und3 rfl zq ?_;have hcx:=hes (((boatsOf b).getD k []).getD j 0)
    have hcl:=countAt_le ((boatsOf b).take k) j (((boatsOf b).getD k []).getD j 0)
    rw [List.length_take] at hcl
    refine k_add rfl zq (by unfold In64;omega) ?_;refine k_mapPutI und175 und3 rfl zq ?_;refine k_nil ?_;refine rs8 ?_;refine d3 ?_;refine d116 ?_;refine k_ld rfl zq (rd_rws j (by omega) (by omega)) ?_;refine k_lookupI und175 und3 rfl zq ?_;rw [cntI_bump,if_pos rfl];refine k_max rfl zq ?_;refine aq rfl ?_;refine rs3 ?_;refine d3 ?_;refine k_geqS rfl zq (fun hc=>?_) (fun hc=>?_)
    ·refine d7 ?_;refine run_exit rfl ?_;refine d84 ?_
     exact m.weak weakSub (hnext1 _ _ _ (by omega) ⟨j+1,_,_,rfl,by omega,by rw [askP,←hac,if_neg (by show¬leftOf (boatsOf b) j<c;have h5:=leftOf_take (ll:=boatsOf b) (k:=k) (by omega) j;rw [←hw,←hes] at h5;have:=leftOf_mono (List.take_sublist (k+1) (boatsOf b)) j;omega)],hc1,exU rfl,rfl⟩)
    ·refine d13 ?_;refine d91 ?_
     exact m.weak weakSub (hnext2 _ _ _ (by omega) ⟨k+1,bumpI es (((boatsOf b).getD k []).getD j 0) (cntI es (((boatsOf b).getD k []).getD j 0)+1),_,rfl,by omega,fun x=>by
      rw [cntI_bump];by_cases e:x=((boatsOf b).getD k []).getD j 0
      ·rw [if_pos e,e,hes,countAt_yes _ _ _ _ (by omega) rfl];rfl
      ·rw [if_neg e,hes,countAt_no _ _ _ _ (by omega) (fun y=>e y.symm)],by rw [leftOf_take (by omega),←hw,hes],by omega,exU rfl,rfl⟩)
   ·refine d105 ?_;refine rr4 ?_;refine d3 ?_;refine k_as rfl zq ?_;refine d45 ?_;refine d84 ?_
    obtain rfl:k=(boatsOf b).length:=by omega
    rw [List.take_length] at hw
    exact m.weak weakSub (hnext1 _ _ _ (by omega) ⟨j+1,_,_,rfl,by omega,by rw [askP,←hac,if_pos (by show leftOf (boatsOf b) j<c;omega),hw],by have:=leftOf_pos hpos j;omega,exU rfl,rfl⟩)
  ·refine d105 ?_;refine rs5 ?_;refine d3 ?_;refine k_as rfl zq ?_;refine d27 ?_
   refine run_res (h) rfl Tryz.func38 rfl weakSub ?_;refine hK _ _ ?_;obtain rfl:np=j:=by omega
   exact ⟨rfl,by rw [askAt,if_neg (fun e=>e hz0),askLeft,if_neg (fun e=>e hz0),hml,←hac,hz0]⟩
end Go.Proofs
namespace Go.Proofs
open Go.Lo
set_option maxRecDepth 100000
set_option maxHeartbeats 4000000
theorem firsts_length (n:Nat):(firsts n).length=n:=by simp [firsts]
theorem before_irrefl: ∀xs:List Int,before xs xs=false
 |[]=>rfl
 |a::r=>by unfold before;rw [if_pos rfl];exact before_irrefl r
theorem before_trans: ∀xs ys zs:List Int,before xs ys=true→before ys zs=true→before xs zs=true
 |[],[],_,h,_=>by simp [before] at h
 |[],_::_,[],_,h=>by simp [before] at h
 |[],_::_,_::_,_,_=>rfl
 |_::_,[],_,h,_=>by simp [before] at h
 |_::_,_::_,[],_,h=>by simp [before] at h
 |a::r,c::s,d::t,h1,h2=>by
  unfold before at h1 h2⊢
  by_cases e1:a=c
  ·by_cases e2:c=d
   ·rw [if_pos e1] at h1
    rw [if_pos e2] at h2
    rw [if_pos (e1.trans e2)];exact before_trans r s t h1 h2
   ·rw [if_neg e2] at h2
    rw [if_neg (e1▸e2),e1];exact h2
  ·rw [if_neg e1] at h1
   have h1:=of_decide_eq_true h1
   by_cases e2:c=d
   ·rw [if_neg (e2▸e1),←e2];exact decide_eq_true h1
   ·rw [if_neg e2] at h2
    have h2:=of_decide_eq_true h2
    rw [if_neg (by omega)];exact decide_eq_true (by omega)
theorem fewer_irrefl (xs:List Int): ¬fewer xs xs:=by
 rintro (h|⟨_,h⟩)
 ·omega
 ·rw [before_irrefl] at h
  cases h
theorem fewer_trans {xs ys zs:List Int} (h1:fewer xs ys) (h2:fewer ys zs):fewer xs zs:=by
 rcases h1 with h1|⟨h1,h1'⟩<;>rcases h2 with h2|⟨h2,h2'⟩
 ·exact .inl (by omega)
 ·exact .inl (by omega)
 ·exact .inl (by omega)
 ·exact .inr ⟨by omega,before_trans _ _ _ h1' h2'⟩
theorem before_or: ∀xs ys:List Int,xs=ys∨before xs ys=true∨before ys xs=true
 |[],[]=> .inl rfl
 |[],_::_=> .inr (.inl rfl)
 |_::_,[]=> .inr (.inr rfl)
 |a::r,c::s=>by
  unfold before
  by_cases e:a=c
  ·rw [if_pos e,if_pos e.symm];rcases before_or r s with h|h|h
   ·exact .inl (by rw [e,h])
   ·exact .inr (.inl h)
   ·exact .inr (.inr h)
  ·rw [if_neg e,if_neg (fun x=>e x.symm)];rcases Int.lt_or_gt_of_ne e with h|h
   ·exact .inr (.inl (decide_eq_true h))
   ·exact .inr (.inr (decide_eq_true h))
theorem fewer_or (xs ys:List Int):xs=ys∨fewer xs ys∨fewer ys xs:=by
 unfold fewer
 rcases before_or xs ys with h|h|h
 ·exact .inl h
 ·rcases Nat.lt_trichotomy xs.length ys.length with e|e|e
  ·exact .inr (.inl (.inl e))
  ·exact .inr (.inl (.inr ⟨e,h⟩))
  ·exact .inr (.inr (.inl e))
 ·rcases Nat.lt_trichotomy xs.length ys.length with e|e|e
  ·exact .inr (.inl (.inl e))
  ·exact .inr (.inr (.inr ⟨e.symm,h⟩))
  ·exact .inr (.inr (.inl e))
theorem mem_filter_firsts {p:Int→Bool} {k:Nat} {z:Int}:z∈(firsts k).filter p↔ ∃i:Nat,i<k∧z=(i:Int)∧p i=true:=by
 rw [List.mem_filter];unfold firsts
 rw [List.mem_map];constructor
 ·rintro ⟨⟨i,hi,rfl⟩,h⟩;exact ⟨i,List.mem_range.1 hi,rfl,h⟩
 ·rintro ⟨i,hi,rfl,h⟩;exact ⟨⟨i,List.mem_range.2 hi,rfl⟩,h⟩
theorem asc_filter {xs:List Int} (h:Asc xs) (p:Int→Bool):Asc (xs.filter p):=List.Pairwise.sublist List.filter_sublist h
theorem asc_firsts (k:Nat):Asc (firsts k):=by
 unfold firsts
 refine List.pairwise_map.2 ?_
 exact List.Pairwise.imp (fun h=>by omega) List.pairwise_lt_range
theorem asc_keptI (mm k:Nat):Asc (keptI mm k):=asc_filter (asc_firsts _) _
theorem keptI_yes {mm k:Nat} (h:bitN mm k=1):keptI mm (k+1)=keptI mm k++[(k:Int)]:=by
 rw [keptI,firsts_succ,List.filter_append,←keptI,List.filter_cons,Int.toNat_natCast,if_pos (decide_eq_true h)];rfl
theorem keptI_no {mm k:Nat} (h:bitN mm k≠1):keptI mm (k+1)=keptI mm k:=by
 rw [keptI,firsts_succ,List.filter_append,←keptI,List.filter_cons,Int.toNat_natCast,if_neg (by rw [decide_eq_true_iff];exact h)];simp
theorem keptI_le (mm k:Nat):(keptI mm k).length≤k:=by
 have:=List.length_filter_le (fun i:Int=>decide (bitN mm i.toNat=1)) (firsts k)
 rw [firsts_length] at this
 exact this
def bitsum (p:Nat→Bool):Nat→Nat
 |0=>0
 |n+1=>if p n then 2^n+bitsum p n else bitsum p n
theorem bitsum_lt (p:Nat→Bool): ∀n,bitsum p n<2^n
 |0=>Nat.one_pos
 |n+1=>by
  have:=bitsum_lt p n
  rw [bitsum,Nat.pow_succ];split<;>omega
theorem bitsum_bit (p:Nat→Bool): ∀n i,i<n→(bitsum p n).testBit i=p i
 |0,i,h=>by omega
 |n+1,i,h=>by
  rw [bitsum];by_cases e:i=n
  ·subst e
   have h1:=Nat.testBit_lt_two_pow (bitsum_lt p i)
   split
   ·rw [Nat.testBit_two_pow_add_eq,h1];rename_i h
    rw [h];rfl
   ·rename_i h
    rw [h1];exact (Bool.eq_false_iff.2 h).symm
  ·have ih:=bitsum_bit p n i (by omega)
   split
   ·rw [Nat.testBit_two_pow_add_gt (by omega)];exact ih
   ·exact ih
theorem bitN_test (mm i:Nat):bitN mm i=1↔mm.testBit i=true:=by
 rw [Nat.testBit_eq_decide_div_mod_eq];unfold bitN
 simp
theorem mem_keptI {mm k:Nat} {z:Int}:z∈keptI mm k↔ ∃i:Nat,i<k∧z=(i:Int)∧bitN mm i=1:=by
 unfold keptI
 rw [mem_filter_firsts];simp
theorem kept_of {n:Nat} {xs:List Int} (ha:Asc xs) (h: ∀x∈xs,0≤x∧x<n): ∃mm,mm<2^n∧xs=keptI mm n:=by
 refine ⟨bitsum (fun i=>decide ((i:Int)∈xs)) n,bitsum_lt _ _,Asc.eq ha (asc_keptI _ _) fun z=>?_⟩
 rw [mem_keptI];constructor
 ·intro hz
  have h1:=h z hz
  refine ⟨z.toNat,by omega,by omega,(bitN_test _ _).2 ?_⟩
  rw [bitsum_bit _ _ _ (by omega),show ((z.toNat:Nat):Int)=z by omega];exact decide_eq_true hz
 ·rintro ⟨i,hi,rfl,hb⟩;have:=(bitN_test _ _).1 hb
  rw [bitsum_bit _ _ _ hi] at this
  exact of_decide_eq_true this
theorem asc_nodup {ys:List Int} (h:Asc ys):ys.Nodup:=List.Pairwise.imp (fun h=>by omega) h
theorem asc_len {xs:List Int} {n:Nat} (h:Asc xs) (hx: ∀x∈xs,0≤x∧x<n):xs.length≤n:=by
 have:=List.Nodup.length_le_of_subset (l₂:=firsts n) (asc_nodup h) fun z hz=>by
  obtain ⟨h1,h2⟩:=hx z hz
  unfold firsts
  exact List.mem_map.2 ⟨z.toNat,List.mem_range.2 (by omega),by omega⟩
 rwa [firsts_length] at this
def isT (b:Fb) (x:Int):Bool:=decide (x<b.tapes.length)
theorem isT_yes {b:Fb} {x:Int} (h:x<b.tapes.length):isT b x=true:=decide_eq_true h
theorem isT_no {b:Fb} {x:Int} (h: ¬x<b.tapes.length):isT b x=false:=decide_eq_false h
def onlyT (b:Fb) (xs:List Int):List Tp:=(xs.filter fun x=>isT b x).map fun x:Int=>b.tapes.getD x.toNat default
def onlyK (b:Fb) (xs:List Int):List Sk:=(xs.filter fun x=>!isT b x).map fun x:Int=>b.sticks.getD (x-(b.tapes.length:Int)).toNat default
def onlyI (b:Fb) (xs:List Int):Fb:=⟨b.plank,b.pts,onlyT b xs,onlyK b xs⟩
theorem onlyT_yes {b:Fb} {xs:List Int} {x:Int} (h:x<b.tapes.length):onlyT b (xs++[x])=onlyT b xs++[b.tapes.getD x.toNat default]:=by
 unfold onlyT
 rw [List.filter_append,List.map_append,List.filter_cons,if_pos (isT_yes h)];rfl
theorem onlyT_no {b:Fb} {xs:List Int} {x:Int} (h: ¬x<b.tapes.length):onlyT b (xs++[x])=onlyT b xs:=by
 unfold onlyT
 rw [List.filter_append,List.map_append,List.filter_cons,if_neg (by rw [isT_no h];simp)];simp
theorem onlyK_yes {b:Fb} {xs:List Int} {x:Int} (h: ¬x<b.tapes.length):onlyK b (xs++[x])=onlyK b xs++[b.sticks.getD (x-(b.tapes.length:Int)).toNat default]:=by
 unfold onlyK
 rw [List.filter_append,List.map_append,List.filter_cons,if_pos (by rw [isT_no h];rfl)];rfl
theorem onlyK_no {b:Fb} {xs:List Int} {x:Int} (h:x<b.tapes.length):onlyK b (xs++[x])=onlyK b xs:=by
 unfold onlyK
 rw [List.filter_append,List.map_append,List.filter_cons,if_neg (by rw [isT_yes h];simp)];simp
def allN (b:Fb):Nat:=b.tapes.length+b.sticks.length
def InB (b:Fb) (xs:List Int):Prop:= ∀x∈xs,0≤x∧x<allN b
theorem onlyT_mem {b:Fb} {xs:List Int} (hx:InB b xs): ∀t∈onlyT b xs,t∈b.tapes:=fun t ht=>by
 obtain ⟨x,h1,rfl⟩:=List.mem_map.1 ht
 obtain ⟨h1,h2⟩:=List.mem_filter.1 h1
 have h2:x<b.tapes.length:=of_decide_eq_true h2
 have:=hx x h1
 exact mem_getDR.2 ⟨x.toNat,by omega,rfl⟩
theorem onlyK_mem {b:Fb} {xs:List Int} (hx:InB b xs): ∀t∈onlyK b xs,t∈b.sticks:=fun t ht=>by
 obtain ⟨x,h1,rfl⟩:=List.mem_map.1 ht
 obtain ⟨h1,h2⟩:=List.mem_filter.1 h1
 have h2: ¬x<b.tapes.length:=of_decide_eq_false (by simpa [isT] using h2)
 have:=hx x h1
 unfold allN at this
 exact mem_getDR.2 ⟨(x-(b.tapes.length:Int)).toNat,by omega,rfl⟩
theorem onlyT_le {b:Fb} {xs:List Int} (ha:Asc xs) (hx:InB b xs):(onlyT b xs).length≤b.tapes.length:=by
 unfold onlyT
 rw [List.length_map];exact asc_len (asc_filter ha _) fun x h=>by
  obtain ⟨h1,h2⟩:=List.mem_filter.1 h
  exact ⟨(hx x h1).1,of_decide_eq_true h2⟩
theorem asc_shift {xs:List Int} (h:Asc xs) (k:Int):Asc (xs.map (· -k)):=List.pairwise_map.2 (List.Pairwise.imp (fun h=>by omega) h)
theorem onlyK_le {b:Fb} {xs:List Int} (ha:Asc xs) (hx:InB b xs):(onlyK b xs).length≤b.sticks.length:=by
 unfold onlyK
 rw [List.length_map];have:=asc_len (n:=b.sticks.length) (asc_shift (asc_filter ha fun x=>!isT b x) b.tapes.length) fun x h=>by
  obtain ⟨y,h1,rfl⟩:=List.mem_map.1 h
  obtain ⟨h1,h2⟩:=List.mem_filter.1 h1
  have h2: ¬y<b.tapes.length:=of_decide_eq_false (by simpa [isT] using h2)
  have:=hx y h1
  unfold allN at this
  omega
 rwa [List.length_map] at this
theorem onlyI_ok {b:Fb} (v:FOk b) {xs:List Int} (ha:Asc xs) (hx:InB b xs):FOk (onlyI b xs):=
 ⟨v.plank,v.pts,Nat.le_trans (onlyT_le ha hx) v.few,fun t ht=>v.tapes t (onlyT_mem hx t ht),Nat.le_trans (onlyK_le ha hx) v.few',fun t ht=>v.sticks t (onlyK_mem hx t ht)⟩
theorem onlyI_all (b:Fb):onlyI b (firsts (allN b))=b:=by
 have e:firsts (allN b)=firsts b.tapes.length++(List.range b.sticks.length).map fun i:Nat=>((b.tapes.length+i:Nat):Int):=by
  unfold firsts allN
  rw [List.range_add,List.map_append,List.map_map];rfl
 have e1:onlyT b (firsts (allN b))=b.tapes:=by
  unfold onlyT
  rw [e,List.filter_append,List.filter_eq_self.2 (fun x hx=>by
   obtain ⟨i,hi,rfl⟩:=List.mem_map.1 hx
   have:=List.mem_range.1 hi
   exact decide_eq_true (by omega)),List.filter_eq_nil_iff.2 (fun x hx=>by
   obtain ⟨i,hi,rfl⟩:=List.mem_map.1 hx
   unfold isT
   rw [decide_eq_true_iff];omega),List.append_nil]
  unfold firsts
  rw [List.map_map];refine List.ext_getElem (by simp) fun i h1 h2=>?_
  rw [List.getElem_map,List.getElem_range];show b.tapes.getD ((i:Int).toNat) default=_
  rw [Int.toNat_natCast,List.getD_eq_getElem?_getD,List.getElem?_eq_getElem h2];rfl
 have e2:onlyK b (firsts (allN b))=b.sticks:=by
  unfold onlyK
  rw [e,List.filter_append,List.filter_eq_nil_iff.2 (fun x hx=>by
   obtain ⟨i,hi,rfl⟩:=List.mem_map.1 hx
   have:=List.mem_range.1 hi
   unfold isT
   rw [decide_eq_true (by omega)];simp),List.filter_eq_self.2 (fun x hx=>by
   obtain ⟨i,hi,rfl⟩:=List.mem_map.1 hx
   unfold isT
   rw [decide_eq_false (by omega)];rfl),List.nil_append,List.map_map]
  refine List.ext_getElem (by simp) fun i h1 h2=>?_
  rw [List.getElem_map,List.getElem_range];show b.sticks.getD (((b.tapes.length+i:Nat):Int)-b.tapes.length).toNat default=_
  rw [show (((b.tapes.length+i:Nat):Int)-b.tapes.length).toNat=i by omega,List.getD_eq_getElem?_getD,List.getElem?_eq_getElem h2];rfl
 unfold onlyI
 rw [e1,e2]
theorem inB_kept (b:Fb) (mm:Nat):InB b (keptI mm (allN b)):=fun x hx=>by
 obtain ⟨i,hi,rfl,_⟩:=mem_keptI.1 hx
 omega
theorem inB_firsts (b:Fb):InB b (firsts (allN b)):=fun x hx=>by
 obtain ⟨i,hi,rfl⟩:=List.mem_map.1 hx
 have:=List.mem_range.1 hi;omega
def ClashOk (b:Fb) (g:List Int):Prop:=if fbS b≠0∨boatsOf b≠[] then g=[] else
 Asc g∧InB b g∧boatsOf (onlyI b g)=[]∧ ∀xs,Asc xs→InB b xs→boatsOf (onlyI b xs)=[]→ ¬fewer xs g
theorem clash_uniq {b:Fb} {g g2:List Int} (h:ClashOk b g) (h2:ClashOk b g2):g=g2:=by
 unfold ClashOk at h h2
 split at h
 ·rename_i e
  rw [if_pos e] at h2
  rw [h,h2]
 ·rename_i e
  rw [if_neg e] at h2
  obtain ⟨a1,a2,a3,a4⟩:=h
  obtain ⟨c1,c2,c3,c4⟩:=h2
  rcases fewer_or g g2 with e|e|e
  ·exact e
  ·exact absurd e (c4 g a1 a2 a3)
  ·exact absurd e (a4 g2 c1 c2 c3)
theorem clash_le {b:Fb} {g:List Int} (h:ClashOk b g):Asc g∧InB b g∧g.length≤allN b:=by
 unfold ClashOk at h
 split at h
 ·subst h
  exact ⟨List.Pairwise.nil,fun x hx=>by simp at hx,Nat.zero_le _⟩
 ·exact ⟨h.1,h.2.1,asc_len h.1 h.2.1⟩
theorem clash_of {b:Fb} {g:List Int} (h0:fbS b=0) (hb:boatsOf b=[]) (mm:Nat) (hm:boatsOf (onlyI b (keptI mm (allN b)))=[]) (hg:g=keptI mm (allN b)) (hl: ∀nn,nn<2^allN b→boatsOf (onlyI b (keptI nn (allN b)))=[]→ ¬fewer (keptI nn (allN b)) g):ClashOk b g:=by
 unfold ClashOk
 rw [if_neg (by rintro (e|e);exact e h0;exact e hb)];subst hg
 refine ⟨asc_keptI _ _,inB_kept b mm,hm,fun xs ha hx he=>?_⟩
 obtain ⟨nn,n1,rfl⟩:=kept_of ha hx
 exact hl nn n1 he
def gT (b:Fb) (g:List Int):List Int:=g.filter fun x=>isT b x
def gK (b:Fb) (g:List Int):List Int:=(g.filter fun x=>!isT b x).map (· -(b.tapes.length:Int))
theorem gT_yes {b:Fb} {xs:List Int} {x:Int} (h:x<b.tapes.length):gT b (xs++[x])=gT b xs++[x]:=by
 unfold gT
 rw [List.filter_append,List.filter_cons,if_pos (isT_yes h)];rfl
theorem gT_no {b:Fb} {xs:List Int} {x:Int} (h: ¬x<b.tapes.length):gT b (xs++[x])=gT b xs:=by
 unfold gT
 rw [List.filter_append,List.filter_cons,if_neg (by rw [isT_no h];simp)];simp
theorem gK_yes {b:Fb} {xs:List Int} {x:Int} (h: ¬x<b.tapes.length):gK b (xs++[x])=gK b xs++[x-(b.tapes.length:Int)]:=by
 unfold gK
 rw [List.filter_append,List.map_append,List.filter_cons,if_pos (by rw [isT_no h];rfl)];rfl
theorem gK_no {b:Fb} {xs:List Int} {x:Int} (h:x<b.tapes.length):gK b (xs++[x])=gK b xs:=by
 unfold gK
 rw [List.filter_append,List.map_append,List.filter_cons,if_neg (by rw [isT_yes h];simp)];simp
end Go.Proofs
namespace Go.Proofs
open Go.Lo
open Go.Conc (G)
set_option maxRecDepth 100000
set_option synthInstance.maxSize 100000
set_option synthInstance.maxHeartbeats 1000000
set_option maxHeartbeats 4000000
variable {b:Fb} {pp:Option Addr} {np cp:Nat} {pt:Option Addr} {nt ct:Nat} {pk:Option Addr} {nk ck:Nat}
variable {B:Array Obj}
theorem shr_small: ∀mm:Nat,mm<64→ ∀k:Nat,k<6→((mm:Int).fdiv (2^(min (k:Int).toNat IntKind.i64.bits)))=((mm/2^k:Nat):Int):=by decide+kernel
theorem and_small: ∀a:Nat,a<64→IntKind.wrap .i64 ((BitVec.ofInt 64 (a:Int)&&&BitVec.ofInt 64 1).toNat:Int)=((a%2:Nat):Int):=by decide+kernel
theorem onlyT_len (b:Fb) (xs:List Int):(onlyT b xs).length≤xs.length:=by
 unfold onlyT
 rw [List.length_map];exact List.length_filter_le _ _
theorem onlyK_len (b:Fb) (xs:List Int):(onlyK b xs).length≤xs.length:=by
 unfold onlyK
 rw [List.length_map];exact List.length_filter_le _ _
theorem weakOff3 {B:Array Obj} {h' F1 F2 F3 H X Y Z:Hp} [a:Off h' Z F1] [b:Off F1 Y F2] [c:Off F2 X F3] [s:SubH H F3]:Weak B h' (H++X++Y++Z):=
 Weak.trans (Weak.perm a.perm) (Weak.apps (Weak.trans (Weak.perm b.perm) (Weak.apps (Weak.trans (Weak.perm c.perm) (Weak.apps (Weak.sub s.sub) X)) Y)) Z)
theorem encs_tp {x:Tp}:encs [x]=tpL x:=by simp [encs,Enc.enc]
theorem encs_sk {x:Sk}:encs [x]=skL x:=by simp [encs,Enc.enc]
theorem f93_c (m:Md Tryz.prog B) (h:Hp) (rdt:Rt B h b pt nt ct) (rdk:Rk B h b pk nk ck) (h6:nt+nk≤6) {mm:Nat} (hmm:mm<64):FnC m 93 #[fbV b pp np cp pt nt ct pk nk ck,.int .i64 (mm:Int)] h fun v h'=> ∃nI nT nK,h'=h++nI++nT++nK∧ ∃tp tc kp kc w,v= .tuple [.agg [.int .i64 b.plank,.slice pp np cp,.slice tp (onlyT b (keptI mm (nt+nk))).length tc,.slice kp (onlyK b (keptI mm (nt+nk))).length kc].toArray,w].toArray∧RdS B nT 4 (.slice tp (onlyT b (keptI mm (nt+nk))).length tc) (onlyT b (keptI mm (nt+nk))).length (encs (onlyT b (keptI mm (nt+nk))))∧RdS B nK 3 (.slice kp (onlyK b (keptI mm (nt+nk))).length kc) (onlyK b (keptI mm (nt+nk))).length (encs (onlyK b (keptI mm (nt+nk))))∧OwnS 3 1 w (keptI mm (nt+nk)).length (ints (keptI mm (nt+nk))) nI:=by
 have htl0:=rdt.elen (by decide)
 have hkl0:=rdk.elen (by decide)
 refine fn_enter Tryz.func93 rfl rfl (l:=(fbV b pp np cp pt nt ct pk nk ck)::(.int .i64 (mm:Int))::uu73) rfl ?_
 intro cf cs K hK
 refine rs3 ?_;refine k_box rfl zq (fun q2=>k_hp (k_put ?_));refine k_new rfl zq (fun q4=>k_hp (k_put ?_));refine aq rfl ?_;refine d83 ?_;refine d96 ?_
 refine k_new rfl zq (fun q7=>k_hp (k_put ?_));refine d48 ?_;refine rs6 ?_;refine d8 ?_;refine k_st1 rfl zq ?_;refine d8 ?_;refine k_st1 rfl zq ?_;refine d24 ?_;refine rs10 ?_;refine d149 ?_;refine d149 ?_;refine d29 ?_;refine d61 ?_
 refine run_loop (fun nn l h'=> ∃(k:Nat) (ip:Option Addr) (ic:Nat) (nI:Hp) (tp:Option Addr) (tc:Nat) (nT:Hp) (kp:Option Addr) (kc:Nat) (nK:Hp),nn=nt+nk-k∧(k≤nt+nk)∧(OwnS 3 1 (.slice ip (keptI mm k).length ic) (keptI mm k).length (ints (keptI mm k)) nI)∧(OwnS 89 4 (.slice tp (onlyT b (keptI mm k)).length tc) (onlyT b (keptI mm k)).length (encs (onlyT b (keptI mm k))) nT)∧(OwnS 50 3 (.slice kp (onlyK b (keptI mm k)).length kc) (onlyK b (keptI mm k)).length (encs (onlyK b (keptI mm k))) nK)∧(∃U:Nat→Value,l=((fbV b pp np cp pt nt ct pk nk ck)::(.int .i64 (mm:Int))::(.pointer (some ⟨q2,0,none⟩))::(U 3)::(.pointer (some ⟨q4,0,none⟩))::(U 5)::(.slice ip (keptI mm k).length ic)::(.pointer (some ⟨q7,0,none⟩))::vw15 U 8 ((.int .i64 ((nt:Int)+(nk:Int)))::(.int .i64 (k:Int))::vw50 U 25 [])))∧h++[⟨true,q2,.cells (fbL b pp np cp pt nt ct pk nk ck).toArray 96 (0,0)⟩,⟨true,q4,.cells ([.int .i64 0,.slice none 0 0,.slice none 0 0,.slice none 0 0]:List Value).toArray 96 (0,0)⟩,⟨true,q7,.cells ([.int .i64 b.plank,.slice pp np cp,.slice tp (onlyT b (keptI mm k)).length tc,.slice kp (onlyK b (keptI mm k)).length kc]:List Value).toArray 96 (0,0)⟩]++nI++nT++nK=h') _ ⟨0,none,0,[],none,0,[],none,0,[],rfl,by omega,OwnS.nil,OwnS.nil,OwnS.nil,exU rfl,(by simp [onlyT,onlyK,keptI,firsts])⟩ ?_;rintro nn l h' ⟨k,ip,ic,nI,tp,tc,nT,kp,kc,nK,rfl,hk1,ho,hot,hok,⟨U,rfl⟩,rfl⟩ hnext;have hil:=keptI_le mm k
 have htl:=onlyT_len b (keptI mm k)
 have hkl:=onlyK_len b (keptI mm k)
 refine rs1 ?_;refine k_lssS rfl zq (fun hc=>?_) (fun hc=>?_)
 ·refine d104 ?_;refine d19 ?_;refine d12 ?_;refine rs7 ?_;refine mq rfl ?_;refine d28 ?_;refine d73 ?_;refine d53 ?_;refine rs6 ?_;refine d3 ?_
  refine k_shr ((mm/2^k:Nat):Int) rfl zq (by omega) (shr_small mm hmm k (by omega)) ?_;refine k_and ((mm/2^k%2:Nat):Int) rfl zq (and_small _ (Nat.lt_of_le_of_lt (Nat.div_le_self _ _) hmm)) ?_;refine k_eqlS rfl zq (fun hc=>?_) (fun hc=>?_)
  ·have hbit:bitN mm k≠1:=by unfold bitN;omega
   refine d56 ?_;refine run_exit rfl ?_;refine d84 ?_
   rw [←keptI_no hbit] at ho hot hok
   rw [←keptI_no hbit];exact m.weak weakSub (hnext _ _ _ (by omega) ⟨k+1,_,_,nI,_,_,nT,_,_,nK,rfl,by omega,ho,hot,hok,exU rfl,rfl⟩)
  ·have hbit:bitN mm k=1:=by unfold bitN;omega
   refine d90 ?_;refine d44 ?_
   refine k_lssS rfl zq (fun hc=>?_) (fun hc=>?_)
   ·have hlt:(k:Int)<b.tapes.length:=by omega
    refine d56 ?_
    obtain ⟨tb,to,rfl⟩:=rdt.ptr (by omega)
    have hok1:=hok
    rw [←onlyK_no (b:=b) hlt,←keptI_yes hbit] at hok1
    refine run_draw [(0,.pure),(1,.pure),(3,.pure),(4,.pure),(6,.pure),(2,.read),(5,.read),(7,.pure),(8,.read),(9,.keep),(10,.free),(11,.pure),(12,.pure),(13,.free)] (by kernel_rfl) (by kernel_rfl) (List.Sublist.refl _) ?_;refine d8 ?_;refine d8 ?_;refine mq rfl ?_;refine d81 ?_;refine k_ixs rfl zq (by first|rfl|assumption) (by omega) (by omega) ?_
    refine k_ldN (vs:=tpL (b.tapes.getD k default)) rfl zq rfl (rdt.eat k (by omega) (by omega)) ?_;refine k_bs kdq rfl zq (by decide) (by decide) rfl (fun q64=>k_hp (k_put ?_));refine k_app1O rfl zq rfl hot kdq (by omega) (by omega) (fun w65 n65 o65=>k_put ?_);replace o65:OwnS 89 4 w65 (onlyT b (keptI mm (k+1))).length (encs (onlyT b (keptI mm (k+1)))) n65:=by
     rw [keptI_yes hbit,onlyT_yes hlt,encs_append,encs_tp,List.length_append];exact o65
    obtain ⟨p65,c65,rfl,_⟩:=o65.len
    refine d8 ?_;refine d74 ?_;refine run_inBlock ?_;refine rr5 ?_;refine d3 ?_
    refine k_bs kdq rfl zq (by decide) (by decide) rfl (fun q70=>k_hp (k_put ?_));refine k_app1O rfl zq rfl ho kdq (by omega) (by omega) (fun w70 n70 o70=>k_put ?_);replace o70:OwnS 3 1 w70 (keptI mm (k+1)).length (ints (keptI mm (k+1))) n70:=by
     rw [keptI_yes hbit,ints_append,List.length_append];exact o70
    obtain ⟨p70,c70,rfl,_⟩:=o70.len
    refine d45 ?_;refine d84 ?_
    rw [←show onlyK b (keptI mm (k+1))=onlyK b (keptI mm k) by rw [keptI_yes hbit,onlyK_no hlt]];refine m.weak (h':=h++[⟨true,q2,.cells (fbL b pp np cp (some ⟨tb,to,none⟩) nt ct pk nk ck).toArray 96 (0,0)⟩,⟨true,q4,.cells ([.int .i64 0,.slice none 0 0,.slice none 0 0,.slice none 0 0]:List Value).toArray 96 (0,0)⟩,⟨true,q7,.cells ([.int .i64 b.plank,.slice pp np cp,.slice p65 (onlyT b (keptI mm (k+1))).length c65,.slice kp (onlyK b (keptI mm (k+1))).length kc]:List Value).toArray 96 (0,0)⟩]++n70++n65++nK) weakOff3 ?_
    exact hnext _ _ _ (by omega) ⟨k+1,_,_,n70,_,_,n65,_,_,nK,rfl,by omega,o70,o65,hok1,exU rfl,rfl⟩
   ·have hge: ¬(k:Int)<b.tapes.length:=by omega
    refine d90 ?_
    obtain ⟨kb,ko,rfl⟩:=rdk.ptr (by omega)
    have hot1:=hot
    rw [←onlyT_no (b:=b) hge,←keptI_yes hbit] at hot1
    refine run_draw [(0,.pure),(1,.pure),(3,.pure),(4,.pure),(6,.pure),(2,.read),(5,.read),(7,.pure),(8,.read),(9,.keep),(10,.free),(11,.pure),(12,.pure),(13,.free)] (by kernel_rfl) (by kernel_rfl) (List.Sublist.refl _) ?_;refine d8 ?_;refine d8 ?_;refine mq rfl ?_;refine d81 ?_;refine k_ixs rfl zq (by first|rfl|assumption) (by omega) (by omega) ?_
    refine k_ldN (vs:=skL (b.sticks.getD (k-nt) default)) rfl zq rfl (rdk.eat (k-nt) (by omega) (by omega)) ?_;refine k_bs kdq rfl zq (by decide) (by decide) rfl (fun q42=>k_hp (k_put ?_));refine k_app1O rfl zq rfl hok kdq (by omega) (by omega) (fun w43 n43 o43=>k_put ?_);replace o43:OwnS 50 3 w43 (onlyK b (keptI mm (k+1))).length (encs (onlyK b (keptI mm (k+1)))) n43:=by
     rw [keptI_yes hbit,onlyK_yes hge,show ((k:Int)-b.tapes.length).toNat=k-nt by omega,encs_append,encs_sk,List.length_append];exact o43
    obtain ⟨p43,c43,rfl,_⟩:=o43.len
    refine d8 ?_;refine d74 ?_;refine run_inBlock ?_;refine rr5 ?_;refine d3 ?_
    refine k_bs kdq rfl zq (by decide) (by decide) rfl (fun q70=>k_hp (k_put ?_));refine k_app1O rfl zq rfl ho kdq (by omega) (by omega) (fun w70 n70 o70=>k_put ?_);replace o70:OwnS 3 1 w70 (keptI mm (k+1)).length (ints (keptI mm (k+1))) n70:=by
     rw [keptI_yes hbit,ints_append,List.length_append];exact o70
    obtain ⟨p70,c70,rfl,_⟩:=o70.len
    refine d45 ?_;refine d84 ?_
    rw [←show onlyT b (keptI mm (k+1))=onlyT b (keptI mm k) by rw [keptI_yes hbit,onlyT_no hge]];refine m.weak (h':=h++[⟨true,q2,.cells (fbL b pp np cp pt nt ct (some ⟨kb,ko,none⟩) nk ck).toArray 96 (0,0)⟩,⟨true,q4,.cells ([.int .i64 0,.slice none 0 0,.slice none 0 0,.slice none 0 0]:List Value).toArray 96 (0,0)⟩,⟨true,q7,.cells ([.int .i64 b.plank,.slice pp np cp,.slice tp (onlyT b (keptI mm (k+1))).length tc,.slice p43 (onlyK b (keptI mm (k+1))).length c43]:List Value).toArray 96 (0,0)⟩]++n70++nT++n43) weakOff3 ?_
    exact hnext _ _ _ (by omega) ⟨k+1,_,_,n70,_,_,nT,_,_,n43,rfl,by omega,o70,hot1,o43,exU rfl,rfl⟩
 ·refine d105 ?_;refine rs4 ?_
  obtain rfl:k=nt+nk:=by omega
  refine d71 ?_;refine d72 ?_
  refine run_res (h++nI++nT++nK) rfl Tryz.func93 rfl weakSub ?_;refine hK _ _ ?_;exact ⟨nI,nT,nK,rfl,_,_,_,_,_,rfl,hot.rd (List.Sublist.refl _),hok.rd (List.Sublist.refl _),ho⟩
def cmpF (xs ys:List Int):Int:=if (xs.length:Int)≠ys.length then (xs.length:Int)-ys.length else cmpL xs ys
theorem cmpL_before: ∀{xs ys:List Int},xs.length=ys.length→(cmpL xs ys<0↔before xs ys=true)
 |[],[],_=>by simp [cmpL,before]
 |[],_::_,h=>by simp at h
 |_::_,[],h=>by simp at h
 |a::r,c::s,h=>by
  have ih:=cmpL_before (xs:=r) (ys:=s) (by simpa using h)
  unfold cmpL before
  by_cases e:a=c
  ·subst e
   rw [if_neg (by omega),if_neg (by omega),if_pos rfl];exact ih
  ·rw [if_neg e,decide_eq_true_iff];by_cases e1:a<c
   ·rw [if_pos e1];exact ⟨fun _=>e1,fun _=>by decide⟩
   ·rw [if_neg e1,if_pos (by omega)];exact ⟨fun h=>by omega,fun h=>absurd h e1⟩
theorem cmpF_lt {xs ys:List Int}:cmpF xs ys<0↔fewer xs ys:=by
 unfold cmpF fewer
 by_cases e:(xs.length:Int)=ys.length
 ·rw [if_neg (fun h=>h e),cmpL_before (by omega)];exact ⟨fun h=> .inr ⟨by omega,h⟩,fun h=>h.elim (fun h=>by omega) (·.2)⟩
 ·rw [if_pos e];exact ⟨fun h=> .inl (by omega),fun h=>h.elim (fun h=>by omega) (fun h=>by omega)⟩
def ltF (xs ys:List Int):Bool:=decide (cmpF xs ys<0)
theorem fewest_of {ll:List (List Int)} (h:0<ll.length): ∀x∈ll,¬fewer x (bestBy ltF ll):=by
 have gen: ∀(r:List (List Int)) (a:List Int),(∀x∈a::r,¬fewer x (r.foldl (fun o x=>if ltF x o then x else o) a)):=by
  intro r
  induction r with
  |nil=>intro a x hx;rw [List.mem_singleton.1 hx];exact fewer_irrefl _
  |cons y r ih=>
   intro a x hx
   rw [List.foldl_cons];have h1:=ih (if ltF y a then y else a)
   by_cases e:ltF y a=true
   ·rw [if_pos e] at h1⊢
    rcases List.mem_cons.1 hx with rfl|hx
    ·intro hf
     exact h1 y List.mem_cons_self (fewer_trans (cmpF_lt.1 (of_decide_eq_true e)) hf)
    ·exact h1 x hx
   ·rw [if_neg e] at h1⊢
    rcases List.mem_cons.1 hx with rfl|hx
    ·exact h1 x List.mem_cons_self
    ·rcases List.mem_cons.1 hx with rfl|hx
     ·intro hf
      have e1: ¬fewer x a:=fun hh=>e (decide_eq_true (cmpF_lt.2 hh))
      rcases fewer_or x a with rfl|e2|e2
      ·exact h1 x List.mem_cons_self hf
      ·exact e1 e2
      ·exact h1 a List.mem_cons_self (fewer_trans e2 hf)
     ·exact h1 x (List.mem_cons_of_mem _ hx)
 cases ll with
 |nil=>simp at h
 |cons a r=>exact gen r a
theorem callB98:callB Tryz.prog 98=true:=by kernel_rfl
theorem f98_c (m:Md Tryz.prog B) (h:Hp) {p:Option Addr} {n c:Nat} {xs:List Int} (rd:RdS B h 1 (.slice p n c) n (ints xs)) (hn:n≤1000000) {p2:Option Addr} {n2 c2:Nat} {ys:List Int} (rd2:RdS B h 1 (.slice p2 n2 c2) n2 (ints ys)) (hn2:n2≤1000000):FnC m 98 #[.slice p n c,.slice p2 n2 c2] h fun v h'=>h'=h∧v= .int .i64 (cmpF xs ys):=by
 have hl:=rd.ilen
 have hl2:=rd2.ilen
 refine fn_enter Tryz.func98 rfl rfl (l:=(.slice p n c)::(.slice p2 n2 c2)::uu16) rfl ?_
 intro cf cs K hK
 refine d69 ?_;refine d140 ?_;refine d70 ?_;refine k_len rfl zq ?_
 refine k_neqS rfl zq (fun hc=>?_) (fun hc=>?_)
 ·refine d7 ?_;refine rs6 ?_;refine mq rfl ?_;refine d70 ?_;refine d73 ?_;refine d0 ?_
  refine run_res (h) rfl Tryz.func98 rfl weakSub ?_;refine hK _ _ ?_;exact ⟨rfl,by rw [cmpF,if_pos (by omega),hl,hl2]⟩
 ·refine d13 ?_;refine d65 ?_
  refine k_calP (Post:=fun v=>v=_) rfl zq (by kernel_rfl) (fun H' hH=>f99_c m H' (rd.keeps (sq hH)) hn (rd2.keeps (sq hH))) ?_;rintro v rfl;refine d111 ?_
  refine run_res (h) rfl Tryz.func98 rfl weakSub ?_;refine hK _ _ ?_;exact ⟨rfl,by rw [cmpF,if_neg (by omega)]⟩
theorem f97_c (m:Md Tryz.prog B) (h:Hp) {p:Option Addr} {c:Nat} {vs:List Value} {ll:List (List Int)} (rdv:RdS B h 1 (.slice p ll.length c) ll.length vs) (rde:RdE B h vs ll) (hn:ll.length≤10000) (h0:0<ll.length) (hl: ∀l∈ll,l.length≤1000):
  FnC m 97 #[.slice p ll.length c,.func (.func 98) #[] #[]] h fun v h'=>h'=h∧RdI B h v (bestBy ltF ll):=by
 refine fn_enter Tryz.func97 rfl rfl (l:=(.slice p ll.length c)::(.func (.func 98) #[] #[])::uu31) rfl ?_
 intro cf cs K hK
 refine d69 ?_;refine d44 ?_;refine k_len rfl zq ?_
 refine k_lssS rfl zq (fun hc=>?_) (fun hc=>?_)
 ·exfalso
  omega
 ·refine d38 ?_
  obtain ⟨rb,ro,rfl⟩:=rdv.ptr (by omega)
  obtain ⟨gp0,gc0,ge0,gr0⟩:=rde.2 0 (by omega)
  refine rr4 ?_;refine d39 ?_;refine k_ld (v:= .slice gp0 (ll.getD 0 []).length gc0) rfl zq (by rw [←ge0];exact rdv.vat 0 (by omega) (by omega)) ?_;refine d12 ?_;refine d135 ?_
  refine run_loop (fun nn l h'=> ∃(k:Nat) (gp:Option Addr) (gc:Nat) (w:List Int),nn=ll.length-k∧(0<k)∧(k≤ll.length)∧(w=bestBy ltF (ll.take k))∧(RdS B h 1 (.slice gp w.length gc) w.length (ints w))∧(w∈ll)∧(∃U:Nat→Value,l=((.slice (some ⟨rb,ro,none⟩) ll.length c)::(.func (.func 98) #[] #[])::(U 2)::(U 3)::(U 4)::(.slice gp w.length gc)::(.int .i64 (k:Int))::vw26 U 7 []))∧h=h') _ ⟨1,gp0,gc0,ll.getD 0 [],rfl,by omega,by omega,by rw [bestBy_one],gr0,mem_getDR.2 ⟨0,by omega,rfl⟩,exU rfl,rfl⟩ ?_;rintro nn l h' ⟨k,gp,gc,w,rfl,hk0,hk,hw,hwr,hwm,⟨U,rfl⟩,rfl⟩ hnext;refine run_seq ?_;refine d120 ?_;refine k_lssS rfl zq (fun hc=>?_) (fun hc=>?_)
  ·refine d94 ?_;refine run_seq ?_
   have hkm:ll.getD k []∈ll:=mem_getDR.2 ⟨k,by omega,rfl⟩
   obtain ⟨ep,ec,ee,er⟩:=rde.2 k (by omega)
   have hlk:=hl _ hkm
   have hlw:=hl _ hwm
   refine rr8 ?_;refine d3 ?_;refine d39 ?_;refine k_ld (v:= .slice ep (ll.getD k []).length ec) rfl zq (by rw [←ee];exact rdv.vat k (by omega) (by omega)) ?_;refine mq rfl ?_
   refine k_valP (Post:=fun v=>v=_) rfl zq callB98 (fun H' hH=>f98_c m H' (er.keeps (sq hH)) (by omega) (hwr.keeps (sq hH)) (by omega)) ?_;rintro v rfl;refine k_put ?_;refine k_lssS rfl zq (fun hc=>?_) (fun hc=>?_)
   ·refine d7 ?_;refine rr5 ?_;refine d11 ?_
    refine k_ld (v:= .slice ep (ll.getD k []).length ec) rfl zq (by rw [←ee];exact rdv.vat k (by omega) (by omega)) ?_;refine d45 ?_;refine rr3 ?_;refine d59 ?_
    exact m.weak weakSub (hnext _ _ _ (by omega) ⟨k+1,ep,ec,ll.getD k [],rfl,by omega,by omega,by rw [bestBy_succ _ _ _ (by omega) (by omega),if_pos (by rw [←hw];exact decide_eq_true (by omega))],er,hkm,exU rfl,rfl⟩)
   ·refine d13 ?_;refine d110 ?_
    exact m.weak weakSub (hnext _ _ _ (by omega) ⟨k+1,gp,gc,w,rfl,by omega,by omega,by rw [bestBy_succ _ _ _ (by omega) (by omega),if_neg (by rw [←hw];unfold ltF;rw [decide_eq_true_iff];omega),hw],hwr,hwm,exU rfl,rfl⟩)
  ·refine d67 ?_;refine d95 ?_
   refine run_res (h) rfl Tryz.func97 rfl weakSub ?_;refine hK _ _ ?_;obtain rfl:k=ll.length:=by omega
   rw [List.take_of_length_le (by omega)] at hw
   exact ⟨rfl,_,_,by rw [←hw],by rw [←hw];exact hwr⟩
end Go.Proofs
