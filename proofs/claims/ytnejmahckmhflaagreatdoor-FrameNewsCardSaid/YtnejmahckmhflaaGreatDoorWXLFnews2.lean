/- A part of the proof of a law: my own separation logic over the machine, and walks of the program. Condition of each theorem: as its statement says. -/
import Derived.Test.YtnejmahckmhflaaGreatDoorWXLFnews1
set_option linter.all false
namespace Go.Proofs
open Go.Lo
open Go.Conc (G)
set_option maxRecDepth 100000
set_option synthInstance.maxSize 100000
set_option synthInstance.maxHeartbeats 1000000
set_option maxHeartbeats 4000000
variable {b:Fb} {pp:Option Addr} {np cp:Nat} {pt:Option Addr} {nt ct:Nat} {pk:Option Addr} {nk ck:Nat}
variable {B:Array Obj}
variable [LaidF B]
theorem setSeg_encs {α:Type} {k:Nat} [Enc α k] {xs:List α} {junk:List Value} {j:Int} {i:Nat} (a:α) (hj:j=i) (hi:i<xs.length):SetSeg (encs xs++junk) (0+j.toNat*k) (Enc.enc a) (encs (xs.set i a)++junk):=by
 subst hj
 have hl:(Enc.enc a).length=k:=Enc.len a
 have hle:i*k+k≤(encs xs).length:=by
  rw [encs_length];have:(i+1)*k≤xs.length*k:=Nat.mul_le_mul_right k hi
  rw [Nat.add_mul] at this
  omega
 refine ⟨?_,by rw [Int.toNat_natCast,hl,List.length_append];omega⟩
 rw [Int.toNat_natCast,Nat.zero_add,hl,List.take_append_of_le_length (by omega),List.drop_append_of_le_length (by omega),←encs_take,show i*k+k=(i+1)*k by rw [Nat.add_mul];omega,←encs_drop,List.set_eq_take_append_cons_drop,if_pos hi,encs_append];simp [encs]
theorem own_blk_of {t k n:Nat} {v:Value} {cs:List Value} {new:Hp} (o:OwnS t k v n cs new) (h0:0<n): ∃q cap junk,v= .slice (some ⟨q,0,none⟩) n cap∧new=[⟨true,q,.cells (cs++junk).toArray t (0,0)⟩]∧n≤cap∧cs.length+junk.length=cap*k:=by
 cases o with
 |nil=>omega
 |blk hl hc hn=>exact ⟨_,_,_,rfl,rfl,hn,hc⟩
def measS0 (b:Fb) (st lo hi:Int):Int:=if fbS b≠0 then fbS b else if¬(0≤st∧st≤(b.pts.length:Int)-1) then 6 else if¬(0≤lo∧lo≤hi∧hi≤959) then 1
 else if max (b.pts.getD st.toNat default).lo lo>min (b.pts.getD st.toNat default).hi hi then 9 else 0
def measB0 (b:Fb) (st lo hi:Int):Fb:=setP b st.toNat (max (b.pts.getD st.toNat default).lo lo) (min (b.pts.getD st.toNat default).hi hi)
def measS (b:Fb) (st lo hi:Int):Int:=if measS0 b st lo hi≠0 then measS0 b st lo hi else openS (measB0 b st lo hi) 0
def measF (b:Fb) (st lo hi:Int):Fb:=if measS0 b st lo hi≠0 then noF else agreeF (measB0 b st lo hi)
theorem setSeg_part {xs:List Pt} {junk:List Value} {j:Int} {i:Nat} {lo hi:Int} (hj:j=i) (h:i<xs.length):SetSeg (encs xs++junk) (0+j.toNat*3+1) [.int .i64 lo,.int .i64 hi] (encs (xs.set i ⟨(xs.getD i default).h,lo,hi⟩)++junk):=by
 obtain ⟨s1,s2⟩:=(setSeg_encs (junk:=junk) (⟨(xs.getD i default).h,lo,hi⟩:Pt) hj h).eq
 subst hj
 have hd:xs.drop i=xs.getD i default::xs.drop (i+1):=by
  rw [List.drop_eq_getElem_cons h,List.getD_eq_getElem?_getD,List.getElem?_eq_getElem h];rfl
 have hl:i*3≤(encs xs).length:=by rw [encs_length];omega
 have hg:(encs xs++junk)[i*3]?=some (.int .i64 (xs.getD i default).h):=by
  have e:(encs xs++junk).drop (i*3)=encs (xs.drop i)++junk:=by rw [List.drop_append_of_le_length hl,encs_drop]
  have e2:((encs xs++junk).drop (i*3))[0]?=some (.int .i64 (xs.getD i default).h):=by rw [e,hd];rfl
  rw [List.getElem?_drop] at e2
  simpa using e2
 have hlen:(Enc.enc (⟨(xs.getD i default).h,lo,hi⟩:Pt):List Value).length=3:=rfl
 rw [Int.toNat_natCast,Nat.zero_add] at s1 s2⊢
 rw [hlen] at s1 s2
 refine ⟨?_,by show i*3+1+2≤_;omega⟩
 rw [s1,List.take_add_one,hg];show List.take (i*3) (encs xs++junk)++[Value.int .i64 (xs.getD i default).h,.int .i64 lo,.int .i64 hi]++List.drop (i*3+3) (encs xs++junk)=List.take (i*3) (encs xs++junk)++[Value.int .i64 (xs.getD i default).h]++[.int .i64 lo,.int .i64 hi]++List.drop (i*3+1+2) (encs xs++junk)
 simp only [List.append_assoc,List.cons_append,List.nil_append]
theorem f71_c (m:Md Tryz.prog B) (h:Hp) (rdp:Rp B h b pp np cp) (hp:np≤1000) {i:Nat} (hi':i<np) (lo hi:Int):FnC m 71 #[fbV b pp np cp pt nt ct pk nk ck,.int .i64 (i:Int),.agg [.int .i64 lo,.int .i64 hi].toArray] h fun v h'=> ∃new,h'=h++new∧ ∃pp2 cp2,v=fbV (setP b i lo hi) pp2 np cp2 pt nt ct pk nk ck∧np≤cp2∧RdS B new 3 (.slice pp2 np cp2) np (encs (setP b i lo hi).pts):=by
 have hml:=rdp.elen (by decide)
 refine fn_enter Tryz.func71 rfl rfl (l:=(fbV b pp np cp pt nt ct pk nk ck)::(.int .i64 (i:Int))::(.agg [.int .i64 lo,.int .i64 hi].toArray)::uu18) rfl ?_
 intro cf cs K hK
 refine rs3 ?_;refine k_box rfl zq (fun q3=>k_hp (k_put ?_));refine k_box rfl zq (fun q5=>k_hp (k_put ?_));refine k_new rfl zq (fun q6=>k_hp (k_put ?_));refine k_nil ?_;refine d94 ?_;refine k_new rfl zq (fun q7=>k_hp (k_put ?_));refine d48 ?_;refine rs6 ?_
 refine k_bs0 kdq rfl zq (fun q9=>k_hp (k_put ?_));refine d2 ?_
 refine k_appO rfl zq (OwnS.zero (q:=q9)) rdp.up (encs_one _) kdq (by omega) (by omega) (fun w12 n12 o12=>k_put ?_);replace o12:OwnS 80 3 w12 np (encs b.pts) n12:=by simpa using o12
 obtain ⟨qm,cp2,junk,rfl,rfl,hcp,hcc⟩:=own_blk_of o12 (by omega)
 refine d141 ?_;refine rs7 ?_;refine d2 ?_;refine mq rfl ?_;refine k_ldA rfl zq ?_;refine d20 ?_
 haveI hsg:SetSeg (encs b.pts++junk) (0+(i:Int).toNat*3+1) [.int .i64 lo,.int .i64 hi] (encs (b.pts.set i ⟨(b.pts.getD i default).h,lo,hi⟩)++junk):=setSeg_part rfl (by omega)
 refine d48 ?_;refine d113 ?_;refine d91 ?_
 refine run_res (h++[⟨true,qm,.cells (encs (b.pts.set i ⟨(b.pts.getD i default).h,lo,hi⟩)++junk).toArray 80 (0,0)⟩]) rfl Tryz.func71 rfl weakSub ?_;refine hK _ _ ?_;exact ⟨_,rfl,_,_,rfl,hcp,(OwnS.blk (t:=80) (k:=3) (n:=np) (cap:=cp2) (b:=qm) (cs:=encs (b.pts.set i ⟨(b.pts.getD i default).h,lo,hi⟩)) (junk:=junk) (by rw [encs_length,List.length_set,hml]) (by rw [encs_length,List.length_set];rw [encs_length] at hcc;exact hcc) hcp).rd (List.Sublist.refl _)⟩
theorem f77_c (m:Md Tryz.prog B) (h:Hp) (rdp:Rp B h b pp np cp) (hp:np≤1000) (rdt:Rt B h b pt nt ct) (ht:nt≤1000) (rdk:Rk B h b pk nk ck) (hk:nk≤1000) (st lo hi:Int):FnC m 77 #[fbV b pp np cp pt nt ct pk nk ck,.int .i64 st,.agg [.int .i64 lo,.int .i64 hi].toArray] h fun v h'=> ∃nw,h'=h++nw∧ ∃w,v= .tuple [w,.int .i64 (measS b st lo hi)].toArray∧ ∀S,RdS B S 3 (.slice pp np cp) np (encs b.pts)→RdS B S 4 (.slice pt nt ct) nt (encs b.tapes)→RdS B S 3 (.slice pk nk ck) nk (encs b.sticks)→BkF B (measF b st lo hi) (S++nw) w:=by
 have hml:=rdp.elen (by decide)
 have htl:=rdt.elen (by decide)
 have hkl:=rdk.elen (by decide)
 refine fn_enter Tryz.func77 rfl rfl (l:=[fbV b pp np cp pt nt ct pk nk ck,.int .i64 st,.agg [.int .i64 lo,.int .i64 hi].toArray,undef,undef,undef,undef,undef,undef,undef,undef,undef,undef,undef,undef,undef,undef,undef,undef,undef,undef,undef,undef,undef,undef,undef,undef,undef,undef,undef,undef,undef,undef,undef,undef,undef,undef,undef,undef,undef,undef,undef,undef,undef,undef,undef]) rfl ?_
 intro cf cs K hK
 refine rs4 ?_;refine k_box rfl zq (fun q3=>k_hp (k_put ?_));refine k_box rfl zq (fun q5=>k_hp (k_put ?_));refine k_new rfl zq (fun q6=>k_hp (k_put ?_));refine d12 ?_;refine d94 ?_
 refine k_calP (Post:=fun v=>v=_) rfl zq (by kernel_rfl) (fun H' hH=>f22_c m H' (rdp.keeps (sq hH)) hp (rdt.keeps (sq hH)) ht (rdk.keeps (sq hH)) hk) ?_;rintro v rfl;refine d135 ?_
 refine k_neqS rfl zq (fun hc=>?_) (fun hc=>?_)
 ·refine d7 ?_;refine rs4 ?_
  have hS:measS0 b st lo hi=fbS b:=by rw [measS0,if_pos hc]
  refine d112 ?_;refine d70 ?_
  refine run_res (h) rfl Tryz.func77 rfl weakSub ?_;refine hK _ _ ?_;exact ⟨[],by simp,_,by rw [measS,if_pos (by rw [hS];first|decide|assumption),hS],fun S _ _ _=>by rw [measF,if_pos (by rw [hS];first|decide|assumption)];exact BkF.zero⟩
 ·refine d37 ?_;refine run_seq ?_
  have hz:fbS b=0:=by omega
  have hv:=fbS_zero hz
  have hv1:=hv.pts.five
  have hS0:measS0 b st lo hi=measS0 b st lo hi:=rfl
  conv at hS0=>rhs;rw [measS0,if_neg (fun e=>e hz)]
  refine rr4 ?_;refine d69 ?_;refine k_calP (Post:=fun v=>IsB _ v) rfl zq (by kernel_rfl) (fun H' hH=>f115_c m H' st hp) ?_;rintro v (⟨hc,rfl⟩|⟨hc,rfl⟩)
  ·refine d43 ?_;refine d37 ?_;refine d94 ?_
   refine k_calP (Post:=fun v=>IsB _ v) rfl zq (by kernel_rfl) (fun H' hH=>f149_c m H' _ _ _ _) ?_;rintro v (⟨hc,rfl⟩|⟨hc,rfl⟩)
   ·refine d43 ?_;refine d37 ?_
    obtain ⟨i,rfl⟩:=Int.eq_ofNat_of_zero_le (show 0≤st by omega)
    obtain ⟨mb,mo,rfl⟩:=rdp.ptr (by omega)
    refine run_draw [(0,.pure),(2,.pure),(1,.read),(3,.pure),(4,.pure),(5,.read),(6,.read),(7,.call),(8,.alloc),(9,.free)] (by kernel_rfl) (by kernel_rfl) (List.Sublist.refl _) ?_;(first|refine k_fa0 rfl zq ?_|refine k_fa rfl zq ?_);refine mq rfl ?_;refine k_ldh rfl zq ?_;refine d20 ?_
    refine k_ldN (vs:=[.int .i64 (b.pts.getD i default).lo,.int .i64 (b.pts.getD i default).hi]) rfl zq rfl (rdp.eatF i 1 (by omega) (by omega) rfl) ?_;refine k_ldA rfl zq ?_;refine k_calP (Post:=fun v=>v=_) rfl zq (by kernel_rfl) (fun H' hH=>f80_c m H' _ _ _ _) ?_;rintro v rfl;refine k_put ?_;refine k_new rfl zq (fun q9=>k_hp (k_put ?_));refine d129 ?_;refine rs5 ?_;refine d2 ?_;refine d2 ?_
    refine k_gtrS rfl zq (fun hc=>?_) (fun hc=>?_)
    ·refine d7 ?_;refine rs3 ?_
     have hS:measS0 b (i:Int) lo hi=9:=by rw [hS0,if_neg (fun e=>e (by omega)),if_neg (fun e=>e (by omega)),if_pos (by rw [Int.toNat_natCast];show (max (b.pts.getD i default).lo lo)>(min (b.pts.getD i default).hi hi);omega)]
     refine k_bld rfl zq ?_;refine d70 ?_;refine run_res (h) rfl Tryz.func77 rfl weakSub ?_;refine hK _ _ ?_;exact ⟨[],by simp,_,by rw [measS,if_pos (by rw [hS];first|decide|assumption),hS],fun S _ _ _=>by rw [measF,if_pos (by rw [hS];first|decide|assumption)];exact BkF.zero⟩
    ·refine d37 ?_
     have hS:measS0 b (i:Int) lo hi=0:=by rw [hS0,if_neg (fun e=>e (by omega)),if_neg (fun e=>e (by omega)),if_neg (by rw [Int.toNat_natCast];show¬(max (b.pts.getD i default).lo lo)>(min (b.pts.getD i default).hi hi);omega)]
     refine rr9 ?_;refine d69 ?_;refine k_ldA rfl zq ?_;refine k_calC rfl zq (by kernel_rfl) (Post:=fun v new=> ∃pp2 cp2,v=fbV (setP b i (max (b.pts.getD i default).lo lo) (min (b.pts.getD i default).hi hi)) pp2 np cp2 pt nt ct pk nk ck∧np≤cp2∧RdS B new 3 (.slice pp2 np cp2) np (encs (setP b i (max (b.pts.getD i default).lo lo) (min (b.pts.getD i default).hi hi)).pts)) (fun H' hH=>f71_c m H' (b:=b) (rdp.keeps (sq hH)) hp (by omega) (max (b.pts.getD i default).lo lo) (min (b.pts.getD i default).hi hi)) ?_;rintro v n71 ⟨pp2,cp2,rfl,hcm2,rp71⟩;refine k_hpA (k_put ?_);refine k_calP (Post:=fun v=> ∃w,v= .tuple [w,.int .i64 (openS (setP b i (max (b.pts.getD i default).lo lo) (min (b.pts.getD i default).hi hi)) 0)].toArray∧w=if openS (setP b i (max (b.pts.getD i default).lo lo) (min (b.pts.getD i default).hi hi)) 0=0 then (fbV (setP b i (max (b.pts.getD i default).lo lo) (min (b.pts.getD i default).hi hi)) pp2 np cp2 pt nt ct pk nk ck) else zeroF) rfl zq (by kernel_rfl) (fun H' hH=>f148_c m H' (b:=(setP b i (max (b.pts.getD i default).lo lo) (min (b.pts.getD i default).hi hi))) (rp71.keeps (sq hH)) (by omega) (rdt.keeps (sq hH)) ht (rdk.keeps (sq hH)) hk) ?_;rintro v ⟨w148,rfl,hw148⟩;obtain ⟨b1,pp1,np1,cp1,pt1,nt1,ct1,pk1,nk1,ck1,rfl⟩:=ite_fb hw148
     refine k_put ?_;refine d17 ?_;refine d70 ?_;refine run_res (h++n71) rfl Tryz.func77 rfl weakSub ?_;refine hK _ _ ?_;have eB0:measB0 b (i:Int) lo hi=(setP b i (max (b.pts.getD i default).lo lo) (min (b.pts.getD i default).hi hi)):=by rw [measB0,Int.toNat_natCast]
     exact ⟨n71,rfl,_,by rw [measS,if_neg (fun e=>e hS),eB0],fun S s1 s2 s3=>by rw [measF,if_neg (fun e=>e hS),eB0];exact agree_w hw148 ⟨_,_,_,_,_,_,_,_,_,rfl,rp71.keeps (List.sublist_append_right _ _),s2.keeps (List.sublist_append_left _ _),s3.keeps (List.sublist_append_left _ _)⟩⟩
   ·refine d44 ?_;refine d7 ?_;refine rs3 ?_
    have hS:measS0 b st lo hi=1:=by rw [hS0,if_neg (fun e=>e (by omega)),if_pos (by omega)]
    refine k_bld rfl zq ?_;refine d70 ?_;refine run_res (h) rfl Tryz.func77 rfl weakSub ?_;refine hK _ _ ?_;exact ⟨[],by simp,_,by rw [measS,if_pos (by rw [hS];first|decide|assumption),hS],fun S _ _ _=>by rw [measF,if_pos (by rw [hS];first|decide|assumption)];exact BkF.zero⟩
  ·refine d44 ?_;refine d7 ?_;refine rs3 ?_
   have hS:measS0 b st lo hi=6:=by rw [hS0,if_pos (by omega)]
   refine k_bld rfl zq ?_;refine d70 ?_;refine run_res (h) rfl Tryz.func77 rfl weakSub ?_;refine hK _ _ ?_;exact ⟨[],by simp,_,by rw [measS,if_pos (by rw [hS];first|decide|assumption),hS],fun S _ _ _=>by rw [measF,if_pos (by rw [hS];first|decide|assumption)];exact BkF.zero⟩
theorem f70_c (m:Md Tryz.prog B) (h:Hp) (rdp:Rp B h b pp np cp) (hp:np≤1000) (rdt:Rt B h b pt nt ct) (ht:nt≤1000) (rdk:Rk B h b pk nk ck) (hk:nk≤1000) (st lo hi:Int):FnC m 70 #[fbV b pp np cp pt nt ct pk nk ck,.int .i64 st,.agg [.int .i64 lo,.int .i64 hi].toArray] h fun v h'=> ∃nw,h'=h++nw∧ ∃w,v= .tuple [w,.int .i64 (measS b st lo hi)].toArray∧BkF B (measF b st lo hi) nw w:=by
 have hml:=rdp.elen (by decide)
 have htl:=rdt.elen (by decide)
 have hkl:=rdk.elen (by decide)
 refine fn_enter Tryz.func70 rfl rfl (l:=(fbV b pp np cp pt nt ct pk nk ck)::(.int .i64 st)::(.agg [.int .i64 lo,.int .i64 hi].toArray)::uu65) rfl ?_
 intro cf cs K hK
 refine rs4 ?_;refine k_box rfl zq (fun q3=>k_hp (k_put ?_));refine k_box rfl zq (fun q5=>k_hp (k_put ?_));refine k_new rfl zq (fun q6=>k_hp (k_put ?_));refine d12 ?_;refine d94 ?_
 refine k_calP (Post:=fun v=>v=_) rfl zq (by kernel_rfl) (fun H' hH=>f21_c m H' (rdp.keeps (sq hH)) hp (rdt.keeps (sq hH)) ht (rdk.keeps (sq hH)) hk) ?_;rintro v rfl;refine d135 ?_
 refine k_neqS rfl zq (fun hc=>?_) (fun hc=>?_)
 ·refine d7 ?_;refine rs4 ?_
  have hS:measS0 b st lo hi=fbS b:=by rw [measS0,if_pos hc]
  refine d112 ?_;refine d70 ?_
  refine run_res (h) rfl Tryz.func70 rfl weakSub ?_;refine hK _ _ ?_;exact ⟨[],by simp,_,by rw [measS,if_pos (by rw [hS];first|decide|assumption),hS],by rw [measF,if_pos (by rw [hS];first|decide|assumption)];exact BkF.zero⟩
 ·refine d37 ?_;refine run_seq ?_
  have hz:fbS b=0:=by omega
  have hv:=fbS_zero hz
  have hv1:=hv.pts.five
  have hS0:measS0 b st lo hi=measS0 b st lo hi:=rfl
  conv at hS0=>rhs;rw [measS0,if_neg (fun e=>e hz)]
  refine run_drawT [0,1,2,3,4,5] (by kernel_rfl) (by kernel_rfl) (List.Sublist.refl _) ?_;refine DrawT.leaf [(0,.pure),(2,.read),(3,.pure),(1,.keep),(4,.keep),(5,.pure)] (by kernel_rfl) ?_
  refine mq rfl ?_;refine d131 ?_
  refine k_calC rfl zq (by kernel_rfl) (Post:=fun v nw=> ∃q,nw=[⟨true,q,.cells [.int .i64 st].toArray 3 (0,0)⟩]∧v= .func (.func 162) #[] [.pointer (some ⟨q,0,none⟩)].toArray) (fun H' hH=>f108_c m H' st) ?_;rintro v nw ⟨qs,rfl,rfl⟩;refine k_hpA (k_put ?_);refine k_valP (Post:=fun v=>v=_) rfl zq callB162 (fun H' hH=>by simpa using f162_c m H' hp ((rd_has (q:=qs)).keeps hH)) ?_;rintro v rfl;refine d135 ?_
  refine k_neqS rfl zq (fun hc=>?_) (fun hc=>?_)
  ·refine d7 ?_;refine rs4 ?_
   have hS:measS0 b st lo hi=6:=by rw [hS0,if_pos (by rw [hml];intro e;rw [if_pos e] at hc;exact absurd rfl hc)]
   refine d112 ?_;refine d70 ?_
   refine run_res (h) rfl Tryz.func70 rfl weakSub ?_;refine hK _ _ ?_;have hn: ¬(0≤st∧st≤(np:Int)-1):=fun e=>hc (if_pos e)
   rw [if_neg hn];exact ⟨[],by simp,_,by rw [measS,if_pos (by rw [hS];decide),hS],by rw [measF,if_pos (by rw [hS];decide)];exact BkF.zero⟩
  ·refine d37 ?_;refine run_seq ?_
   have hst:0≤st∧st≤(np:Int)-1:=Classical.byContradiction fun e=>by rw [if_neg e] at hc;exact absurd hc (by decide)
   refine rr3 ?_;refine k_ldA rfl zq ?_;refine k_calP (Post:=fun v=>IsB _ v) rfl zq (by kernel_rfl) (fun H' hH=>f143_c m H' _ _ _ _) ?_;rintro v (⟨hc,rfl⟩|⟨hc,rfl⟩)
   ·refine d43 ?_;refine d37 ?_
    obtain ⟨i,rfl⟩:=Int.eq_ofNat_of_zero_le (show 0≤st by omega)
    obtain ⟨mb,mo,rfl⟩:=rdp.ptr (by omega)
    refine rr8 ?_;refine d2 ?_;refine mq rfl ?_;refine d20 ?_;refine k_ldN (vs:=[.int .i64 (b.pts.getD i default).lo,.int .i64 (b.pts.getD i default).hi]) rfl zq rfl (rdp.eatF i 1 (by omega) (by omega) rfl) ?_;refine k_new rfl zq (fun q10=>k_hp (k_put ?_));refine d129 ?_
    refine run_region [(0,.free),(1,.free),(2,.free),(3,.free),(4,.free),(5,.free),(6,.free),(7,.free),(8,.free),(9,.free),(10,.free),(11,.free),(12,.free)] (by kernel_rfl) (by kernel_rfl) ?_;refine d2 ?_;refine d2 ?_;refine k_max rfl zq ?_;refine d2 ?_;refine d2 ?_;refine k_min rfl zq ?_;refine k_bld rfl zq ?_
    refine k_new rfl zq (fun q11=>k_hp (k_put ?_));refine d129 ?_;refine rs5 ?_;refine d2 ?_;refine d2 ?_
    refine k_gtrS rfl zq (fun hc=>?_) (fun hc=>?_)
    ·refine d7 ?_;refine rs3 ?_
     have hS:measS0 b (i:Int) lo hi=9:=by rw [hS0,if_neg (fun e=>e (by omega)),if_neg (fun e=>e (by omega)),if_pos (by rw [Int.toNat_natCast];show (max (b.pts.getD i default).lo lo)>(min (b.pts.getD i default).hi hi);omega)]
     refine k_bld rfl zq ?_;refine d70 ?_;refine run_res (h) rfl Tryz.func70 rfl weakSub ?_;refine hK _ _ ?_;exact ⟨[],by simp,_,by rw [measS,if_pos (by rw [hS];first|decide|assumption),hS],by rw [measF,if_pos (by rw [hS];first|decide|assumption)];exact BkF.zero⟩
    ·refine d37 ?_
     have hS:measS0 b (i:Int) lo hi=0:=by rw [hS0,if_neg (fun e=>e (by omega)),if_neg (fun e=>e (by omega)),if_neg (by rw [Int.toNat_natCast];show¬(max (b.pts.getD i default).lo lo)>(min (b.pts.getD i default).hi hi);omega)]
     refine rr5 ?_;refine d2 ?_;refine k_calC rfl zq (by kernel_rfl) (fun H' hH=>f144_c m H' (rdp.keeps (sq hH)) hp) ?_;rintro v n1 o1;obtain ⟨qm,cp2,junk,rfl,rfl,hcp,hcc⟩:=own_blk_of o1 (by omega)
     refine k_hpA (k_put ?_);refine d141 ?_;refine rs7 ?_;refine d2 ?_;refine mq rfl ?_;refine k_ldA rfl zq ?_;refine d20 ?_
     haveI hsg:SetSeg (encs b.pts++junk) (0+(i:Int).toNat*3+1) [.int .i64 (max (b.pts.getD i default).lo lo),.int .i64 (min (b.pts.getD i default).hi hi)] (encs (b.pts.set i ⟨(b.pts.getD i default).h,(max (b.pts.getD i default).lo lo),(min (b.pts.getD i default).hi hi)⟩)++junk):=setSeg_part rfl (by omega)
     refine d129 ?_
     have rM:RdS B [⟨true,qm,.cells (encs (b.pts.set i ⟨(b.pts.getD i default).h,(max (b.pts.getD i default).lo lo),(min (b.pts.getD i default).hi hi)⟩)++junk).toArray 80 (0,0)⟩] 3 (.slice (some ⟨qm,0,none⟩) np cp2) np (encs (setP b i (max (b.pts.getD i default).lo lo) (min (b.pts.getD i default).hi hi)).pts):=(OwnS.blk (t:=80) (k:=3) (n:=np) (cap:=cp2) (b:=qm) (cs:=encs (b.pts.set i ⟨(b.pts.getD i default).h,(max (b.pts.getD i default).lo lo),(min (b.pts.getD i default).hi hi)⟩)) (junk:=junk) (by rw [encs_length,List.length_set,hml]) (by rw [encs_length,List.length_set];rw [encs_length] at hcc;exact hcc) hcp).rd (List.Sublist.refl _)
     refine rr6 ?_;refine k_ldA rfl zq ?_;refine k_calC rfl zq (by kernel_rfl) (fun H' hH=>f141_c m H' (b:=(setP b i (max (b.pts.getD i default).lo lo) (min (b.pts.getD i default).hi hi))) (rM.keeps (sq hH)) hp (rdt.keeps (sq hH)) ht (rdk.keeps (sq hH)) hk) ?_;rintro v n5 ⟨w5,rfl,hb5⟩;obtain ⟨pp5,np5,cp5,pt5,nt5,ct5,pk5,nk5,ck5,rfl,hr5⟩:=hb5
     refine k_hpA (k_put ?_);refine d17 ?_;refine d70 ?_
     refine run_res (h++n5) rfl Tryz.func70 rfl weakSub ?_;refine hK _ _ ?_;have eB0:measB0 b (i:Int) lo hi=(setP b i (max (b.pts.getD i default).lo lo) (min (b.pts.getD i default).hi hi)):=by rw [measB0,Int.toNat_natCast]
     exact ⟨n5,rfl,_,by rw [measS,if_neg (fun e=>e hS),eB0],by rw [measF,if_neg (fun e=>e hS),eB0];exact ⟨_,_,_,_,_,_,_,_,_,rfl,hr5⟩⟩
   ·refine d44 ?_;refine d7 ?_;refine rs3 ?_
    have hS:measS0 b st lo hi=1:=by rw [hS0,if_neg (fun e=>e (by omega)),if_pos (by omega)]
    refine k_bld rfl zq ?_;refine d70 ?_;refine run_res (h) rfl Tryz.func70 rfl weakSub ?_;refine hK _ _ ?_;exact ⟨[],by simp,_,by rw [measS,if_pos (by rw [hS];first|decide|assumption),hS],by rw [measF,if_pos (by rw [hS];first|decide|assumption)];exact BkF.zero⟩
end Go.Proofs
namespace Go.Proofs
open Go.Lo
open Go.Conc (G)
set_option maxRecDepth 100000
set_option synthInstance.maxSize 100000
set_option synthInstance.maxHeartbeats 1000000
set_option maxHeartbeats 4000000
variable {B:Array Obj}
variable [LaidF B]
theorem setP_len (b:Fb) (s:Nat) (lo hi:Int):(setP b s lo hi).pts.length=b.pts.length:=by simp [setP]
end Go.Proofs
namespace Go.Proofs
open Go.Lo
open Go.Conc (G)
set_option maxRecDepth 100000
set_option synthInstance.maxSize 100000
set_option synthInstance.maxHeartbeats 1000000
set_option maxHeartbeats 4000000
variable {b:Fb} {pp:Option Addr} {np cp:Nat} {pt:Option Addr} {nt ct:Nat} {pk:Option Addr} {nk ck:Nat}
variable {B:Array Obj}
variable [LaidF B]
theorem gT_len {b:Fb} {gg:List Int} (hA:Asc gg) (hI:InB b gg):(gT b gg).length≤b.tapes.length:=asc_len (gT_asc hA) (gT_in hI)
theorem gK_len {b:Fb} {gg:List Int} (hA:Asc gg) (hI:InB b gg):(gK b gg).length≤b.sticks.length:=asc_len (gK_asc hA) (gK_in hI)
theorem tape_small {b:Fb} {np nt nk:Nat} (hp:np≤1000) (ht:nt≤20) (hk:nk≤20) (x:Tp) (e1:np=b.pts.length) (e2:nt=b.tapes.length) (e3:nk=b.sticks.length):(tapeF b x).pts.length≤1000∧(tapeF b x).tapes.length≤1000∧(tapeF b x).sticks.length≤1000:=by
 have h1:noF.pts.length=0:=rfl
 have h2:noF.tapes.length=0:=rfl
 have h3:noF.sticks.length=0:=rfl
 have h4:(addT b x).pts.length=b.pts.length:=rfl
 have h5:(addT b x).tapes.length=b.tapes.length+1:=List.length_append
 have h6:(addT b x).sticks.length=b.sticks.length:=rfl
 unfold tapeF agreeF
 split
 ·omega
 ·split<;>omega
theorem stick_small {b:Fb} {np nt nk:Nat} (hp:np≤1000) (ht:nt≤20) (hk:nk≤20) (x:Sk) (e1:np=b.pts.length) (e2:nt=b.tapes.length) (e3:nk=b.sticks.length):(stickF b x).pts.length≤1000∧(stickF b x).tapes.length≤1000∧(stickF b x).sticks.length≤1000:=by
 have h1:noF.pts.length=0:=rfl
 have h2:noF.tapes.length=0:=rfl
 have h3:noF.sticks.length=0:=rfl
 have h4:(addK b x).pts.length=b.pts.length:=rfl
 have h5:(addK b x).tapes.length=b.tapes.length:=rfl
 have h6:(addK b x).sticks.length=b.sticks.length+1:=List.length_append
 unfold stickF agreeF
 split
 ·omega
 ·split<;>omega
theorem meas_small {b:Fb} {np nt nk:Nat} (hp:np≤1000) (ht:nt≤20) (hk:nk≤20) (st lo hi:Int) (e1:np=b.pts.length) (e2:nt=b.tapes.length) (e3:nk=b.sticks.length):(measF b st lo hi).pts.length≤1000∧(measF b st lo hi).tapes.length≤1000∧(measF b st lo hi).sticks.length≤1000:=by
 have h1:noF.pts.length=0:=rfl
 have h2:noF.tapes.length=0:=rfl
 have h3:noF.sticks.length=0:=rfl
 have h4:(measB0 b st lo hi).pts.length=b.pts.length:=by unfold measB0;exact setP_len b _ _ _
 have h5:(measB0 b st lo hi).tapes.length=b.tapes.length:=rfl
 have h6:(measB0 b st lo hi).sticks.length=b.sticks.length:=rfl
 unfold measF agreeF
 split
 ·omega
 ·split<;>omega
theorem f15_t (h:Hp) (rdp:Rp B h b pp np cp) (rdt:Rt B h b pt nt ct) (rdk:Rk B h b pk nk ck) (x:Tp) (y:Sk) (st lo hi:Int):(Md.starS Tryz.prog B).R (AtEnd Tryz.prog B fun v _=>v= .bool true) (G (Frame.enter Tryz.prog 15 #[fbV b pp np cp pt nt ct pk nk ck,tpV x,skV y,.int .i64 st,.agg [.int .i64 lo,.int .i64 hi].toArray] .normal) []) h:=by
 refine top_enter Tryz.func15 rfl rfl (l:=[fbV b pp np cp pt nt ct pk nk ck,tpV x,skV y,.int .i64 st,.agg [.int .i64 lo,.int .i64 hi].toArray,undef,undef,undef,undef,undef,undef,undef,undef,undef,undef,undef,undef,undef,undef,undef,undef,undef,undef,undef,undef,undef,undef,undef,undef,undef,undef,undef,undef,undef,undef,undef,undef,undef,undef,undef,undef,undef,undef,undef,undef,undef,undef,undef,undef,undef,undef,undef,undef,undef,undef,undef,undef,undef,undef,undef,undef,undef,undef,undef,undef,undef,undef,undef,undef,undef,undef,undef,undef,undef,undef,undef,undef,undef,undef,undef,undef,undef,undef,undef,undef,undef,undef,undef,undef,undef,undef,undef,undef,undef,undef,undef,undef,undef,undef,undef,undef,undef,undef,undef,undef,undef,undef,undef,undef,undef,undef,undef,undef,undef,undef,undef,undef,undef,undef,undef,undef,undef,undef,undef,undef,undef,undef,undef,undef,undef,undef,undef,undef,undef,undef,undef,undef,undef,undef,undef,undef,undef,undef,undef,undef]) rfl ?_
 refine rs5 ?_;refine k_box rfl zq (fun q5=>k_hp (k_put ?_));refine k_box rfl zq (fun q6=>k_hp (k_put ?_));refine k_box rfl zq (fun q7=>k_hp (k_put ?_));refine k_box rfl zq (fun q9=>k_hp (k_put ?_));refine d12 ?_;refine d113 ?_
 refine k_calP (Post:=fun v=>IsB _ v) rfl zq (by kernel_rfl) (fun H' hH=>f17_c _ H') ?_;rintro v (⟨hc,rfl⟩|⟨hc,rfl⟩)
 ·refine k_put ?_;refine d7 ?_;refine rs2 ?_;refine k_cal rfl zq (by kernel_rfl) (f18_c _) ?_;rintro v h' ⟨nF,rfl,rfl⟩;refine d110 ?_
  refine run_top rfl Tryz.func15 (by kernel_rfl) rfl ?_;rfl
 ·refine k_put ?_;refine d37 ?_;have hp:np≤1000:=by omega
  have ht1:nt≤20:=by omega
  have hk1:nk≤20:=by omega
  have hmp:=rdp.elen (by decide)
  have hmt:=rdt.elen (by decide)
  have hmk:=rdk.elen (by decide)
  have ht:nt≤1000:=by omega
  have hk:nk≤1000:=by omega
  refine rr9 ?_;refine k_ldA rfl zq ?_;refine k_cal rfl zq (by kernel_rfl) (f53_c _ (b:=b) (rdp.keeps SubH.sub) hp (rdt.keeps SubH.sub) ht (rdk.keeps SubH.sub) hk) ?_;rintro v h' ⟨nC,rfl,wT,wK,gg,rfl,⟨pT,cT,rfl,rdT⟩,⟨pK,cK,rfl,rdK⟩,okC⟩;refine d78 ?_;refine k_ext2 rfl zq ?_;refine k_as rfl zq ?_;refine d46 ?_;refine rs9 ?_;refine k_ldA rfl zq ?_
  refine k_calC rfl zq (by kernel_rfl) (Post:=fun v nw=> ∃wT wK gg,v= .tuple [wT,wK,.int .i64 (fbS b)].toArray∧RdI B nw wT (gT b gg)∧RdI B nw wK (gK b gg)∧ClashOk b gg) (fun H' hH=>f72_c _ H' (b:=b) (rdp.ro.keeps (sq hH)) hp (rdt.ro.keeps (sq hH)) ht (rdk.ro.keeps (sq hH)) hk) ?_;rintro v n72 ⟨wT,wK,g2,rfl,⟨pU,cU,rfl,rdU⟩,⟨pL,cL,rfl,rdL⟩,okD⟩;obtain rfl:=clash_uniq okC okD
  obtain ⟨hA,hI,hL⟩:=clash_le okC
  have hgt:=gT_len hA hI
  have hgk:=gK_len hA hI
  refine k_hpA (k_put ?_);refine d40 ?_;refine k_ext2 rfl zq ?_;refine k_as rfl zq ?_;refine d97 ?_;refine run_seq ?_
  refine run_region [(0,.free),(1,.free),(2,.free),(3,.free),(4,.free),(5,.free),(6,.free),(7,.free),(8,.free),(9,.free),(10,.free),(11,.free),(12,.free),(13,.free),(14,.free)] (by kernel_rfl) (by kernel_rfl) ?_;refine d3 ?_
  refine k_calP (Post:=fun v=>IsB _ v) rfl zq (by kernel_rfl) (fun H' hH=>f31_c _ H' (rdT.keeps (sq hH)) (by omega) (rdU.keeps (sq hH))) ?_;rintro v (⟨hc,rfl⟩|⟨hc,rfl⟩)
  ·refine d43 ?_;refine d23 ?_;refine k_mv rfl rfl ?_
   refine k_calP (Post:=fun v=>IsB _ v) rfl rfl (by kernel_rfl) (fun H' hH=>f31_c _ H' (rdK.keeps (sq hH)) (by omega) (rdL.keeps (sq hH))) ?_;rintro v (⟨hc,rfl⟩|⟨hc,rfl⟩)
   ·refine d84 ?_;refine k_pickF rfl zq ?_;refine d23 ?_;refine k_mv rfl rfl ?_;refine k_neqF rfl rfl rfl ?_;refine d126 ?_;refine rs9 ?_;refine k_ldA rfl zq ?_
    refine k_calP (Post:=fun v=>v= .tuple [.int .i64 (askAt b),.int .i64 (askLeft b),.int .i64 (openS b 0)].toArray) rfl zq (by kernel_rfl) (fun H' hH=>f68_c _ H' (b:=b) (rdp.ro.keeps (sq hH)) hp (rdt.ro.keeps (sq hH)) ht (rdk.ro.keeps (sq hH)) hk) ?_;rintro v rfl;refine d78 ?_;refine k_ext2 rfl zq ?_;refine k_as rfl zq ?_;refine d46 ?_;refine rs9 ?_;refine k_ldA rfl zq ?_
    refine k_calP (Post:=fun v=>v= .tuple [.int .i64 (askAt b),.int .i64 (askLeft b),.int .i64 (openS b 0)].toArray) rfl zq (by kernel_rfl) (fun H' hH=>f73_c _ H' (b:=b) (rdp.ro.keeps (sq hH)) hp (rdt.ro.keeps (sq hH)) ht (rdk.ro.keeps (sq hH)) hk) ?_;rintro v rfl;refine d78 ?_;refine k_ext2 rfl zq ?_;refine k_as rfl zq ?_;refine d97 ?_;refine run_seq ?_
    refine run_region [(0,.free),(1,.free),(2,.free),(3,.free),(4,.free),(5,.free),(6,.free),(7,.free),(8,.free),(9,.free),(10,.free),(11,.free),(12,.free)] (by kernel_rfl) (by kernel_rfl) ?_;refine d3 ?_;refine k_neqF rfl zq rfl ?_;refine d23 ?_;refine k_mv rfl rfl ?_;refine k_neqF rfl rfl rfl ?_;refine k_pickF rfl zq ?_;refine d23 ?_;refine k_mv rfl rfl ?_;refine k_neqF rfl rfl rfl ?_;refine d126 ?_;refine rs9 ?_;refine k_ldA rfl zq ?_;refine k_ldA rfl zq ?_
    refine k_calC rfl zq (by kernel_rfl) (Post:=fun v nw=> ∃w',v= .tuple [w',.int .i64 (tapeS b x)].toArray∧BkF B (tapeF b x) nw w') (fun H' hH=>f74_c _ H' (b:=b) (rdp.ro.keeps (sq hH)) hp (rdt.ro.keeps (sq hH)) ht (rdk.ro.keeps (sq hH)) hk x) ?_;rintro v n74 ⟨wa,rfl,ppa,npa,cpa,pta,nta,cta,pka,nka,cka,rfl,rpa,rta,rka⟩;refine k_hpA (k_put ?_);have hpa:npa≤1000:=by have:=rpa.elen (by decide);have:=tape_small (b:=b) hp ht1 hk1 x hmp.symm hmt.symm hmk.symm;omega
    have hta:nta≤1000:=by have:=rta.elen (by decide);have:=tape_small (b:=b) hp ht1 hk1 x hmp.symm hmt.symm hmk.symm;omega
    have hka:nka≤1000:=by have:=rka.elen (by decide);have:=tape_small (b:=b) hp ht1 hk1 x hmp.symm hmt.symm hmk.symm;omega
    refine d40 ?_
    refine k_new rfl zq (fun q21=>k_hp (k_put ?_));refine k_stA rfl zq rfl ?_;refine aq rfl ?_;refine rs9 ?_;refine k_ldA rfl zq ?_;refine k_ldA rfl zq ?_;refine k_calC rfl zq (by kernel_rfl) (Post:=fun v nw=> ∃w',v= .tuple [w',.int .i64 (tapeS b x)].toArray∧ ∀S,RdS B S 3 (.slice pp np cp) np (encs b.pts)→RdS B S 4 (.slice pt nt ct) nt (encs b.tapes)→RdS B S 3 (.slice pk nk ck) nk (encs b.sticks)→BkF B (tapeF b x) (S++nw) w') (fun H' hH=>f75_c _ H' (b:=b) (rdp.ro.keeps (sq hH)) hp (rdt.ro.keeps (sq hH)) ht (rdk.ro.keeps (sq hH)) hk x) ?_;rintro v n75 ⟨wb,rfl,hSb⟩;obtain ⟨ppb,npb,cpb,ptb,ntb,ctb,pkb,nkb,ckb,rfl,rpb,rtb,rkb⟩:=hSb (ro h) rdp.ro rdt.ro rdk.ro
    refine k_hpA (k_put ?_);have hpb:npb≤1000:=by have:=rpb.elen (by decide);have:=tape_small (b:=b) hp ht1 hk1 x hmp.symm hmt.symm hmk.symm;omega
    have htb:ntb≤1000:=by have:=rtb.elen (by decide);have:=tape_small (b:=b) hp ht1 hk1 x hmp.symm hmt.symm hmk.symm;omega
    have hkb:nkb≤1000:=by have:=rkb.elen (by decide);have:=tape_small (b:=b) hp ht1 hk1 x hmp.symm hmt.symm hmk.symm;omega
    refine d40 ?_
    refine k_new rfl zq (fun q22=>k_hp (k_put ?_));refine k_stA rfl zq rfl ?_;refine d12 ?_;refine rs9 ?_;refine k_ldA rfl zq ?_;refine k_ldA rfl zq ?_;refine k_calP (Post:=fun v=>IsB _ v) rfl zq (by kernel_rfl) (fun H' hH=>f58_c _ H' (b:=tapeF b x) (rpa.keeps (sq hH)) hpa (rta.keeps (sq hH)) hta (rka.keeps (sq hH)) hka (b2:=tapeF b x) (rpb.keeps (sq hH)) hpb (rtb.keeps (sq hH)) htb (rkb.keeps (sq hH)) hkb) ?_;rintro v (⟨hc,rfl⟩|⟨hc,rfl⟩)
    ·refine d43 ?_;refine d23 ?_;refine k_mv rfl rfl ?_;refine k_neqF rfl rfl rfl ?_;refine d126 ?_;refine d147 ?_;refine k_ldA rfl zq ?_
     refine k_calC rfl zq (by kernel_rfl) (Post:=fun v nw=> ∃w',v= .tuple [w',.int .i64 (stickS b y)].toArray∧BkF B (stickF b y) nw w') (fun H' hH=>f57_c _ H' (b:=b) (rdp.ro.keeps (sq hH)) hp (rdt.ro.keeps (sq hH)) ht (rdk.ro.keeps (sq hH)) hk y) ?_;rintro v n57 ⟨wc,rfl,ppc,npc,cpc,ptc,ntc,ctc,pkc,nkc,ckc,rfl,rpc,rtc,rkc⟩;refine k_hpA (k_put ?_);have hpc:npc≤1000:=by have:=rpc.elen (by decide);have:=stick_small (b:=b) hp ht1 hk1 y hmp.symm hmt.symm hmk.symm;omega
     have htc:ntc≤1000:=by have:=rtc.elen (by decide);have:=stick_small (b:=b) hp ht1 hk1 y hmp.symm hmt.symm hmk.symm;omega
     have hkc:nkc≤1000:=by have:=rkc.elen (by decide);have:=stick_small (b:=b) hp ht1 hk1 y hmp.symm hmt.symm hmk.symm;omega
     refine d40 ?_;refine k_stA rfl zq rfl ?_;refine aq rfl ?_;refine d147 ?_;refine k_ldA rfl zq ?_
     refine k_calC rfl zq (by kernel_rfl) (Post:=fun v nw=> ∃w',v= .tuple [w',.int .i64 (stickS b y)].toArray∧ ∀S,RdS B S 3 (.slice pp np cp) np (encs b.pts)→RdS B S 4 (.slice pt nt ct) nt (encs b.tapes)→RdS B S 3 (.slice pk nk ck) nk (encs b.sticks)→BkF B (stickF b y) (S++nw) w') (fun H' hH=>f76_c _ H' (b:=b) (rdp.ro.keeps (sq hH)) hp (rdt.ro.keeps (sq hH)) ht (rdk.ro.keeps (sq hH)) hk y) ?_;rintro v n76 ⟨wd,rfl,hSd⟩;obtain ⟨ppd,npd,cpd,ptd,ntd,ctd,pkd,nkd,ckd,rfl,rpd,rtd,rkd⟩:=hSd (ro h) rdp.ro rdt.ro rdk.ro
     refine k_hpA (k_put ?_);have hpd:npd≤1000:=by have:=rpd.elen (by decide);have:=stick_small (b:=b) hp ht1 hk1 y hmp.symm hmt.symm hmk.symm;omega
     have htd:ntd≤1000:=by have:=rtd.elen (by decide);have:=stick_small (b:=b) hp ht1 hk1 y hmp.symm hmt.symm hmk.symm;omega
     have hkd:nkd≤1000:=by have:=rkd.elen (by decide);have:=stick_small (b:=b) hp ht1 hk1 y hmp.symm hmt.symm hmk.symm;omega
     refine d40 ?_;refine k_stA rfl zq rfl ?_;refine d12 ?_;refine rs9 ?_;refine k_ldA rfl zq ?_;refine k_ldA rfl zq ?_
     refine k_calP (Post:=fun v=>IsB _ v) rfl zq (by kernel_rfl) (fun H' hH=>f58_c _ H' (b:=stickF b y) (rpc.keeps (sq hH)) hpc (rtc.keeps (sq hH)) htc (rkc.keeps (sq hH)) hkc (b2:=stickF b y) (rpd.keeps (sq hH)) hpd (rtd.keeps (sq hH)) htd (rkd.keeps (sq hH)) hkd) ?_;rintro v (⟨hc,rfl⟩|⟨hc,rfl⟩)
     ·refine d43 ?_;refine d23 ?_;refine k_mv rfl rfl ?_;refine k_neqF rfl rfl rfl ?_;refine d126 ?_;refine rs9 ?_;refine d69 ?_;refine k_ldA rfl zq ?_
      refine k_calC rfl zq (by kernel_rfl) (Post:=fun v nw=> ∃w',v= .tuple [w',.int .i64 (measS b st lo hi)].toArray∧BkF B (measF b st lo hi) nw w') (fun H' hH=>f70_c _ H' (b:=b) (rdp.ro.keeps (sq hH)) hp (rdt.ro.keeps (sq hH)) ht (rdk.ro.keeps (sq hH)) hk st lo hi) ?_;rintro v n70 ⟨we,rfl,ppe,npe,cpe,pte,nte,cte,pke,nke,cke,rfl,rpe,rte,rke⟩;refine k_hpA (k_put ?_);have hpe:npe≤1000:=by have:=rpe.elen (by decide);have:=meas_small (b:=b) hp ht1 hk1 st lo hi hmp.symm hmt.symm hmk.symm;omega
      have hte:nte≤1000:=by have:=rte.elen (by decide);have:=meas_small (b:=b) hp ht1 hk1 st lo hi hmp.symm hmt.symm hmk.symm;omega
      have hke:nke≤1000:=by have:=rke.elen (by decide);have:=meas_small (b:=b) hp ht1 hk1 st lo hi hmp.symm hmt.symm hmk.symm;omega
      refine d40 ?_;refine k_stA rfl zq rfl ?_;refine aq rfl ?_;refine rs9 ?_;refine d69 ?_;refine k_ldA rfl zq ?_
      refine k_calC rfl zq (by kernel_rfl) (Post:=fun v nw=> ∃w',v= .tuple [w',.int .i64 (measS b st lo hi)].toArray∧ ∀S,RdS B S 3 (.slice pp np cp) np (encs b.pts)→RdS B S 4 (.slice pt nt ct) nt (encs b.tapes)→RdS B S 3 (.slice pk nk ck) nk (encs b.sticks)→BkF B (measF b st lo hi) (S++nw) w') (fun H' hH=>f77_c _ H' (b:=b) (rdp.ro.keeps (sq hH)) hp (rdt.ro.keeps (sq hH)) ht (rdk.ro.keeps (sq hH)) hk st lo hi) ?_;rintro v n77 ⟨wf,rfl,hSf⟩;obtain ⟨ppf,npf,cpf,ptf,ntf,ctf,pkf,nkf,ckf,rfl,rpf,rtf,rkf⟩:=hSf (ro h) rdp.ro rdt.ro rdk.ro
      refine k_hpA (k_put ?_);have hpf:npf≤1000:=by have:=rpf.elen (by decide);have:=meas_small (b:=b) hp ht1 hk1 st lo hi hmp.symm hmt.symm hmk.symm;omega
      have htf:ntf≤1000:=by have:=rtf.elen (by decide);have:=meas_small (b:=b) hp ht1 hk1 st lo hi hmp.symm hmt.symm hmk.symm;omega
      have hkf:nkf≤1000:=by have:=rkf.elen (by decide);have:=meas_small (b:=b) hp ht1 hk1 st lo hi hmp.symm hmt.symm hmk.symm;omega
      refine d40 ?_;refine k_stA rfl zq rfl ?_;refine aq rfl ?_;refine rs12 ?_;refine k_ldA rfl zq ?_;refine k_ldA rfl zq ?_
      refine k_calP (Post:=fun v=>IsB _ v) rfl zq (by kernel_rfl) (fun H' hH=>f58_c _ H' (b:=measF b st lo hi) (rpe.keeps (sq hH)) hpe (rte.keeps (sq hH)) hte (rke.keeps (sq hH)) hke (b2:=measF b st lo hi) (rpf.keeps (sq hH)) hpf (rtf.keeps (sq hH)) htf (rkf.keeps (sq hH)) hkf) ?_;rintro v (⟨hc,rfl⟩|⟨hc,rfl⟩)
      ·refine k_put ?_;refine d23 ?_;refine k_mv rfl rfl ?_;refine k_eqlT rfl rfl rfl ?_;refine k_pickT rfl zq ?_;refine mq rfl ?_;refine k_cal rfl rfl (by kernel_rfl) (f18_c _) ?_;rintro v h' ⟨nF,rfl,rfl⟩;refine k_put ?_;refine d92 ?_;refine run_top rfl Tryz.func15 (by kernel_rfl) rfl ?_;rfl
      ·refine k_put ?_;exact absurd rfl hc
     ·refine k_put ?_;exact absurd rfl hc
    ·refine k_put ?_;exact absurd rfl hc
   ·refine k_put ?_;exact absurd rfl hc
  ·refine k_put ?_;exact absurd rfl hc
end Go.Proofs
