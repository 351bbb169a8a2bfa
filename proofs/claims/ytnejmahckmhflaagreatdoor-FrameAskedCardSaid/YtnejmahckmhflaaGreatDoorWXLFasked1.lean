/- A part of the proof of a law: my own separation logic over the machine, and walks of the program. Condition of each theorem: as its statement says. -/
import Derived.Test.YtnejmahckmhflaaGreatDoorWB9
set_option linter.all false
namespace Go.Lo
open Go.Conc (G)
section
variable {α:Type} {k:Nat} [Enc α k]
theorem encs_cut: ∀(xs:List α) (i:Nat),(encs xs).take (i*k)=encs (xs.take i)∧(encs xs).drop (i*k)=encs (xs.drop i)
 |[],i=>by simp [encs]
 |a::r,0=>by simp [encs]
 |a::r,i+1=>by
  obtain ⟨h1,h2⟩:=encs_cut r i
  have hl:(Enc.enc a).length=k:=Enc.len a
  have e:(i+1)*k=(Enc.enc a).length+i*k:=by rw [hl,Nat.add_mul];omega
  refine ⟨?_,?_⟩
  ·show (Enc.enc a++encs r).take ((i+1)*k)=Enc.enc a++encs (r.take i)
   rw [e,List.take_length_add_append,h1]
  ·show (Enc.enc a++encs r).drop ((i+1)*k)=encs (r.drop i)
   rw [e,List.drop_length_add_append,h2]
theorem encs_take (xs:List α) (i:Nat):encs (xs.take i)=(encs xs).take (i*k):=(encs_cut xs i).1.symm
theorem encs_drop (xs:List α) (i:Nat):encs (xs.drop i)=(encs xs).drop (i*k):=(encs_cut xs i).2.symm
end
section
variable {B:Array Obj} {h H:Hp}
end
end Go.Lo
namespace Go.Proofs
open Go.Lo
open Go.Conc (G)
set_option maxRecDepth 100000
set_option synthInstance.maxHeartbeats 1000000
section
variable {P:Program} {B:Array Obj} {m:Md P B} {ops:Array Oper} {l l':List Value} {S h h' H:Hp} {C:List Value→Hp→Prop} {i:Nat} {kd:Kd} {r:List (Nat×Kd)}
 {d:Option Tmp} {ty:TypeId} {pos:String} {af:Array Edge} {g:Option (Nat×Bool)}
theorem k_eqlF {t u:TypeId} {x y:Operand} {a b:Int} {k:IntKind} (ho:ops[i]?=some ⟨d,.binOp .eql t x y u,ty,pos,af,g⟩) (hw:Wt ops l g) [kh:KHeap kd S h H] [ex:OpV l x (.int k a)] [ey:OpV l y (.int k b)] (e:a≠b) [pt:PutV l d (.bool false) l'] (q:RegK m S ops r l' h C):RegK m S ops ((i,kd)::r) l h C:=by
 have pq:=pt;rw [←decide_eq_false e] at pq;exact k_eql (l':=l') ho hw q
theorem k_neqT {t u:TypeId} {x y:Operand} {a b:Int} {k:IntKind} (ho:ops[i]?=some ⟨d,.binOp .neq t x y u,ty,pos,af,g⟩) (hw:Wt ops l g) [kh:KHeap kd S h H] [ex:OpV l x (.int k a)] [ey:OpV l y (.int k b)] (e:a≠b) [pt:PutV l d (.bool true) l'] (q:RegK m S ops r l' h C):RegK m S ops ((i,kd)::r) l h C:=by
 have pq:=pt;rw [←decide_eq_true e] at pq;exact k_neq (l':=l') ho hw q
theorem k_gtrF {t u:TypeId} {x y:Operand} {a b:Int} {k:IntKind} (ho:ops[i]?=some ⟨d,.binOp .gtr t x y u,ty,pos,af,g⟩) (hw:Wt ops l g) [kh:KHeap kd S h H] [ex:OpV l x (.int k a)] [ey:OpV l y (.int k b)] (e: ¬b<a) [pt:PutV l d (.bool false) l'] (q:RegK m S ops r l' h C):RegK m S ops ((i,kd)::r) l h C:=by
 have pq:=pt;rw [←decide_eq_false e] at pq;exact k_gtr (l':=l') ho hw q
theorem k_lssF {t u:TypeId} {x y:Operand} {a b:Int} {k:IntKind} (ho:ops[i]?=some ⟨d,.binOp .lss t x y u,ty,pos,af,g⟩) (hw:Wt ops l g) [kh:KHeap kd S h H] [ex:OpV l x (.int k a)] [ey:OpV l y (.int k b)] (e: ¬a<b) [pt:PutV l d (.bool false) l'] (q:RegK m S ops r l' h C):RegK m S ops ((i,kd)::r) l h C:=by
 have pq:=pt;rw [←decide_eq_false e] at pq;exact k_lss (l':=l') ho hw q
theorem k_gtrT {t u:TypeId} {x y:Operand} {a b:Int} {k:IntKind} (ho:ops[i]?=some ⟨d,.binOp .gtr t x y u,ty,pos,af,g⟩) (hw:Wt ops l g) [kh:KHeap kd S h H] [ex:OpV l x (.int k a)] [ey:OpV l y (.int k b)] (e:b<a) [pt:PutV l d (.bool true) l'] (q:RegK m S ops r l' h C):RegK m S ops ((i,kd)::r) l h C:=by
 have pq:=pt;rw [←decide_eq_true e] at pq;exact k_gtr (l':=l') ho hw q
theorem k_lssT {t u:TypeId} {x y:Operand} {a b:Int} {k:IntKind} (ho:ops[i]?=some ⟨d,.binOp .lss t x y u,ty,pos,af,g⟩) (hw:Wt ops l g) [kh:KHeap kd S h H] [ex:OpV l x (.int k a)] [ey:OpV l y (.int k b)] (e:a<b) [pt:PutV l d (.bool true) l'] (q:RegK m S ops r l' h C):RegK m S ops ((i,kd)::r) l h C:=by
 have pq:=pt;rw [←decide_eq_true e] at pq;exact k_lss (l':=l') ho hw q
theorem k_geqT {t u:TypeId} {x y:Operand} {a b:Int} {k:IntKind} (ho:ops[i]?=some ⟨d,.binOp .geq t x y u,ty,pos,af,g⟩) (hw:Wt ops l g) [kh:KHeap kd S h H] [ex:OpV l x (.int k a)] [ey:OpV l y (.int k b)] (e:b≤a) [pt:PutV l d (.bool true) l'] (q:RegK m S ops r l' h C):RegK m S ops ((i,kd)::r) l h C:=by
 have pq:=pt;rw [←decide_eq_true e] at pq;exact k_geq (l':=l') ho hw q
theorem k_geqF {t u:TypeId} {x y:Operand} {a b:Int} {k:IntKind} (ho:ops[i]?=some ⟨d,.binOp .geq t x y u,ty,pos,af,g⟩) (hw:Wt ops l g) [kh:KHeap kd S h H] [ex:OpV l x (.int k a)] [ey:OpV l y (.int k b)] (e: ¬b≤a) [pt:PutV l d (.bool false) l'] (q:RegK m S ops r l' h C):RegK m S ops ((i,kd)::r) l h C:=by
 have pq:=pt;rw [←decide_eq_false e] at pq;exact k_geq (l':=l') ho hw q
theorem reads_eqBoolK {t:TypeId} (hb:P.underlying t=some .bool) (a c:Bool):Reads P B (Op.equal t (.bool a) (.bool c)) H (a==c):=by
 show Reads P B (Op.equalIn 10000 t (.bool a) (.bool c)) H (a==c)
 unfold Op.equalIn
 exact Reads.bind (still_und hb).reads (Reads.pure _)
theorem k_neqBF {t u:TypeId} {x y:Operand} {a c:Bool} (ho:ops[i]?=some ⟨d,.binOp .neq t x y u,ty,pos,af,g⟩) (hw:Wt ops l g) (hb:P.underlying t=some .bool) [KHeap kd S h H] [ex:OpV l x (.bool a)] [ey:OpV l y (.bool c)] (e:a=c) [PutV l d (.bool false) l'] (q:RegK m S ops r l' h C):RegK m S ops ((i,kd)::r) l h C:=
 RegK.rd (v:= .bool false) ho hw (by
  subst e
  simp only [execOp,ex.eq,ey.eq]
  refine Reads.value (Reads.bind (a:=()) (Reads.pure _) ?_)
  show Reads P B (Op.equal t (.bool a) (.bool a)>>=fun b=>pure (Value.bool !b)) H _
  have:=reads_eqBoolK (P:=P) (B:=B) (H:=H) hb a a
  rw [beq_self_eq_true] at this
  exact Reads.bind this (Reads.pure _)) q
end
end Go.Proofs
namespace Go.Proofs
open Go.Lo
open Go.Conc (G)
set_option maxRecDepth 100000
set_option synthInstance.maxSize 100000
set_option synthInstance.maxHeartbeats 1000000
set_option maxHeartbeats 4000000
variable {B:Array Obj}
theorem linesK_zero (b:Fb):linesK b 0=[[]]:=rfl
theorem linesK_succ (b:Fb) {i:Nat} (h:i<b.pts.length):linesK b (i+1)=extL (linesK b i) (spI b i):=by
 rw [linesK,linesOf_take _ _ (by rw [spsOf_length];exact h),spsOf_getD b h];rfl
end Go.Proofs
namespace Go.Proofs
open Go.Lo
open Go.Conc (G)
set_option maxRecDepth 100000
set_option synthInstance.maxSize 100000
set_option synthInstance.maxHeartbeats 1000000
set_option maxHeartbeats 4000000
variable {B:Array Obj}
variable [LaidF B]
def setP (b:Fb) (i:Nat) (lo hi:Int):Fb:={b with pts:=b.pts.set i ⟨(b.pts.getD i default).h,lo,hi⟩}
end Go.Proofs
namespace Go.Proofs
open Go.Lo
open Go.Conc (G)
set_option maxRecDepth 100000
set_option synthInstance.maxSize 100000
set_option synthInstance.maxHeartbeats 1000000
set_option maxHeartbeats 4000000
variable {b:Fb} {pp:Option Addr} {np cp:Nat} {pt:Option Addr} {nt ct:Nat} {pk:Option Addr} {nk ck:Nat}
variable {B:Array Obj}
variable [LaidF B]
theorem setSeg_encs {α:Type} {k:Nat} [Enc α k] {xs:List α} {junk:List Value} {j:Int} {i:Nat} (a:α) (hj:j=i) (hi:i<xs.length):SetSeg (encs xs++junk) (0+j.toNat*k) (Enc.enc a) (encs (xs.set i a)++junk):=by
 subst hj
 have hl:(Enc.enc a).length=k:=Enc.len a
 have hle:i*k+k≤(encs xs).length:=by
  rw [encs_length];have:(i+1)*k≤xs.length*k:=Nat.mul_le_mul_right k hi
  rw [Nat.add_mul] at this
  omega
 refine ⟨?_,by rw [Int.toNat_natCast,hl,List.length_append];omega⟩
 rw [Int.toNat_natCast,Nat.zero_add,hl,List.take_append_of_le_length (by omega),List.drop_append_of_le_length (by omega),←encs_take,show i*k+k=(i+1)*k by rw [Nat.add_mul];omega,←encs_drop,List.set_eq_take_append_cons_drop,if_pos hi,encs_append];simp [encs]
theorem own_blk_of {t k n:Nat} {v:Value} {cs:List Value} {new:Hp} (o:OwnS t k v n cs new) (h0:0<n): ∃q cap junk,v= .slice (some ⟨q,0,none⟩) n cap∧new=[⟨true,q,.cells (cs++junk).toArray t (0,0)⟩]∧n≤cap∧cs.length+junk.length=cap*k:=by
 cases o with
 |nil=>omega
 |blk hl hc hn=>exact ⟨_,_,_,rfl,rfl,hn,hc⟩
theorem setSeg_part {xs:List Pt} {junk:List Value} {j:Int} {i:Nat} {lo hi:Int} (hj:j=i) (h:i<xs.length):SetSeg (encs xs++junk) (0+j.toNat*3+1) [.int .i64 lo,.int .i64 hi] (encs (xs.set i ⟨(xs.getD i default).h,lo,hi⟩)++junk):=by
 obtain ⟨s1,s2⟩:=(setSeg_encs (junk:=junk) (⟨(xs.getD i default).h,lo,hi⟩:Pt) hj h).eq
 subst hj
 have hd:xs.drop i=xs.getD i default::xs.drop (i+1):=by
  rw [List.drop_eq_getElem_cons h,List.getD_eq_getElem?_getD,List.getElem?_eq_getElem h];rfl
 have hl:i*3≤(encs xs).length:=by rw [encs_length];omega
 have hg:(encs xs++junk)[i*3]?=some (.int .i64 (xs.getD i default).h):=by
  have e:(encs xs++junk).drop (i*3)=encs (xs.drop i)++junk:=by rw [List.drop_append_of_le_length hl,encs_drop]
  have e2:((encs xs++junk).drop (i*3))[0]?=some (.int .i64 (xs.getD i default).h):=by rw [e,hd];rfl
  rw [List.getElem?_drop] at e2
  simpa using e2
 have hlen:(Enc.enc (⟨(xs.getD i default).h,lo,hi⟩:Pt):List Value).length=3:=rfl
 rw [Int.toNat_natCast,Nat.zero_add] at s1 s2⊢
 rw [hlen] at s1 s2
 refine ⟨?_,by show i*3+1+2≤_;omega⟩
 rw [s1,List.take_add_one,hg];show List.take (i*3) (encs xs++junk)++[Value.int .i64 (xs.getD i default).h,.int .i64 lo,.int .i64 hi]++List.drop (i*3+3) (encs xs++junk)=List.take (i*3) (encs xs++junk)++[Value.int .i64 (xs.getD i default).h]++[.int .i64 lo,.int .i64 hi]++List.drop (i*3+1+2) (encs xs++junk)
 simp only [List.append_assoc,List.cons_append,List.nil_append]
theorem f71_c (m:Md Tryz.prog B) (h:Hp) (rdp:Rp B h b pp np cp) (hp:np≤1000) {i:Nat} (hi':i<np) (lo hi:Int):FnC m 71 #[fbV b pp np cp pt nt ct pk nk ck,.int .i64 (i:Int),.agg [.int .i64 lo,.int .i64 hi].toArray] h fun v h'=> ∃new,h'=h++new∧ ∃pp2 cp2,v=fbV (setP b i lo hi) pp2 np cp2 pt nt ct pk nk ck∧np≤cp2∧RdS B new 3 (.slice pp2 np cp2) np (encs (setP b i lo hi).pts):=by
 have hml:=rdp.elen (by decide)
 refine fn_enter Tryz.func71 rfl rfl (l:=(fbV b pp np cp pt nt ct pk nk ck)::(.int .i64 (i:Int))::(.agg [.int .i64 lo,.int .i64 hi].toArray)::uu18) rfl ?_
 intro cf cs K hK
 refine rs3 ?_;refine k_box rfl zq (fun q3=>k_hp (k_put ?_));refine k_box rfl zq (fun q5=>k_hp (k_put ?_));refine k_new rfl zq (fun q6=>k_hp (k_put ?_));refine k_nil ?_;refine d94 ?_;refine k_new rfl zq (fun q7=>k_hp (k_put ?_));refine d48 ?_;refine rs6 ?_
 refine k_bs0 kdq rfl zq (fun q9=>k_hp (k_put ?_));refine d2 ?_
 refine k_appO rfl zq (OwnS.zero (q:=q9)) rdp.up (encs_one _) kdq (by omega) (by omega) (fun w12 n12 o12=>k_put ?_);replace o12:OwnS 80 3 w12 np (encs b.pts) n12:=by simpa using o12
 obtain ⟨qm,cp2,junk,rfl,rfl,hcp,hcc⟩:=own_blk_of o12 (by omega)
 refine d141 ?_;refine rs7 ?_;refine d2 ?_;refine mq rfl ?_;refine k_ldA rfl zq ?_;refine d20 ?_
 haveI hsg:SetSeg (encs b.pts++junk) (0+(i:Int).toNat*3+1) [.int .i64 lo,.int .i64 hi] (encs (b.pts.set i ⟨(b.pts.getD i default).h,lo,hi⟩)++junk):=setSeg_part rfl (by omega)
 refine d48 ?_;refine d113 ?_;refine d91 ?_
 refine run_res (h++[⟨true,qm,.cells (encs (b.pts.set i ⟨(b.pts.getD i default).h,lo,hi⟩)++junk).toArray 80 (0,0)⟩]) rfl Tryz.func71 rfl weakSub ?_;refine hK _ _ ?_;exact ⟨_,rfl,_,_,rfl,hcp,(OwnS.blk (t:=80) (k:=3) (n:=np) (cap:=cp2) (b:=qm) (cs:=encs (b.pts.set i ⟨(b.pts.getD i default).h,lo,hi⟩)) (junk:=junk) (by rw [encs_length,List.length_set,hml]) (by rw [encs_length,List.length_set];rw [encs_length] at hcc;exact hcc) hcp).rd (List.Sublist.refl _)⟩
theorem _root_.Go.Lo.PtsOk.span {pts:List Pt} (k:PtsOk pts) {i:Nat} (hi:i<pts.length):0≤(pts.getD i default).lo∧(pts.getD i default).lo≤(pts.getD i default).hi∧(pts.getD i default).hi≤959:=(k.ok _ (mem_getDR.2 ⟨i,hi,rfl⟩)).2.1
theorem f48_c (m:Md Tryz.prog B) (h:Hp) (rdp:Rp B h b pp np cp) (rdt:Rt B h b pt nt ct) (rdk:Rk B h b pk nk ck):FnC m 48 #[fbV b pp np cp pt nt ct pk nk ck] h fun v h'=>h'=h∧IsB (np≤20∧nt≤20∧nk≤20∧fbS b=0) v:=by
 refine fn_enter Tryz.func48 rfl rfl (l:=(fbV b pp np cp pt nt ct pk nk ck)::uu10) rfl ?_
 intro cf cs K hK
 refine rs2 ?_;refine k_box rfl zq (fun q1=>k_hp (k_put ?_));refine aq rfl ?_;refine rs9 ?_;refine k_ldA rfl zq ?_
 refine k_calP (Post:=fun v=>IsB _ v) rfl zq (by kernel_rfl) (fun H' hH=>f17_c m H') ?_;rintro v (⟨hc,rfl⟩|⟨hc,rfl⟩)
 ·refine d43 ?_;refine d52 ?_;refine d72 ?_;refine d0 ?_
  refine run_res (h) rfl Tryz.func48 rfl weakSub ?_;refine hK _ _ ?_;first|exact ⟨rfl,IsB.yes ⟨by omega,by omega,by omega,by omega⟩⟩|exact ⟨rfl,IsB.no (by omega)⟩
 ·refine d44 ?_;refine mq rfl ?_;refine k_ldA rfl rfl ?_
  refine k_calP (Post:=fun v=>v=_) rfl rfl (by kernel_rfl) (fun H' hH=>f22_c m H' (rdp.keeps (sq hH)) (by omega) (rdt.keeps (sq hH)) (by omega) (rdk.keeps (sq hH)) (by omega)) ?_;rintro v rfl;refine k_put ?_;refine k_eqlS rfl rfl (fun hc=>?_) (fun hc=>?_)
  ·refine d92 ?_
   refine run_res (h) rfl Tryz.func48 rfl weakSub ?_;refine hK _ _ ?_;first|exact ⟨rfl,IsB.yes ⟨by omega,by omega,by omega,by omega⟩⟩|exact ⟨rfl,IsB.no (by omega)⟩
  ·refine d92 ?_
   refine run_res (h) rfl Tryz.func48 rfl weakSub ?_;refine hK _ _ ?_;first|exact ⟨rfl,IsB.yes ⟨by omega,by omega,by omega,by omega⟩⟩|exact ⟨rfl,IsB.no (by omega)⟩
end Go.Proofs
namespace Go.Proofs
open Go.Lo
open Go.Conc (G)
set_option maxRecDepth 100000
set_option synthInstance.maxSize 100000
set_option synthInstance.maxHeartbeats 1000000
set_option maxHeartbeats 4000000
variable {B:Array Obj}
variable [LaidF B]
theorem ptsS_of {pts:List Pt} (k:PtsOk pts):ptsS pts=0:=by
 have h2:=k.two
 have h5:=k.five
 unfold ptsS
 rw [if_neg (by omega)];refine scanS_all fun i hi=>?_
 obtain ⟨o1,o2,o3⟩:=k.ok (pts.getD i default) (mem_getDR.2 ⟨i,hi,rfl⟩)
 unfold ptS
 rw [if_neg (by omega),if_neg,if_neg (by omega)];rintro ⟨h0,h1⟩;have:=k.up (i-1) (by omega)
 rw [show i-1+1=i by omega] at this
 omega
theorem fbS_of {b:Fb} (v:FOk b):fbS b=0:=by
 have hp:=v.plank
 have hf:=v.few
 have hf':=v.few'
 have e1:plankS b=0:=by rw [plankS,if_neg (by omega),ptsS_of v.pts]
 have e2:tapesS b=0:=by
  unfold tapesS
  rw [if_neg (by omega)];refine scanS_all fun i hi=>?_
  have h:=v.tapes (b.tapes.getD i default) (mem_getDR.2 ⟨i,hi,rfl⟩)
  generalize b.tapes.getD i default=q at h
  unfold okTp at h
  show tpS b.pts.length q=0
  unfold tpS
  have e:ordS b.pts.length q.f q.t=0:=by rw [ordS,if_neg (by omega),if_neg (by omega)]
  rw [e,if_neg (fun x=>x rfl),if_neg (by omega)]
 have e3:sticksS b=0:=by
  unfold sticksS
  rw [if_neg (by omega)];refine scanS_all fun i hi=>?_
  have h:=v.sticks (b.sticks.getD i default) (mem_getDR.2 ⟨i,hi,rfl⟩)
  generalize b.sticks.getD i default=q at h
  unfold okSk at h
  show skS b.pts q=0
  unfold skS
  rw [if_neg (by omega)]
 rw [fbS,e1,if_neg (fun x=>x rfl),e2,if_neg (fun x=>x rfl),e3]
theorem setP_len (b:Fb) (s:Nat) (lo hi:Int):(setP b s lo hi).pts.length=b.pts.length:=by simp [setP]
theorem setP_at {b:Fb} {s:Nat} (lo hi:Int) (hs:s<b.pts.length) (i:Nat):(setP b s lo hi).pts.getD i default=if i=s then ⟨(b.pts.getD s default).h,lo,hi⟩ else b.pts.getD i default:=by
 show (b.pts.set s ⟨(b.pts.getD s default).h,lo,hi⟩).getD i default=_
 rw [List.getD_eq_getElem?_getD,List.getElem?_set];by_cases e:s=i
 ·subst e
  rw [if_pos rfl,if_pos hs,if_pos rfl];rfl
 ·rw [if_neg e,if_neg (fun x=>e x.symm),List.getD_eq_getElem?_getD]
theorem setP_h {b:Fb} {s:Nat} (lo hi:Int) (hs:s<b.pts.length) (i:Nat):((setP b s lo hi).pts.getD i default).h=(b.pts.getD i default).h:=by
 rw [setP_at lo hi hs];split
 ·rename_i e
  rw [e]
 ·rfl
theorem setP_ok {b:Fb} (v:FOk b) {s:Nat} {lo hi:Int} (hs:s<b.pts.length) (h1:(b.pts.getD s default).lo≤lo) (h2:lo≤hi) (h3:hi≤(b.pts.getD s default).hi):FOk (setP b s lo hi):=by
 have hl:=setP_len b s lo hi
 refine ⟨v.plank,⟨by rw [hl];exact v.pts.two,by rw [hl];exact v.pts.five,fun x hx=>?_,fun i hi'=>?_⟩,v.few,fun t ht=>?_,v.few',fun k hk=>?_⟩
 ·obtain ⟨i,hi',rfl⟩:=mem_getDR.1 hx
  rw [hl] at hi'
  obtain ⟨o1,o2,o3⟩:=v.pts.ok (b.pts.getD i default) (mem_getDR.2 ⟨i,hi',rfl⟩)
  rw [setP_at lo hi hs];split
  ·rename_i e
   subst e
   exact ⟨o1,⟨by show 0≤lo;omega,h2,by show hi≤959;omega⟩,by show hi-lo<3;omega⟩
  ·exact ⟨o1,o2,o3⟩
 ·rw [hl] at hi'
  rw [setP_h lo hi hs,setP_h lo hi hs];exact v.pts.up i hi'
 ·have:=v.tapes t ht
  unfold okTp at this⊢
  rw [hl];exact this
 ·have:=v.sticks k hk
  unfold okSk at this⊢
  rw [hl,setP_h lo hi hs,setP_h lo hi hs];exact this
theorem atI_h {p q:List Pt} (h: ∀i,(p.getD i default).h=(q.getD i default).h) (hl:p.length=q.length) (l:List Int) (x:Int):atI p l x=atI q l x:=by
 have e:segN p x=segN q x:=by
  unfold segN
  have hm:(p.drop 1).map (·.h)=(q.drop 1).map (·.h):=by
   refine List.ext_getElem? fun i=>?_
   rw [List.getElem?_map,List.getElem?_map,List.getElem?_drop,List.getElem?_drop];have:=h (1+i)
   rw [List.getD_eq_getElem?_getD,List.getD_eq_getElem?_getD] at this
   rcases Nat.lt_or_ge (1+i) p.length with h1|h1
   ·rw [List.getElem?_eq_getElem h1,List.getElem?_eq_getElem (hl▸h1)] at this⊢
    simpa using this
   ·rw [List.getElem?_eq_none h1,List.getElem?_eq_none (by omega)]
  have ht: ∀(a:List Pt),((a.takeWhile fun p=>decide (p.h<x)).length)=((a.map (·.h)).takeWhile fun z=>decide (z<x)).length:=fun a=>by
   induction a with
   |nil=>rfl
   |cons c r ih=>
    rw [List.map_cons,List.takeWhile_cons,List.takeWhile_cons];by_cases hc:c.h<x
    ·simp [hc,ih]
    ·simp [hc]
  rw [ht,ht,hm]
 unfold atI
 simp only [e,h]
theorem girthF_h {p q:List Pt} (h: ∀i,(p.getD i default).h=(q.getD i default).h) (l:List Int) (f:Nat): ∀k,girthF p l f k=girthF q l f k
 |0=>rfl
 |k+1=>by simp only [girthF,girthF_h h l f k,sideI,h]
theorem right_h {b:Fb} {s:Nat} (lo hi:Int) (hs:s<b.pts.length) (l:List Int):rightF (setP b s lo hi) l↔rightF b l:=by
 have e1: ∀x,atI (setP b s lo hi).pts l x=atI b.pts l x:=fun x=>atI_h (setP_h lo hi hs) (setP_len b s lo hi) l x
 have e2: ∀f t,girthI (setP b s lo hi).pts l f t=girthI b.pts l f t:=fun f t=>girthF_h (setP_h lo hi hs) l _ _
 unfold rightF tapeOk stickOk
 simp only [e1,e2]
 exact Iff.rfl
theorem mem_setP {b:Fb} {s:Nat} {lo hi:Int} (hs:s<b.pts.length) (h1:(b.pts.getD s default).lo≤lo) (h3:hi≤(b.pts.getD s default).hi) {l:List Int}:l∈boatsOf (setP b s lo hi)↔l∈boatsOf b∧lo≤l.getD s 0∧l.getD s 0≤hi:=by
 rw [mem_boats,mem_boats,setP_len,right_h lo hi hs];unfold spansF
 constructor
 ·rintro ⟨a,c,d⟩;have hcs:=c s (by omega)
  rw [setP_at lo hi hs,if_pos rfl] at hcs
  refine ⟨⟨a,fun i hi'=>?_,d⟩,hcs.1,hcs.2⟩
  have:=c i hi'
  rw [setP_at lo hi hs] at this
  split at this
  ·rename_i e
   subst e
   have t1:lo≤l.getD i 0:=this.1
   have t2:l.getD i 0≤hi:=this.2
   omega
  ·exact this
 ·rintro ⟨⟨a,c,d⟩,e1,e2⟩;refine ⟨a,fun i hi'=>?_,d⟩
  rw [setP_at lo hi hs];split
  ·rename_i e
   subst e
   exact ⟨e1,e2⟩
  ·exact c i hi'
end Go.Proofs
namespace Go.Proofs
open Go.Lo
open Go.Conc (G)
set_option maxRecDepth 100000
set_option synthInstance.maxSize 100000
set_option synthInstance.maxHeartbeats 1000000
set_option maxHeartbeats 4000000
variable {b:Fb} {pp:Option Addr} {np cp:Nat} {pt:Option Addr} {nt ct:Nat} {pk:Option Addr} {nk ck:Nat}
variable {B:Array Obj}
variable [LaidF B]
theorem nodup_ext {ll:List (List Int)} {x:Sp} (h:ll.Nodup):(extL ll x).Nodup:=by
 unfold extL List.Nodup
 rw [List.pairwise_flatMap];constructor
 ·intro l _
  unfold ext1
  rw [List.pairwise_map];have hsp:(spanL x).Pairwise (· ≠ ·):=by
   unfold spanL
   rw [List.pairwise_map];exact List.Pairwise.imp (fun {a c} hac e=>by omega) List.pairwise_lt_range
  exact List.Pairwise.imp (fun {a c} hac e=>hac (by
   have:=(List.append_inj' e rfl).2
   simpa using this)) hsp
 ·refine List.Pairwise.imp (fun {l k} hlk x hx y hy e=>hlk ?_) h
  unfold ext1 at hx hy
  obtain ⟨a,_,rfl⟩:=List.mem_map.1 hx
  obtain ⟨c,_,rfl⟩:=List.mem_map.1 hy
  exact (List.append_inj' e rfl).1
theorem nodup_lines (b:Fb): ∀k,k≤b.pts.length→(linesK b k).Nodup
 |0,_=>by rw [linesK_zero];simp
 |k+1,h=>by rw [linesK_succ b (by omega)];exact nodup_ext (nodup_lines b k (by omega))
theorem nodup_boats (b:Fb):(boatsOf b).Nodup:=List.Pairwise.sublist List.filter_sublist (nodup_lines b _ (Nat.le_refl _))
theorem count_setP {b:Fb} {s:Nat} {v:Int} (hs:s<b.pts.length) (h1:(b.pts.getD s default).lo≤v) (h3:v≤(b.pts.getD s default).hi):(boatsOf (setP b s v v)).length=countAt (boatsOf b) s v:=by
 have e:countAt (boatsOf b) s v=((boatsOf b).filter fun l=>decide (l.getD s 0=v)).length:=rfl
 rw [e];have hm: ∀l,l∈boatsOf (setP b s v v)↔l∈(boatsOf b).filter fun l=>decide (l.getD s 0=v):=fun l=>by
  rw [mem_setP hs h1 h3,List.mem_filter,decide_eq_true_iff];constructor
  ·rintro ⟨a,c,d⟩;exact ⟨a,by omega⟩
  ·rintro ⟨a,c⟩;exact ⟨a,by omega,by omega⟩
 have h4:=List.Nodup.length_le_of_subset (nodup_boats (setP b s v v)) fun l hl=>(hm l).1 hl
 have h5:=List.Nodup.length_le_of_subset (List.Pairwise.sublist List.filter_sublist (nodup_boats b):((boatsOf b).filter fun l=>decide (l.getD s 0=v)).Nodup) fun l hl=>(hm l).2 hl
 omega
theorem leftOf_all {b:Fb} {s:Nat} {m:Int} (hs:s<b.pts.length) (h0:0≤m) (h1: ∀v,(b.pts.getD s default).lo≤v→v≤(b.pts.getD s default).hi→(countAt (boatsOf b) s v:Int)≤m) (h2:m=0∨ ∃v,m=(countAt (boatsOf b) s v:Int)):m=leftOf (boatsOf b) s:=by
 have hle:leftOf (boatsOf b) s≤m:=leftOf_lub h0 fun l hl=>by
  obtain ⟨a,c,_⟩:=mem_boats.1 hl
  have:=c s (by omega)
  exact h1 _ this.1 this.2
 have hn:=leftOf_nonneg (boatsOf b) s
 rcases h2 with e|⟨v,e⟩
 ·omega
 ·rcases Nat.eq_zero_or_pos (countAt (boatsOf b) s v) with h3|h3
  ·omega
  ·have hne:((boatsOf b).filter fun l=>decide (l.getD s 0=v))≠[]:=List.length_pos_iff.1 h3
   obtain ⟨l,hl⟩:=List.exists_mem_of_ne_nil _ hne
   obtain ⟨hl1,hl2⟩:=List.mem_filter.1 hl
   have hv:=of_decide_eq_true hl2
   have:=leftOf_ge (s:=s) hl1
   rw [hv] at this
   omega
theorem f69_c (m:Md Tryz.prog B) (h:Hp) (rdp:Rp B h b pp np cp) (hp:np≤1000) (rdt:Rt B h b pt nt ct) (ht:nt≤1000) (rdk:Rk B h b pk nk ck) (hk:nk≤1000) (hv:FOk b) (s:Nat) (hs:s<np):FnC m 69 #[fbV b pp np cp pt nt ct pk nk ck,.int .i64 (s:Int)] h fun v h'=>h'=h∧v= .tuple [.int .i64 (leftOf (boatsOf b) s),.bool true].toArray:=by
 have hml:=rdp.elen (by decide)
 refine fn_enter Tryz.func69 rfl rfl (l:=(fbV b pp np cp pt nt ct pk nk ck)::(.int .i64 (s:Int))::uu41) rfl ?_
 intro cf cs K hK
 refine rs3 ?_;refine k_box rfl zq (fun q2=>k_hp (k_put ?_));refine d46 ?_;refine d93 ?_;refine run_seq ?_
 have hsp:=hv.pts.span (i:=s) (by omega)
 refine rr8 ?_;refine d2 ?_;refine mq rfl ?_;obtain ⟨rdp_b,rdp_o,rfl⟩:=rdp.ptr (by omega)
 refine k_ixs rfl zq (by first|rfl|assumption) (by omega) (by omega) ?_;refine d8 ?_;refine k_ld rfl zq (rdp.fat (v:= .int .i64 (b.pts.getD s default).lo) s 1 (by omega) (by omega) rfl) ?_;refine d54 ?_
 refine run_loop (fun nn l h'=> ∃(d:Nat) (x w:Int),nn=1000-d∧(w=(b.pts.getD s default).lo+(d:Int))∧(w≤(b.pts.getD s default).hi+1)∧(0≤x∧x≤1000)∧(∀v,(b.pts.getD s default).lo≤v→v<w→(countAt (boatsOf b) s v:Int)≤x)∧(x=0∨ ∃v,x=(countAt (boatsOf b) s v:Int))∧(∃U:Nat→Value,l=((fbV b (some ⟨rdp_b,rdp_o,none⟩) np cp pt nt ct pk nk ck)::(.int .i64 (s:Int))::(.pointer (some ⟨q2,0,none⟩))::(U 3)::(U 4)::(U 5)::(.int .i64 x)::(.int .i64 w)::(U 8)::vw34 U 9 []))∧h++[⟨true,q2,.cells ((fbL b (some ⟨rdp_b,rdp_o,none⟩) np cp pt nt ct pk nk ck).toArray) 26 (0,0)⟩]=h') _ ⟨0,0,_,rfl,by simp,by omega,by omega,fun v h1 h2=>by omega,.inl rfl,exU rfl,rfl⟩ ?_;rintro nn l h' ⟨d,x,w,rfl,hw,hd,hx,hall,hsome,⟨U,rfl⟩,rfl⟩ hnext;refine run_seq ?_;refine rs9 ?_;refine mq rfl ?_;refine d2 ?_;refine d39 ?_;refine d8 ?_;refine k_ld rfl zq (rdp.fat (v:= .int .i64 (b.pts.getD s default).hi) s 2 (by omega) (by omega) rfl) ?_;refine k_leqS rfl zq (fun hc=>?_) (fun hc=>?_)
 ·refine d98 ?_;refine run_seq ?_
  have hvd:w≤(b.pts.getD s default).hi:=by omega
  have hok:=setP_ok hv (s:=s) (lo:=w) (hi:=w) (by omega) (by omega) (by omega) hvd
  have hcs:=count_setP (b:=b) (s:=s) (v:=w) (by omega) (by omega) hvd
  have hcl:=countAt_le (boatsOf b) s w
  have hbl:=boatsOf_le hv.pts
  refine run_draw [(1,.pure),(2,.pure),(0,.read),(3,.keep),(4,.keep),(5,.keep),(6,.pure),(7,.pure),(8,.pure),(9,.pure),(10,.pure)] (by kernel_rfl) (by kernel_rfl) (List.Sublist.refl _) ?_;refine d3 ?_;refine k_ldA rfl zq ?_
  refine k_calP (Post:=fun v=>v=_) rfl zq (by kernel_rfl) (fun H' hH=>f62_c m H' _) ?_;rintro v rfl;refine k_put ?_;refine k_calC rfl zq (by kernel_rfl) (Post:=fun v new=> ∃pp2 cp2,v=fbV (setP b s w w) pp2 np cp2 pt nt ct pk nk ck∧np≤cp2∧RdS B new 3 (.slice pp2 np cp2) np (encs (setP b s w w).pts)) (fun H' hH=>f71_c m H' (b:=b) (rdp.keeps (sq hH)) hp (by omega) _ _) ?_;rintro v n71 ⟨pp2,cp2,rfl,hcm2,rp71⟩;refine k_hpA (k_put ?_);refine k_calP (Post:=fun v=>v= .tuple [.int .i64 (countAt (boatsOf b) s w:Int),.int .i64 0].toArray) rfl zq (by kernel_rfl) (fun H' hH=>by have:=f34_c m H' (b:=setP b s w w) (rp71.keeps (sq hH)) hp (rdt.keeps (sq hH)) ht (rdk.keeps (sq hH)) hk;rw [orNo_yes (fbS_of hok),hcs] at this;exact this) ?_;rintro v rfl;refine d78 ?_;refine k_as rfl zq ?_;refine d68 ?_;refine k_neqF rfl zq (by decide) ?_;refine d13 ?_;refine rr4 ?_;refine d3 ?_;refine k_max rfl zq ?_;refine d45 ?_;refine rr3 ?_;refine d61 ?_
  exact m.weak weakSub (hnext _ _ _ (by omega) ⟨d+1,_,_,rfl,by omega,by omega,by omega,fun v h1 h2=>by
   by_cases e:v<w
   ·have:=hall v h1 e;omega
   ·rw [show v=w by omega];omega,by
   rcases Int.le_total x ((countAt (boatsOf b) s w:Int)) with e|e
   ·exact .inr ⟨w,by omega⟩
   ·rw [show max x ((countAt (boatsOf b) s w:Int))=x by omega];exact hsome,exU rfl,rfl⟩)
 ·refine d75 ?_;refine run_seq ?_
  have hfin:=leftOf_all (m:=x) (by omega:s<b.pts.length) hx.1 (fun v h1 h2=>hall v h1 (by omega)) hsome
  refine rr3 ?_;refine mq rfl ?_;refine d27 ?_;refine run_res (h) rfl Tryz.func69 rfl weakSub ?_;refine hK _ _ ?_;exact ⟨rfl,by rw [hfin]⟩
theorem askP_spec (ll:List (List Int)): ∀n:Nat,(-1≤(askP ll n).1∧(askP ll n).1<(n:Int))∧((askP ll n).1<0→(askP ll n).2=ll.length)∧(0≤(askP ll n).1→(askP ll n).2=leftOf ll (askP ll n).1.toNat∧(askP ll n).2<ll.length)∧(∀s,s<n→(askP ll n).2≤leftOf ll s)∧(∀s:Nat,s<n→0≤(askP ll n).1→leftOf ll s=(askP ll n).2→(askP ll n).1≤(s:Int))
 |0=>⟨by simp [askP],fun _=>rfl,fun h=>by simp [askP] at h,fun s h=>by omega,fun s h=>by omega⟩
 |n+1=>by
  obtain ⟨⟨a1,a2⟩,a3,a4,a5,a6⟩:=askP_spec ll n
  have hle:(askP ll n).2≤ll.length:=by
   rcases Int.lt_or_le (askP ll n).1 0 with e|e
   ·rw [a3 e];exact Int.le_refl _
   ·exact Int.le_of_lt (a4 e).2
  rw [askP];by_cases h:leftOf ll n<(askP ll n).2
  ·rw [if_pos h];refine ⟨⟨by omega,by show (n:Int)<_;omega⟩,fun e=>by have e:(n:Int)<0:=e;omega,fun _=>⟨by simp,by show leftOf ll n<_;omega⟩,fun s hs=>?_,fun s hs _ e=>?_⟩
   ·rcases Nat.lt_or_ge s n with h1|h1
    ·have:=a5 s h1;show leftOf ll n≤_;omega
    ·rw [show s=n by omega];exact Int.le_refl _
   ·rcases Nat.lt_or_ge s n with h1|h1
    ·have:=a5 s h1
     have e:leftOf ll s=leftOf ll n:=e
     omega
    ·rw [show s=n by omega];exact Int.le_refl _
  ·rw [if_neg h];refine ⟨⟨a1,by omega⟩,a3,a4,fun s hs=>?_,fun s hs h0 e=>?_⟩
   ·rcases Nat.lt_or_ge s n with h1|h1
    ·exact a5 s h1
    ·rw [show s=n by omega];omega
   ·rcases Nat.lt_or_ge s n with h1|h1
    ·exact a6 s h1 h0 e
    ·omega
theorem f13_t (h:Hp) (rdp:Rp B h b pp np cp) (rdt:Rt B h b pt nt ct) (rdk:Rk B h b pk nk ck) (z:Nat) (hzz:z≤255):(Md.starS Tryz.prog B).R (AtEnd Tryz.prog B fun v _=>v= .bool true) (G (Frame.enter Tryz.prog 13 #[fbV b pp np cp pt nt ct pk nk ck,.int .u8 (z:Int)] .normal) []) h:=by
 refine top_enter Tryz.func13 rfl rfl (l:=[fbV b pp np cp pt nt ct pk nk ck,.int .u8 (z:Int),undef,undef,undef,undef,undef,undef,undef,undef,undef,undef,undef,undef,undef,undef,undef,undef,undef,undef,undef,undef,undef,undef,undef,undef,undef,undef,undef,undef,undef,undef,undef,undef,undef,undef,undef,undef,undef,undef,undef,undef,undef,undef,undef,undef,undef,undef,undef,undef,undef,undef,undef,undef,undef,undef,undef,undef,undef,undef,undef,undef,undef,undef,undef,undef,undef,undef,undef,undef,undef,undef,undef,undef,undef,undef,undef,undef,undef,undef,undef,undef,undef,undef,undef,undef,undef,undef,undef,undef,undef,undef,undef,undef,undef,undef,undef,undef,undef,undef,undef,undef,undef,undef,undef,undef,undef,undef,undef,undef,undef,undef,undef,undef,undef,undef,undef,undef,undef,undef,undef,undef,undef,undef,undef,undef,undef,undef,undef,undef,undef]) rfl ?_
 refine rs2 ?_;refine k_box rfl zq (fun q2=>k_hp (k_put ?_));refine d12 ?_;refine d94 ?_
 refine k_calP (Post:=fun v=>IsB _ v) rfl zq (by kernel_rfl) (fun H' hH=>f48_c _ H' (rdp.keeps (sq hH)) (rdt.keeps (sq hH)) (rdk.keeps (sq hH))) ?_;rintro v (⟨hc,rfl⟩|⟨hc,rfl⟩)
 ·refine d43 ?_;refine d37 ?_
  have hp:np≤1000:=by omega
  have ht:nt≤1000:=by omega
  have hk:nk≤1000:=by omega
  have h0:fbS b=0:=by omega
  have hv:=fbS_zero h0
  have hv1:=hv.pts.five
  have hv2:=hv.pts.two
  have hml:=rdp.elen (by decide)
  have hbn:=boatsOf_le hv.pts
  obtain ⟨ad,had0⟩: ∃ad,ad=askAt b:=⟨_,rfl⟩
  obtain ⟨lf,hlf0⟩: ∃lf,lf=askLeft b:=⟨_,rfl⟩
  refine rr9 ?_;refine k_ldA rfl zq ?_;refine k_calP (Post:=fun v=>v= .tuple [.int .i64 ad,.int .i64 lf,.int .i64 (openS b 0)].toArray) rfl zq (by kernel_rfl) (fun H' hH=>by have:=f68_c (Md.starS Tryz.prog B) H' (b:=b) (rdp.keeps (sq hH)) hp (rdt.keeps (sq hH)) ht (rdk.keeps (sq hH)) hk;rw [←had0,←hlf0] at this;exact this) ?_;rintro v rfl;refine d78 ?_;refine k_ext2 rfl zq ?_;refine k_as rfl zq ?_;refine d46 ?_;refine rs7 ?_;refine k_ldA rfl zq ?_
  refine k_calP (Post:=fun v=>v= .tuple [.int .i64 (((boatsOf b).length:Nat):Int),.int .i64 0].toArray) rfl zq (by kernel_rfl) (fun H' hH=>by have:=f34_c (Md.starS Tryz.prog B) H' (b:=b) (rdp.keeps (sq hH)) hp (rdt.keeps (sq hH)) ht (rdk.keeps (sq hH)) hk;rw [orNo_yes h0] at this;exact this) ?_;rintro v rfl;refine d78 ?_;refine d97 ?_;refine run_seq ?_
  by_cases hne:boatsOf b=[]
  ·have eo:=openS_9 (own:=0) h0 rfl hne
   have en:(boatsOf b).length=0:=by rw [hne];rfl
   rw [askAt,if_pos (by rw [eo];decide)] at had0
   rw [askLeft,if_pos (by rw [eo];decide)] at hlf0
   subst had0
   subst hlf0
   rw [eo];refine rr9 ?_;refine mq rfl ?_;refine k_neqF rfl zq rfl ?_;refine d23 ?_;refine k_eqlF rfl rfl (by decide) ?_;refine k_mv rfl rfl ?_;refine k_gtrF rfl rfl (by omega) ?_;refine k_neqBF rfl rfl (by kernel_rfl) rfl ?_;refine k_pickF rfl zq ?_;refine d37 ?_;refine d18 ?_;refine k_neqT rfl zq (by decide) ?_;refine d7 ?_;refine run_seq ?_
   refine run_region [(0,.free),(1,.free),(2,.free),(3,.free),(4,.free),(5,.free),(6,.free),(7,.free),(8,.free),(9,.free),(10,.free),(11,.free),(12,.free),(13,.free)] (by kernel_rfl) (by kernel_rfl) ?_;refine mq rfl ?_;refine k_eqlT rfl zq rfl ?_;refine d23 ?_;refine k_eqlT rfl rfl rfl ?_;refine k_pickT rfl zq ?_;refine d23 ?_;refine k_eqlT rfl rfl rfl ?_;refine k_pickT rfl zq ?_;refine mq rfl ?_
   refine k_cal rfl rfl (by kernel_rfl) (f18_c _) ?_;rintro v h' ⟨nF,rfl,rfl⟩;refine k_put ?_;refine d92 ?_;refine run_top rfl Tryz.func13 (by kernel_rfl) rfl ?_;rfl
  ·have eo:=openS_0 (own:=0) h0 rfl hne
   have en:=List.length_pos_iff.2 hne
   have ead:ad=(askP (boatsOf b) b.pts.length).1:=by rw [had0,askAt,if_neg (fun e=>e eo)]
   have elf:lf=(askP (boatsOf b) b.pts.length).2:=by rw [hlf0,askLeft,if_neg (fun e=>e eo)]
   rw [eo];refine rr9 ?_;refine mq rfl ?_;refine k_neqF rfl zq rfl ?_;refine d23 ?_;refine k_eqlT rfl rfl (by decide) ?_;refine k_mv rfl rfl ?_;refine k_gtrT rfl rfl (by omega) ?_;refine k_neqBF rfl rfl (by kernel_rfl) rfl ?_;refine k_pickF rfl zq ?_;refine d37 ?_;refine d18 ?_;refine k_neqF rfl zq rfl ?_;refine d37 ?_;refine run_seq ?_;obtain ⟨⟨q1,q1'⟩,q2,q3,q4,q5⟩:=askP_spec (boatsOf b) b.pts.length
   rw [←ead,←elf] at q2 q3 q5
   rw [←elf] at q4
   rw [←ead] at q1 q1'
   rcases Int.lt_or_le ad 0 with had|had
   ·have hlf0:=q2 had
    refine run_region [(0,.free),(1,.free),(2,.free),(3,.free),(4,.free),(5,.free),(6,.free),(7,.free),(8,.free),(9,.free),(10,.free),(11,.free),(12,.free),(13,.free),(14,.free),(15,.free),(16,.free),(17,.free),(18,.free),(19,.free),(20,.free),(21,.free),(22,.free),(23,.free),(24,.free)] (by kernel_rfl) (by kernel_rfl) ?_;refine mq rfl ?_;refine d2 ?_;refine d71 ?_
    refine k_calP (Post:=fun v=>IsB _ v) rfl zq (by kernel_rfl) (fun H' hH=>f55_c _ H' _ _ _) ?_;rintro v (⟨hc,rfl⟩|⟨hc,rfl⟩)
    ·refine d43 ?_;refine d23 ?_
     refine k_lssT rfl rfl (by omega) ?_;refine k_mv rfl rfl ?_;refine k_mv rfl rfl ?_;refine k_mv rfl rfl ?_;refine k_neqF rfl rfl (by omega) ?_;refine k_pickT rfl rfl ?_;refine k_pickF rfl zq ?_;refine d23 ?_;refine k_geqF rfl rfl (by omega) ?_;refine k_mv rfl rfl ?_;refine d5 ?_;refine k_off rfl rfl ?_;refine k_pickF rfl rfl ?_;refine d126 ?_;refine rs7 ?_;refine mq rfl ?_;refine k_conv rfl zq (by kernel_rfl) (n':=(z:Int)) (by unfold IntKind.wrap;simp [IntKind.bits,IntKind.signed];omega) ?_;refine d114 ?_;refine k_remT rfl zq (by omega) ?_
     rw [show (z:Int).tmod (np:Int)=((z%np:Nat):Int) from (Int.ofNat_tmod z np).symm];have hsn0:=Nat.mod_lt z (show 0<np by omega)
     generalize z%np=s at hsn0⊢
     refine d12 ?_
     have hsn:s<b.pts.length:=by omega
     have hls:=q4 s hsn
     refine rr8 ?_;refine d69 ?_;refine k_calP (Post:=fun v=>v= .tuple [.int .i64 (leftOf (boatsOf b) s),.bool true].toArray) rfl zq (by kernel_rfl) (fun H' hH=>f69_c _ H' (rdp.keeps (sq hH)) hp (rdt.keeps (sq hH)) ht (rdk.keeps (sq hH)) hk hv s (by omega)) ?_;rintro v rfl;refine d78 ?_;refine d97 ?_;refine run_seq ?_
     refine run_region [(0,.free),(1,.free),(2,.free),(3,.free),(4,.free),(5,.free),(6,.free),(7,.free),(8,.free),(9,.free),(10,.free),(11,.free),(12,.free),(13,.free),(14,.free),(15,.free),(16,.free),(17,.free),(18,.free),(19,.free),(20,.free)] (by kernel_rfl) (by kernel_rfl) ?_;refine mq rfl ?_;refine k_notT rfl zq ?_;refine d23 ?_;refine k_mv rfl rfl ?_
     refine k_lssF rfl rfl (by omega) ?_;refine k_pickF rfl zq ?_;refine d23 ?_;refine k_mv rfl rfl ?_;refine k_eqlS rfl rfl (fun hc=>?_) (fun hc=>?_)
     ·refine k_mv rfl rfl ?_;refine k_mv rfl rfl ?_;refine k_geqF rfl rfl (by omega) ?_;refine k_pickT rfl rfl ?_;refine k_mv rfl rfl ?_;refine d5 ?_;refine k_off rfl rfl ?_;refine k_pickF rfl rfl ?_;refine k_pickF rfl zq ?_;refine d37 ?_;refine d18 ?_;refine k_geqF rfl zq (by omega) ?_;refine d37 ?_
      refine run_region [(0,.free),(1,.free),(2,.free),(3,.free),(4,.free),(5,.free),(6,.free),(7,.free),(8,.free),(9,.free),(10,.free),(11,.free),(12,.free),(13,.free)] (by kernel_rfl) (by kernel_rfl) ?_;refine d3 ?_;refine k_mv rfl rfl ?_
      refine k_lssT rfl rfl (by omega) ?_;refine k_mv rfl rfl ?_;refine d5 ?_;refine k_off rfl rfl ?_;refine k_pickT rfl rfl ?_;refine k_pickT rfl zq ?_;refine mq rfl ?_;refine k_cal rfl rfl (by kernel_rfl) (f18_c _) ?_;rintro v h' ⟨nF,rfl,rfl⟩;refine k_put ?_;refine d92 ?_;refine run_top rfl Tryz.func13 (by kernel_rfl) rfl ?_;rfl
     ·refine k_mv rfl rfl ?_;refine d5 ?_;refine k_pickF rfl rfl ?_;refine k_mv rfl rfl ?_;refine d5 ?_;refine k_off rfl rfl ?_;refine k_pickF rfl rfl ?_;refine k_pickF rfl zq ?_;refine d37 ?_;refine d18 ?_;refine k_geqF rfl zq (by omega) ?_;refine d37 ?_
      refine run_region [(0,.free),(1,.free),(2,.free),(3,.free),(4,.free),(5,.free),(6,.free),(7,.free),(8,.free),(9,.free),(10,.free),(11,.free),(12,.free),(13,.free)] (by kernel_rfl) (by kernel_rfl) ?_;refine d3 ?_;refine k_mv rfl rfl ?_
      refine k_lssT rfl rfl (by omega) ?_;refine k_mv rfl rfl ?_;refine d5 ?_;refine k_off rfl rfl ?_;refine k_pickT rfl rfl ?_;refine k_pickT rfl zq ?_;refine mq rfl ?_;refine k_cal rfl rfl (by kernel_rfl) (f18_c _) ?_;rintro v h' ⟨nF,rfl,rfl⟩;refine k_put ?_;refine d92 ?_;refine run_top rfl Tryz.func13 (by kernel_rfl) rfl ?_;rfl
    ·refine k_put ?_;exact absurd ⟨by omega,by omega⟩ hc
   ·obtain ⟨a,rfl⟩:=Int.eq_ofNat_of_zero_le had
    obtain ⟨hlf0,hlf1⟩:=q3 had
    rw [Int.toNat_natCast] at hlf0
    refine run_region [(0,.free),(1,.free),(2,.free),(3,.free),(4,.free),(5,.free),(6,.free),(7,.free),(8,.free),(9,.free),(10,.free),(11,.free),(12,.free),(13,.free),(14,.free),(15,.free),(16,.free),(17,.free),(18,.free),(19,.free),(20,.free),(21,.free),(22,.free),(23,.free),(24,.free)] (by kernel_rfl) (by kernel_rfl) ?_;refine mq rfl ?_;refine d2 ?_;refine d71 ?_
    refine k_calP (Post:=fun v=>IsB _ v) rfl zq (by kernel_rfl) (fun H' hH=>f55_c _ H' _ _ _) ?_;rintro v (⟨hc,rfl⟩|⟨hc,rfl⟩)
    ·refine d43 ?_;refine d23 ?_
     refine k_lssF rfl rfl (by omega) ?_;refine k_mv rfl rfl ?_;refine d5 ?_;refine k_off rfl rfl ?_;refine k_pickF rfl rfl ?_;refine k_pickF rfl zq ?_;refine d23 ?_;refine k_geqT rfl rfl (by omega) ?_;refine k_mv rfl rfl ?_;refine k_mv rfl rfl ?_;refine k_mv rfl rfl ?_;refine k_geqF rfl rfl (by omega) ?_;refine k_pickT rfl rfl ?_;refine d126 ?_;refine rs7 ?_;refine mq rfl ?_;refine k_conv rfl zq (by kernel_rfl) (n':=(z:Int)) (by unfold IntKind.wrap;simp [IntKind.bits,IntKind.signed];omega) ?_;refine d114 ?_;refine k_remT rfl zq (by omega) ?_
     rw [show (z:Int).tmod (np:Int)=((z%np:Nat):Int) from (Int.ofNat_tmod z np).symm];have hsn0:=Nat.mod_lt z (show 0<np by omega)
     generalize z%np=s at hsn0⊢
     refine d12 ?_
     have hsn:s<b.pts.length:=by omega
     have hls:=q4 s hsn
     refine rr8 ?_;refine d69 ?_;refine k_calP (Post:=fun v=>v= .tuple [.int .i64 (leftOf (boatsOf b) s),.bool true].toArray) rfl zq (by kernel_rfl) (fun H' hH=>f69_c _ H' (rdp.keeps (sq hH)) hp (rdt.keeps (sq hH)) ht (rdk.keeps (sq hH)) hk hv s (by omega)) ?_;rintro v rfl;refine d78 ?_;refine d97 ?_;refine run_seq ?_
     refine run_region [(0,.free),(1,.free),(2,.free),(3,.free),(4,.free),(5,.free),(6,.free),(7,.free),(8,.free),(9,.free),(10,.free),(11,.free),(12,.free),(13,.free),(14,.free),(15,.free),(16,.free),(17,.free),(18,.free),(19,.free),(20,.free)] (by kernel_rfl) (by kernel_rfl) ?_;refine mq rfl ?_;refine k_notT rfl zq ?_;refine d23 ?_;refine k_mv rfl rfl ?_
     refine k_lssF rfl rfl (by omega) ?_;refine k_pickF rfl zq ?_;refine d23 ?_;refine k_mv rfl rfl ?_;refine k_eqlS rfl rfl (fun hc=>?_) (fun hc=>?_)
     ·refine k_mv rfl rfl ?_;refine k_mv rfl rfl ?_;refine k_geqT rfl rfl (by omega) ?_;refine k_pickT rfl rfl ?_;refine k_mv rfl rfl ?_;refine k_mv rfl rfl ?_;refine k_mv rfl rfl ?_;refine k_lssF rfl rfl (by have:=q5 s hsn (by omega) (by omega);omega) ?_;refine k_pickT rfl rfl ?_;refine k_pickF rfl zq ?_;refine d37 ?_;refine d18 ?_;refine k_geqT rfl zq (by omega) ?_;refine d7 ?_;refine rr8 ?_;refine d69 ?_
      refine k_calP (Post:=fun v=>v= .tuple [.int .i64 (leftOf (boatsOf b) a),.bool true].toArray) rfl zq (by kernel_rfl) (fun H' hH=>f69_c _ H' (rdp.keeps (sq hH)) hp (rdt.keeps (sq hH)) ht (rdk.keeps (sq hH)) hk hv a (by omega)) ?_;rintro v rfl;refine d78 ?_;refine d97 ?_
      refine run_region [(0,.free),(1,.free),(2,.free),(3,.free),(4,.free),(5,.free),(6,.free),(7,.free),(8,.free),(9,.free),(10,.free),(11,.free),(12,.free),(13,.free)] (by kernel_rfl) (by kernel_rfl) ?_;refine d3 ?_;refine k_mv rfl rfl ?_
      refine k_lssF rfl rfl (by omega) ?_;refine k_mv rfl rfl ?_;refine k_mv rfl rfl ?_;refine k_mv rfl rfl ?_;refine k_eqlT rfl rfl (by omega) ?_;refine k_pickF rfl rfl ?_;refine k_pickT rfl zq ?_;refine mq rfl ?_;refine k_cal rfl rfl (by kernel_rfl) (f18_c _) ?_;rintro v h' ⟨nF,rfl,rfl⟩;refine k_put ?_;refine d92 ?_;refine run_top rfl Tryz.func13 (by kernel_rfl) rfl ?_;rfl
     ·refine k_mv rfl rfl ?_;refine d5 ?_;refine k_pickF rfl rfl ?_;refine k_mv rfl rfl ?_;refine d5 ?_;refine k_off rfl rfl ?_;refine k_pickF rfl rfl ?_;refine k_pickF rfl zq ?_;refine d37 ?_;refine d18 ?_;refine k_geqT rfl zq (by omega) ?_;refine d7 ?_;refine rr8 ?_;refine d69 ?_
      refine k_calP (Post:=fun v=>v= .tuple [.int .i64 (leftOf (boatsOf b) a),.bool true].toArray) rfl zq (by kernel_rfl) (fun H' hH=>f69_c _ H' (rdp.keeps (sq hH)) hp (rdt.keeps (sq hH)) ht (rdk.keeps (sq hH)) hk hv a (by omega)) ?_;rintro v rfl;refine d78 ?_;refine d97 ?_
      refine run_region [(0,.free),(1,.free),(2,.free),(3,.free),(4,.free),(5,.free),(6,.free),(7,.free),(8,.free),(9,.free),(10,.free),(11,.free),(12,.free),(13,.free)] (by kernel_rfl) (by kernel_rfl) ?_;refine d3 ?_;refine k_mv rfl rfl ?_
      refine k_lssF rfl rfl (by omega) ?_;refine k_mv rfl rfl ?_;refine k_mv rfl rfl ?_;refine k_mv rfl rfl ?_;refine k_eqlT rfl rfl (by omega) ?_;refine k_pickF rfl rfl ?_;refine k_pickT rfl zq ?_;refine mq rfl ?_;refine k_cal rfl rfl (by kernel_rfl) (f18_c _) ?_;rintro v h' ⟨nF,rfl,rfl⟩;refine k_put ?_;refine d92 ?_;refine run_top rfl Tryz.func13 (by kernel_rfl) rfl ?_;rfl
    ·refine k_put ?_;exact absurd ⟨by omega,by omega⟩ hc
 ·refine d44 ?_;refine d7 ?_;refine rs2 ?_
  refine k_cal rfl zq (by kernel_rfl) (f18_c _) ?_;rintro v h' ⟨nF,rfl,rfl⟩;refine d110 ?_
  refine run_top rfl Tryz.func13 (by kernel_rfl) rfl ?_;rfl
end Go.Proofs
