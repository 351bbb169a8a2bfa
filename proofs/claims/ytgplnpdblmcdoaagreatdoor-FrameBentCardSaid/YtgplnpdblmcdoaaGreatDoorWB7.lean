/- A part of the proof of a law: my own separation logic over the machine, and walks of the program. Condition of each theorem: as its statement says. -/
import Derived.Test.YtgplnpdblmcdoaaGreatDoorWB6
set_option linter.all false
namespace Go.Proofs
open Go.Lo
open Go.Conc (G)
set_option maxRecDepth 100000
set_option synthInstance.maxSize 100000
set_option synthInstance.maxHeartbeats 1000000
set_option maxHeartbeats 4000000
variable {b:Fb} {pp:Option Addr} {np cp:Nat} {pt:Option Addr} {nt ct:Nat} {pk:Option Addr} {nk ck:Nat}
variable {B:Array Obj}
section
variable {P:Program} {B:Array Obj} {m:Md P B} {ops:Array Oper} {l l':List Value} {S h h' H:Hp} {C:List Value→Hp→Prop} {i:Nat} {kd:Kd} {r:List (Nat×Kd)}
 {d:Option Tmp} {ty:TypeId} {pos:String} {af:Array Edge} {g:Option (Nat×Bool)}
theorem reads_eqBool {t:TypeId} (hb:P.underlying t=some .bool) (a c:Bool):Reads P B (Op.equal t (.bool a) (.bool c)) H (a==c):=by
 show Reads P B (Op.equalIn 10000 t (.bool a) (.bool c)) H (a==c)
 unfold Op.equalIn
 exact Reads.bind (still_und hb).reads (Reads.pure _)
theorem k_neqBV {t u:TypeId} {x y:Operand} {a c:Bool} (ho:ops[i]?=some ⟨d,.binOp .neq t x y u,ty,pos,af,g⟩) (hw:Wt ops l g) (hb:P.underlying t=some .bool) [KHeap kd S h H] [ex:OpV l x (.bool a)] [ey:OpV l y (.bool c)] [PutV l d (.bool !(a==c)) l'] (q:RegK m S ops r l' h C):RegK m S ops ((i,kd)::r) l h C:=
 RegK.rd (v:= .bool !(a==c)) ho hw (by
  simp only [execOp,ex.eq,ey.eq]
  refine Reads.value (Reads.bind (a:=()) (Reads.pure _) ?_)
  show Reads P B (Op.equal t (.bool a) (.bool c)>>=fun b=>pure (Value.bool !b)) H _
  exact Reads.bind (reads_eqBool hb a c) (Reads.pure _)) q
end
theorem bool3: Tryz.prog.underlying 4=some .bool:=by kernel_rfl
abbrev Ents:=List (Int×Int×Int)
def OkE (es:Ents):Prop:= ∀e∈es,e.2.2=rootI (e.1*e.1+e.2.1*e.2.1)
theorem OkE.nil:OkE []:=fun e he=>by simp at he
theorem OkE.snoc {es:Ents} (h:OkE es) (a c:Int):OkE (es++[(a,c,rootI (a*a+c*c))]):=fun e he=>by
 rcases List.mem_append.1 he with he|he
 ·exact h e he
 ·rw [List.mem_singleton.1 he]
theorem OkE.get {es:Ents} (h:OkE es) {a c:Int} (hs:(findE a c es 0).isSome=true):cntE es a c=rootI (a*a+c*c):=by
 obtain ⟨p,hp⟩:=Option.isSome_iff_exists.1 hs
 obtain ⟨j,n⟩:=p
 obtain ⟨p,rfl,hg⟩:=findE_some a c es 0 j n hp
 unfold cntE
 rw [hp];exact h _ (List.mem_of_getElem? hg)
theorem f126_c (m:Md Tryz.prog B) (h:Hp) (q:Nat) (es:Ents) (hes:OkE es) (x y:Int) (hx: -959≤x∧x≤959) (hy: -959≤y∧y≤959):FnC m 126 #[.map (some q),.agg [.int .i64 x,.int .i64 y].toArray] (h++[⟨true,q,mapO es⟩]) fun v h'=> ∃es',h'=h++[⟨true,q,mapO es'⟩]∧OkE es'∧v= .int .i64 (rootI (x*x+y*y)):=by
 have hxy:=side_nat hx hy
 refine fn_enter Tryz.func126 rfl rfl (l:=(.map (some q))::(.agg [.int .i64 x,.int .i64 y].toArray)::uu29) rfl ?_
 intro cf cs K hK
 refine rs2 ?_;refine k_box rfl zq (fun q3=>k_hp (k_put ?_));refine aq rfl ?_;refine rs8 ?_;refine mq rfl ?_;refine k_ldA rfl zq ?_
 refine k_lookup2 und126 rfl zq (k_put ?_);refine d42 ?_;refine k_as rfl zq ?_;refine d88 ?_;refine k_not rfl zq ?_;refine k_nil ?_
 refine run_split (fun hc=>?_) (fun hc=>?_)
 ·first|replace hc:=of_decide_eq_true hc|replace hc:=of_decide_eq_false hc|skip
  refine run_seq ?_;obtain ⟨N,hN,hN2⟩:=side_nat hx hy
  have hq1:=mulB hx hx
  have hq2:=mulB hy hy
  have hnone:findE x y es 0=none:=by simpa using hc
  refine run_region [(0,.free),(1,.free),(2,.free),(3,.free),(4,.free),(5,.free),(6,.free),(7,.free),(8,.free),(9,.free),(10,.free),(11,.free),(12,.free)] (by kernel_rfl) (by kernel_rfl) ?_;refine d2 ?_;refine d2 ?_;refine k_mul rfl zq (by unfold In64;omega) ?_;refine d2 ?_;refine d2 ?_;refine d54 ?_
  rw [hN];refine k_calP (Post:=fun v=>v=_) rfl zq (by kernel_rfl) (fun H' hH=>f69_c m H' N (by omega)) ?_;rintro v rfl;refine d66 ?_;refine rr4 ?_;refine mq rfl ?_;refine d71 ?_
  refine k_mapNew und126 rfl zq hnone ?_;refine k_nil ?_;refine d95 ?_;refine run_res (h++[⟨true,q,mapO (es++[(x,y,rootI (N:Int))])⟩]) rfl Tryz.func126 rfl weakSub ?_;refine hK _ _ ?_;rw [←hN];exact ⟨_,rfl,hes.snoc x y,rfl⟩
 ·first|replace hc:=of_decide_eq_true hc|replace hc:=of_decide_eq_false hc|skip
  refine run_skip ?_;refine d95 ?_;refine run_res (h++[⟨true,q,mapO es⟩]) rfl Tryz.func126 rfl weakSub ?_;refine hK _ _ ?_;have hsome:(findE x y es 0).isSome=true:=by simpa using hc
  exact ⟨_,rfl,hes,by rw [hes.get hsome]⟩
theorem f71_c (m:Md Tryz.prog B) (h:Hp) (q:Nat) (es:Ents) (hes:OkE es) (rdp:Rp B h b pp np cp) (hp:np≤1000) {xs:List Int} (hln:xs.length=np) (hpo:PtsOk b.pts) (hs:SmL xs) (f t:Nat) (hft:f≤t) (ht:t<np):FnC m 71 #[fbV b pp np cp pt nt ct pk nk ck,.map (some q),rwV xs,.int .i64 (f:Int),.int .i64 (t:Int)] (h++[⟨true,q,mapO es⟩]) fun v h'=> ∃es',h'=h++[⟨true,q,mapO es'⟩]∧OkE es'∧v= .int .i64 (girthI b.pts xs f t):=by
 have hml:=rdp.elen (by decide)
 have hnp2:=hpo.two
 have hnp5:=hpo.five
 refine fn_enter Tryz.func71 rfl rfl (l:=(fbV b pp np cp pt nt ct pk nk ck)::(.map (some q))::(rwV xs)::(.int .i64 (f:Int))::(.int .i64 (t:Int))::uu53) rfl ?_
 intro cf cs K hK
 refine rs3 ?_;refine k_box rfl zq (fun q5=>k_hp (k_put ?_));refine k_box rfl zq (fun q7=>k_hp (k_put ?_));refine aq rfl ?_;refine d69 ?_;refine d19 ?_;refine d53 ?_
 refine run_loop (fun nn l h'=> ∃(k:Nat) (s:Int) (es:Ents),nn=t-(f+k)∧(f+k≤t)∧(s=girthF b.pts xs f k)∧(0≤s)∧(s≤k*1400)∧(OkE es)∧(∃U:Nat→Value,l=((fbV b pp np cp pt nt ct pk nk ck)::(.map (some q))::(rwV xs)::(.int .i64 (f:Int))::(.int .i64 (t:Int))::(.pointer (some ⟨q5,0,none⟩))::(U 6)::(.pointer (some ⟨q7,0,none⟩))::(U 8)::(U 9)::(U 10)::(.int .i64 s)::(.int .i64 ((f+k:Nat):Int))::vw45 U 13 []))∧h++[⟨true,q,mapO es⟩,⟨true,q5,.cells (fbL b pp np cp pt nt ct pk nk ck).toArray 96 (0,0)⟩,⟨true,q7,.cells (rws xs).toArray 98 (0,0)⟩]=h') _ ⟨0,0,es,rfl,by omega,rfl,by omega,by omega,hes,exU rfl,rfl⟩ ?_;rintro nn l h' ⟨k,s,es,rfl,hk,hsum,hs0,hs1,hes,⟨U,rfl⟩,rfl⟩ hnext;refine run_seq ?_;refine rs3 ?_;refine d3 ?_;refine k_lssS rfl zq (fun hc=>?_) (fun hc=>?_)
 ·refine d94 ?_
  have ha:=hpo.at (show f+k<b.pts.length by omega)
  have hb:=hpo.at (show f+k+1<b.pts.length by omega)
  have hup:=hpo.up (f+k) (by omega)
  have hl0:=hs (f+k)
  have hl1:=hs (f+k+1)
  obtain ⟨N,hN,hN2⟩:=side_nat (x:=(b.pts.getD (f+k+1) default).h-(b.pts.getD (f+k) default).h) (y:=xs.getD (f+k+1) 0-xs.getD (f+k) 0) (by omega) (by omega)
  have hrs:=root_small hN2
  have hro:sideI b.pts xs (f+k)=(rootN N:Int):=by rw [sideI,hN];rfl
  have hmx:max (xs.getD (f+k) 0-xs.getD (f+k+1) 0) (xs.getD (f+k+1) 0-xs.getD (f+k) 0)*max (xs.getD (f+k) 0-xs.getD (f+k+1) 0) (xs.getD (f+k+1) 0-xs.getD (f+k) 0)=(xs.getD (f+k+1) 0-xs.getD (f+k) 0)*(xs.getD (f+k+1) 0-xs.getD (f+k) 0):=by
   rcases Int.le_total (xs.getD (f+k) 0) (xs.getD (f+k+1) 0) with h3|h3
   ·rw [Int.max_eq_right (by omega)]
   ·rw [Int.max_eq_left (by omega),show xs.getD (f+k) 0-xs.getD (f+k+1) 0= -(xs.getD (f+k+1) 0-xs.getD (f+k) 0) by omega,Int.neg_mul_neg]
  refine run_draw (S:=h++[⟨true,q5,.cells (fbL b pp np cp pt nt ct pk nk ck).toArray 96 (0,0)⟩,⟨true,q7,.cells (rws xs).toArray 98 (0,0)⟩]) [(0,.pure),(1,.pure),(2,.pure),(3,.pure),(5,.pure),(6,.pure),(10,.pure),(11,.pure),(13,.pure),(18,.pure),(19,.pure),(21,.pure),(22,.pure),(23,.pure),(26,.pure),(27,.pure),(28,.pure),(30,.pure),(31,.pure),(4,.read),(7,.pure),(8,.pure),(9,.read),(12,.read),(14,.pure),(15,.pure),(16,.read),(17,.pure),(20,.read),(24,.read),(25,.pure),(29,.read),(32,.read),(33,.pure),(34,.pure),(35,.pure),(36,.keep),(37,.pure),(38,.pure)] (by kernel_rfl) (by kernel_rfl) SubH.sub ?_;refine d3 ?_;refine d8 ?_;refine d4 ?_;refine d8 ?_;refine d125 ?_;refine d4 ?_;refine k_ixa rfl zq (by omega) (by omega) ?_;refine d4 ?_;refine k_ixa rfl zq (by omega) (by omega) ?_;refine d116 ?_;refine k_ldh rfl zq ?_
  obtain ⟨rdp_b,rdp_o,rfl⟩:=rdp.ptr (by omega)
  refine d18 ?_
  refine k_ld rfl zq (rdp.fat (v:= .int .i64 (b.pts.getD ((f+k)+1) default).h) ((f+k)+1) 0 (by omega) (by omega) rfl) ?_;refine k_ldh rfl zq ?_;refine d18 ?_;refine k_ld rfl zq (rdp.fat (v:= .int .i64 (b.pts.getD (f+k) default).h) (f+k) 0 (by omega) (by omega) rfl) ?_;refine k_sub rfl zq (by unfold In64;omega) ?_;refine k_ld rfl zq (rd_rws (f+k) (by omega) (by omega)) ?_;refine k_ld rfl zq (rd_rws (f+k+1) (by omega) (by omega)) ?_;refine k_sub rfl zq (by unfold In64;omega) ?_;refine k_ld rfl zq (rd_rws (f+k+1) (by omega) (by omega)) ?_;refine k_ld rfl zq (rd_rws (f+k) (by omega) (by omega)) ?_;refine k_sub rfl zq (by unfold In64;omega) ?_;refine k_max rfl zq ?_;refine k_bld rfl zq ?_;refine k_calMK (Post:=fun v es'=>OkE es'∧v=_) q rfl zq (by kernel_rfl) (f126_c m _ q es hes _ _ (by omega) (by omega)) ?_;rintro v es2 ⟨hes2,rfl⟩;refine k_put ?_;rw [hmx,hN,show rootI (N:Int)=(rootN N:Int) from rfl];refine k_add rfl zq (by unfold In64;omega) ?_;refine d45 ?_;refine rr3 ?_;refine d59 ?_;exact m.weak weakSub (hnext _ _ _ (by omega) ⟨k+1,_,es2,rfl,by omega,by rw [girthF,←hsum,hro],by omega,by push_cast;omega,hes2,exU rfl,rfl⟩)
 ·refine d67 ?_;refine d95 ?_
  refine run_res (h++[⟨true,q,mapO es⟩]) rfl Tryz.func71 rfl weakSub ?_;refine hK _ _ ?_;obtain rfl:k=t-f:=by omega
  exact ⟨_,rfl,hes,by rw [hsum,girthI,Int.toNat_natCast,show ((t:Int)-(f:Int)).toNat=t-f by omega]⟩
def tapeOk (b:Fb) (xs:List Int) (t:Tp):Prop:=t.lo≤girthI b.pts xs t.f t.t∧girthI b.pts xs t.f t.t≤t.hi
def stickOk (b:Fb) (xs:List Int) (k:Sk):Prop:=decide (k.long≤atI b.pts xs k.h)=k.fits
instance (b:Fb) (xs:List Int) (t:Tp):Decidable (tapeOk b xs t):=by unfold tapeOk;infer_instance
instance (b:Fb) (xs:List Int) (k:Sk):Decidable (stickOk b xs k):=by unfold stickOk;infer_instance
def rightF (b:Fb) (xs:List Int):Prop:=(∀t∈b.tapes,tapeOk b xs t)∧ ∀k∈b.sticks,stickOk b xs k
instance (b:Fb) (xs:List Int):Decidable (rightF b xs):=by unfold rightF;infer_instance
def spansF (b:Fb) (xs:List Int):Prop:= ∀i,i<xs.length→(b.pts.getD i default).lo≤xs.getD i 0∧xs.getD i 0≤(b.pts.getD i default).hi
theorem f71_i (m:Md Tryz.prog B) (h:Hp) (q:Nat) (es:Ents) (hes:OkE es) (rdp:Rp B h b pp np cp) (hp:np≤1000) {xs:List Int} (hln:xs.length=np) (hpo:PtsOk b.pts) (hs:SmL xs) (f t:Int) (f' t':Nat) (hf:f=f') (he:t=t') (hft:f'≤t') (ht:t'<np):FnC m 71 #[fbV b pp np cp pt nt ct pk nk ck,.map (some q),rwV xs,.int .i64 f,.int .i64 t] (h++[⟨true,q,mapO es⟩]) fun v h'=> ∃es',h'=h++[⟨true,q,mapO es'⟩]∧OkE es'∧v= .int .i64 (girthI b.pts xs f t):=by
 subst hf he
 exact f71_c m h q es hes rdp hp hln hpo hs f' t' hft ht
theorem f74_c (m:Md Tryz.prog B) (h:Hp) (q:Nat) (es:Ents) (hes:OkE es) (rdp:Rp B h b pp np cp) (hp:np≤1000) (rdt:Rt B h b pt nt ct) (ht:nt≤1000) (rdk:Rk B h b pk nk ck) (hk:nk≤1000) {xs:List Int} (hln:xs.length=np) (hv:FOk b) (hs:SmL xs):FnC m 74 #[fbV b pp np cp pt nt ct pk nk ck,.map (some q),rwV xs] (h++[⟨true,q,mapO es⟩]) fun v h'=> ∃es',h'=h++[⟨true,q,mapO es'⟩]∧OkE es'∧IsB (rightF b xs) v:=by
 have hml:=rdp.elen (by decide)
 have htl:=rdt.elen (by decide)
 have hkl:=rdk.elen (by decide)
 refine fn_enter Tryz.func74 rfl rfl (l:=(fbV b pp np cp pt nt ct pk nk ck)::(.map (some q))::(rwV xs)::uu53) rfl ?_
 intro cf cs K hK
 refine rs3 ?_;refine k_box rfl zq (fun q3=>k_hp (k_put ?_));refine k_box rfl zq (fun q5=>k_hp (k_put ?_));refine d12 ?_;refine rs5 ?_;refine d28 ?_;refine d136 ?_
 refine run_loop (fun nn l h'=> ∃(j:Nat) (es:Ents),nn=nt-j∧(j≤nt)∧(∀i,i<j→tapeOk b xs (b.tapes.getD i default))∧(OkE es)∧(∃U:Nat→Value,l=((fbV b pp np cp pt nt ct pk nk ck)::(.map (some q))::(rwV xs)::(.pointer (some ⟨q3,0,none⟩))::(U 4)::(.pointer (some ⟨q5,0,none⟩))::vw7 U 6 ((.slice pt nt ct)::(.int .i64 (nt:Int))::(.int .i64 (j:Int))::vw40 U 16 [])))∧h++[⟨true,q,mapO es⟩,⟨true,q3,.cells (fbL b pp np cp pt nt ct pk nk ck).toArray 96 (0,0)⟩,⟨true,q5,.cells (rws xs).toArray 98 (0,0)⟩]=h') _ ⟨0,es,rfl,by omega,fun i hi=>by omega,hes,exU rfl,rfl⟩ ?_;rintro nn l h' ⟨j,es,rfl,hj,hall1,hes,⟨U,rfl⟩,rfl⟩ hnext1;refine rs1 ?_;refine k_lssS rfl zq (fun hc=>?_) (fun hc=>?_)
 ·refine d104 ?_;refine rs4 ?_
  obtain ⟨rdt_b,rdt_o,rfl⟩:=rdt.ptr (by omega)
  refine k_ixs rfl zq (by first|rfl|assumption) (by omega) (by omega) ?_;refine k_ldN (vs:=[.int .i64 (b.tapes.getD j default).f,.int .i64 (b.tapes.getD j default).t,.int .i64 (b.tapes.getD j default).lo,.int .i64 (b.tapes.getD j default).hi]) rfl zq rfl (rdt.eat j (by omega) (by omega)) ?_;refine k_new rfl zq (fun q8=>k_hp (k_put ?_));refine d131 ?_
  obtain ⟨f,e,hf,he,hfe,hen⟩:=hv.tape (mem_getDR.2 ⟨j,by omega,rfl⟩:b.tapes.getD j default∈b.tapes)
  refine run_draw (S:=h++[⟨true,q3,.cells (fbL b pp np cp (some ⟨rdt_b,rdt_o,none⟩) nt ct pk nk ck).toArray 96 (0,0)⟩,⟨true,q5,.cells (rws xs).toArray 98 (0,0)⟩,⟨true,q8,.cells (tpL (b.tapes.getD j default)).toArray 89 (0,0)⟩]) [(1,.pure),(3,.pure),(5,.pure),(8,.pure),(9,.pure),(11,.pure),(12,.pure),(0,.read),(2,.read),(4,.read),(6,.read),(10,.read),(13,.read),(7,.keep),(14,.keep),(15,.pure)] (by kernel_rfl) (by kernel_rfl) SubH.sub ?_;refine mq rfl ?_;refine d8 ?_;refine d8 ?_;refine d8 ?_;refine k_ldA rfl zq ?_;refine d64 ?_;refine d81 ?_;refine k_ldh rfl zq ?_
  refine k_calMK (Post:=fun v es'=>OkE es'∧v=_) q rfl zq (by kernel_rfl) (f71_i m _ q es hes (rdp.keeps SubH.sub) hp hln hv.pts hs (b.tapes.getD j default).f (b.tapes.getD j default).t f e hf he hfe (by omega)) ?_;rintro v es2 ⟨hes2,rfl⟩;refine k_put ?_;refine k_calP (Post:=fun v=>IsB _ v) rfl zq (by kernel_rfl) (fun H' hH=>CallF.mono (f68_c m H' _ _ _) fun v h' ⟨e1,e2⟩=>⟨e1,e2.iff (q:=tapeOk b xs (b.tapes.getD j default)) (by unfold tapeOk;rfl)⟩) ?_;rintro v (⟨hc,rfl⟩|⟨hc,rfl⟩)
  ·refine d40 ?_;refine d13 ?_;refine d91 ?_
   exact m.weak weakSub (hnext1 _ _ _ (by omega) ⟨j+1,es2,rfl,by omega,all_snoc hall1 (by assumption),hes2,exU rfl,rfl⟩)
  ·refine d41 ?_;refine d58 ?_
   refine run_res (h++[⟨true,q,mapO es2⟩]) rfl Tryz.func74 rfl weakSub ?_;refine hK _ _ ?_;exact ⟨_,rfl,hes2,IsB.no fun e=>hc (e.1 _ (mem_getDR.2 ⟨j,by omega,rfl⟩))⟩
 ·refine d105 ?_;refine run_seq ?_;refine rs5 ?_;refine d28 ?_;refine d136 ?_
  refine run_loop (fun nn l h'=> ∃(j:Nat),nn=nk-j∧(j≤nk)∧(∀i,i<j→stickOk b xs (b.sticks.getD i default))∧(∃U:Nat→Value,l=((fbV b pp np cp pt nt ct pk nk ck)::(.map (some q))::(rwV xs)::(.pointer (some ⟨q3,0,none⟩))::(U 4)::(.pointer (some ⟨q5,0,none⟩))::vw32 U 6 ((.slice pk nk ck)::(.int .i64 (nk:Int))::(.int .i64 (j:Int))::vw15 U 41 [])))∧h++[⟨true,q,mapO es⟩,⟨true,q3,.cells (fbL b pp np cp pt nt ct pk nk ck).toArray 96 (0,0)⟩,⟨true,q5,.cells (rws xs).toArray 98 (0,0)⟩]=h') _ ⟨0,rfl,by omega,fun i hi=>by omega,exU rfl,rfl⟩ ?_;rintro nn l h' ⟨j,rfl,hj2,hall2,⟨U,rfl⟩,rfl⟩ hnext2;refine rs1 ?_;refine k_lssS rfl zq (fun hc=>?_) (fun hc=>?_)
  ·refine d104 ?_;refine rs4 ?_
   obtain ⟨rdk_b,rdk_o,rfl⟩:=rdk.ptr (by omega)
   refine k_ixs rfl zq (by first|rfl|assumption) (by omega) (by omega) ?_;refine k_ldN (vs:=[.int .i64 (b.sticks.getD j default).h,.int .i64 (b.sticks.getD j default).long,.bool (b.sticks.getD j default).fits]) rfl zq rfl (rdk.eat j (by omega) (by omega)) ?_;refine k_new rfl zq (fun q10=>k_hp (k_put ?_));refine d131 ?_
   have hsk:=hv.sticks (b.sticks.getD j default) (mem_getDR.2 ⟨j,by omega,rfl⟩)
   rw [okSk,hml] at hsk
   refine run_draw [(2,.pure),(5,.pure),(8,.pure),(0,.read),(1,.read),(3,.read),(6,.read),(9,.read),(4,.keep),(7,.pure),(10,.pure)] (by kernel_rfl) (by kernel_rfl) (List.Sublist.refl _) ?_;refine d8 ?_;refine d60 ?_;refine d64 ?_;refine d81 ?_
   refine k_calP (Post:=fun v=>v=_) rfl zq (by kernel_rfl) (fun H' hH=>f46_c m H' (rdp.keeps (sq hH)) hp hln hv.pts hs (b.sticks.getD j default).h hsk.1) ?_;rintro v rfl;refine k_put ?_;refine k_geq rfl zq ?_;refine k_neqBV rfl zq bool3 ?_;refine k_nil ?_;refine run_split (fun hc=>?_) (fun hc=>?_)
   ·first|replace hc:=of_decide_eq_true hc|replace hc:=of_decide_eq_false hc|skip
    refine d37 ?_
    refine run_res (h++[⟨true,q,mapO es⟩]) rfl Tryz.func74 rfl weakSub ?_;refine hK _ _ ?_;exact ⟨_,rfl,hes,IsB.no fun e=>by have:=e.2 _ (mem_getDR.2 ⟨j,by omega,rfl⟩);unfold stickOk at this;rw [this] at hc;simp at hc⟩
   ·first|replace hc:=of_decide_eq_true hc|replace hc:=of_decide_eq_false hc|skip
    refine run_skip ?_;refine d91 ?_;exact m.weak weakSub (hnext2 _ _ _ (by omega) ⟨j+1,rfl,by omega,all_snoc hall2 (by unfold stickOk;simpa using hc),exU rfl,rfl⟩)
  ·refine d105 ?_;refine d37 ?_
   refine run_res (h++[⟨true,q,mapO es⟩]) rfl Tryz.func74 rfl weakSub ?_;refine hK _ _ ?_;refine ⟨_,rfl,hes,IsB.yes ⟨fun t ht=>?_,fun k hk=>?_⟩⟩
   ·obtain ⟨i,hi,rfl⟩:=mem_getDR.1 ht
    exact hall1 i (by omega)
   ·obtain ⟨i,hi,rfl⟩:=mem_getDR.1 hk
    exact hall2 i (by omega)
theorem _root_.Go.Lo.RdS.eatF {α:Type} {k:Nat} [Enc α k] [Inhabited α] {n c b o:Nat} {xs:List α} {h H:Hp} (rd:RdS B h k (.slice (some ⟨b,o,none⟩) n c) n (encs xs)) [s:SubH h H] {j:Int} (i f:Nat) (hj:j=i) (hi:i<n) {ys:List Value} (hy:((Enc.enc (xs.getD i default)).drop f).take ys.length=ys):RdN B H b (o+j.toNat*k+f) ys:=fun x hx=>by
 have h1:ys[x]?=some (ys.getD x undef):=by rw [List.getD_eq_getElem?_getD,List.getElem?_eq_getElem hx];rfl
 have h2:(Enc.enc (xs.getD i default))[f+x]?=some (ys.getD x undef):=by
  rw [←h1];conv=>rhs;rw [←hy]
  rw [List.getElem?_take_of_lt hx,List.getElem?_drop]
 have:=rd.fat (H:=H) i (f+x) hj hi h2
 rwa [←Nat.add_assoc] at this
theorem getD_out (l:List Int) (k:Nat) (h:l.length≤k):l.getD k 0=0:=by
 rw [List.getD_eq_getElem?_getD,List.getElem?_eq_none (by omega)];rfl
def scanS (f:Nat→Int):Nat→Int
 |0=>0
 |k+1=>if scanS f k≠0 then scanS f k else f k
theorem scanS_all {f:Nat→Int}: ∀{n:Nat},(∀i,i<n→f i=0)→scanS f n=0
 |0,_=>rfl
 |n+1,h=>by rw [scanS,scanS_all (n:=n) (fun i hi=>h i (by omega)),if_neg (by simp),h n (by omega)]
theorem scanS_at {f:Nat→Int} {k:Nat} (h: ∀i,i<k→f i=0) (hf:f k≠0): ∀{n:Nat},k<n→scanS f n=f k
 |0,hk=>by omega
 |n+1,hk=>by
  rcases Nat.lt_or_ge k n with h1|h1
  ·rw [scanS,scanS_at h hf h1,if_pos hf]
  ·obtain rfl:k=n:=by omega
   rw [scanS,scanS_all h,if_neg (by simp)]
theorem scanS_zero {f:Nat→Int}: ∀{n:Nat},scanS f n=0→ ∀i,i<n→f i=0
 |0,_,_,hi=>by omega
 |n+1,h,i,hi=>by
  rw [scanS] at h
  split at h
  ·contradiction
  ·rename_i hz
   rcases Nat.lt_or_ge i n with h1|h1
   ·exact scanS_zero (Classical.byContradiction fun e=>hz e) i h1
   ·obtain rfl:i=n:=by omega
    exact h
def ptS (pts:List Pt) (i:Nat):Int:=
 if¬(0≤(pts.getD i default).h∧(pts.getD i default).h≤959) then 1
 else if 0<i∧(pts.getD i default).h≤(pts.getD (i-1) default).h then 7
 else if¬(0≤(pts.getD i default).lo∧(pts.getD i default).lo≤(pts.getD i default).hi∧(pts.getD i default).hi≤959)∨(pts.getD i default).hi-(pts.getD i default).lo≥3 then 1 else 0
def ptsS (pts:List Pt):Int:=if¬(2≤(pts.length:Int)∧(pts.length:Int)≤5) then 2 else scanS (ptS pts) pts.length
def tpS (n:Nat) (x:Tp):Int:=if ordS n x.f x.t≠0 then ordS n x.f x.t else if¬(0≤x.lo∧x.lo≤x.hi∧x.hi≤9999) then 1 else 0
def tapesS (b:Fb):Int:=if (b.tapes.length:Int)>3 then 2 else scanS (fun i=>tpS b.pts.length (b.tapes.getD i default)) b.tapes.length
def skS (pts:List Pt) (x:Sk):Int:=if¬((pts.getD 0 default).h≤x.h∧x.h≤(pts.getD (pts.length-1) default).h)∨ ¬(0≤x.long∧x.long≤959) then 1 else 0
def sticksS (b:Fb):Int:=if (b.sticks.length:Int)>3 then 2 else scanS (fun i=>skS b.pts (b.sticks.getD i default)) b.sticks.length
def plankS (b:Fb):Int:=if¬(0≤b.plank∧b.plank≤20) then 1 else ptsS b.pts
def fbS (b:Fb):Int:=if plankS b≠0 then plankS b else if tapesS b≠0 then tapesS b else sticksS b
def brS (n:Nat) (xs:List Int):Int:=if (xs.length:Int)≠(n:Int) then 2 else if∃i,i<xs.length∧ ¬(0≤xs.getD i 0∧xs.getD i 0≤959) then 1 else 0
def fhandS (b:Fb) (xs:List Int):Int:=if fbS b≠0 then fbS b else brS b.pts.length xs
theorem ordS_zero {n:Nat} {f t:Int} (h:ordS n f t=0):0≤f∧f<t∧t≤(n:Int)-1:=by
 unfold ordS at h
 split at h
 ·omega
 ·split at h
  ·omega
  ·omega
theorem ptS_zero {pts:List Pt} {i:Nat} (h:ptS pts i=0):okPt (pts.getD i default)∧(0<i→(pts.getD (i-1) default).h<(pts.getD i default).h):=by
 unfold ptS at h
 split at h
 ·omega
 ·split at h
  ·omega
  ·split at h
   ·omega
   ·exact ⟨⟨by omega,by omega,by omega⟩,by omega⟩
theorem ptsS_zero {pts:List Pt} (h:ptsS pts=0):PtsOk pts:=by
 unfold ptsS at h
 split at h
 ·omega
 ·have hz:=scanS_zero h
  exact ⟨by omega,by omega,fun x hx=>by obtain ⟨i,hi,rfl⟩:=mem_getDR.1 hx;exact (ptS_zero (hz i hi)).1,fun i hi=>by have:=(ptS_zero (hz (i+1) hi)).2 (by omega);simpa using this⟩
theorem fbS_zero {b:Fb} (h:fbS b=0):FOk b:=by
 unfold fbS at h
 split at h
 ·contradiction
 ·rename_i h1
  split at h
  ·contradiction
  ·rename_i h2
   have h1:plankS b=0:=Classical.byContradiction fun e=>h1 e
   have h2:tapesS b=0:=Classical.byContradiction fun e=>h2 e
   unfold plankS at h1
   split at h1
   ·omega
   ·unfold tapesS at h2
    split at h2
    ·omega
    ·unfold sticksS at h
     split at h
     ·omega
     ·refine ⟨by omega,ptsS_zero h1,by omega,fun x hx=>?_,by omega,fun x hx=>?_⟩
      ·obtain ⟨i,hi,rfl⟩:=mem_getDR.1 hx
       have:=scanS_zero h2 i hi
       simp only [tpS] at this
       split at this
       ·contradiction
       ·rename_i ho
        have:=ordS_zero (Classical.byContradiction fun e=>ho e)
        unfold okTp
        omega
      ·obtain ⟨i,hi,rfl⟩:=mem_getDR.1 hx
       have:=scanS_zero h i hi
       simp only [skS] at this
       unfold okSk
       omega
theorem brS_zero {n:Nat} {xs:List Int} (h:brS n xs=0):xs.length=n∧SmL xs:=by
 unfold brS at h
 split at h
 ·omega
 ·split at h
  ·omega
  ·rename_i he
   refine ⟨by omega,fun j=>?_⟩
   rcases Nat.lt_or_ge j xs.length with h1|h1
   ·exact Classical.byContradiction fun e=>he ⟨j,h1,e⟩
   ·rw [getD_out _ _ h1];omega
theorem fhandS_zero {b:Fb} {xs:List Int} (h:fhandS b xs=0):fbS b=0∧brS b.pts.length xs=0:=by
 unfold fhandS at h
 split at h
 ·contradiction
 ·exact ⟨Classical.byContradiction fun e=>by contradiction,h⟩
theorem f57_c (m:Md Tryz.prog B) (h:Hp) {b:Fb} {pp:Option Addr} {np cp:Nat} {pt:Option Addr} {nt ct:Nat} {pk:Option Addr} {nk ck:Nat} (rdp:Rp B h b pp np cp) (hp:np≤1000):FnC m 57 #[.slice pp np cp] h fun v h'=>h'=h∧v= .int .i64 (ptsS b.pts):=by
 have hml:=rdp.elen (by decide)
 refine fn_enter Tryz.func57 rfl rfl (l:=(.slice pp np cp)::uu53) rfl ?_
 intro cf cs K hK
 refine d69 ?_;refine d118 ?_;refine k_len rfl zq ?_
 refine k_calP (Post:=fun v=>IsB _ v) rfl zq (by kernel_rfl) (fun H' hH=>f50_c m H' _ _ _) ?_;rintro v (⟨hc,rfl⟩|⟨hc,rfl⟩)
 ·refine d40 ?_;refine d38 ?_;refine d135 ?_
  refine run_loop (fun nn l h'=> ∃(j:Nat),nn=np-j∧(j≤np)∧(∀i,i<j→ptS b.pts i=0)∧(∃U:Nat→Value,l=((.slice pp np cp)::(U 1)::(U 2)::(.int .i64 (j:Int))::vw50 U 4 []))∧h=h') _ ⟨0,rfl,by omega,fun i hi=>by omega,exU rfl,rfl⟩ ?_;rintro nn l h' ⟨j,rfl,hj,hall,⟨U,rfl⟩,rfl⟩ hnext;refine run_seq ?_;refine d120 ?_;refine k_lssS rfl zq (fun hc=>?_) (fun hc=>?_)
  ·refine d94 ?_;refine run_seq ?_;refine rs7 ?_;refine d3 ?_
   obtain ⟨rdp_b,rdp_o,rfl⟩:=rdp.ptr (by omega)
   refine d18 ?_
   refine k_ld rfl zq (rdp.fat (v:= .int .i64 (b.pts.getD j default).h) j 0 (by omega) (by omega) rfl) ?_;refine k_calP (Post:=fun v=>IsB _ v) rfl zq (by kernel_rfl) (fun H' hH=>f50_c m H' _ _ _) ?_;rintro v (⟨hc,rfl⟩|⟨hc,rfl⟩)
   ·refine d40 ?_;refine d38 ?_;refine run_seq ?_
    refine run_draw [(0,.pure),(1,.pure),(2,.pure),(3,.pure),(4,.pure),(5,.pure),(6,.pure),(8,.pure),(9,.pure),(10,.pure),(11,.pure),(12,.pure),(7,.read),(13,.read),(14,.pure),(15,.pure)] (by kernel_rfl) (by kernel_rfl) (List.Sublist.refl _) ?_;refine mq rfl ?_
    refine k_gtrS rfl zq (fun hc=>?_) (fun hc=>?_)
    ·refine d23 ?_;refine d22 ?_;(first|refine k_fa0 rfl rfl ?_|refine k_fa rfl rfl ?_);refine k_mv rfl rfl ?_;refine k_mv rfl rfl ?_;refine d80 ?_;(first|refine k_fa0 rfl rfl ?_|refine k_fa rfl rfl ?_)
     refine k_ld rfl rfl (rdp.fat (v:= .int .i64 (b.pts.getD j default).h) j 0 (by omega) (by omega) rfl) ?_;refine k_ld rfl rfl (rdp.fat (v:= .int .i64 (b.pts.getD (j-1) default).h) (j-1) 0 (by omega) (by omega) rfl) ?_;refine k_leqS rfl rfl (fun hc=>?_) (fun hc=>?_)
     ·refine d142 ?_
      refine run_res (h) rfl Tryz.func57 rfl weakSub ?_;refine hK _ _ ?_;refine ⟨rfl,?_⟩
      first
       |(rw [ptsS,if_pos (by omega)];done)
       |(rw [ptsS,if_neg (by omega),scanS_all (fun i hi=>hall i (by omega))];done)
       |(rw [ptsS,if_neg (by omega),scanS_at (k:=j) hall (by unfold ptS;first|(rw [if_pos (by omega)];decide)|(rw [if_neg (by omega),if_pos (by omega)];decide)|(rw [if_neg (by omega),if_neg (by omega),if_pos (by omega)];decide)) (by omega)];unfold ptS;first|(rw [if_pos (by omega)];done)|(rw [if_neg (by omega),if_pos (by omega)];done)|(rw [if_neg (by omega),if_neg (by omega),if_pos (by omega)];done)|(rw [if_neg (by omega),if_neg (by omega),if_neg (by omega)];done))
     ·refine k_pickT rfl zq ?_;refine d13 ?_;refine rs7 ?_;refine d11 ?_;(first|refine k_fa0 rfl zq ?_|refine k_fa rfl zq ?_);refine k_ldN (vs:=[.int .i64 (b.pts.getD j default).lo,.int .i64 (b.pts.getD j default).hi]) rfl zq rfl (rdp.eatF j 1 (by omega) (by omega) rfl) ?_;refine k_new rfl zq (fun q4=>k_hp (k_put ?_));refine d48 ?_;refine rs11 ?_;refine k_ldA rfl zq ?_
      refine k_calP (Post:=fun v=>IsB _ v) rfl zq (by kernel_rfl) (fun H' hH=>f113_c m H' _ _ _ _) ?_;rintro v (⟨hc,rfl⟩|⟨hc,rfl⟩)
      ·refine d40 ?_;refine mq rfl ?_;refine d25 ?_;refine d144 ?_
       refine k_geqS rfl rfl (fun hc=>?_) (fun hc=>?_)
       ·refine k_pickF rfl zq ?_;refine d58 ?_;refine run_res (h) rfl Tryz.func57 rfl weakSub ?_;refine hK _ _ ?_;refine ⟨rfl,?_⟩
        first
         |(rw [ptsS,if_pos (by omega)];done)
         |(rw [ptsS,if_neg (by omega),scanS_all (fun i hi=>hall i (by omega))];done)
         |(rw [ptsS,if_neg (by omega),scanS_at (k:=j) hall (by unfold ptS;first|(rw [if_pos (by omega)];decide)|(rw [if_neg (by omega),if_pos (by omega)];decide)|(rw [if_neg (by omega),if_neg (by omega),if_pos (by omega)];decide)) (by omega)];unfold ptS;first|(rw [if_pos (by omega)];done)|(rw [if_neg (by omega),if_pos (by omega)];done)|(rw [if_neg (by omega),if_neg (by omega),if_pos (by omega)];done)|(rw [if_neg (by omega),if_neg (by omega),if_neg (by omega)];done))
       ·refine d126 ?_;refine d110 ?_
        exact m.weak weakSub (hnext _ _ _ (by omega) ⟨j+1,rfl,by omega,fun i hi=>by
         rcases Nat.lt_or_ge i j with h3|h3
         ·exact hall i h3
         ·obtain rfl:i=j:=by omega
          unfold ptS
          first|(rw [if_pos (by omega)];done)|(rw [if_neg (by omega),if_pos (by omega)];done)|(rw [if_neg (by omega),if_neg (by omega),if_pos (by omega)];done)|(rw [if_neg (by omega),if_neg (by omega),if_neg (by omega)];done),exU rfl,rfl⟩)
      ·refine d41 ?_;refine d112 ?_;refine d142 ?_
       refine run_res (h) rfl Tryz.func57 rfl weakSub ?_;refine hK _ _ ?_;refine ⟨rfl,?_⟩
       first
        |(rw [ptsS,if_pos (by omega)];done)
        |(rw [ptsS,if_neg (by omega),scanS_all (fun i hi=>hall i (by omega))];done)
        |(rw [ptsS,if_neg (by omega),scanS_at (k:=j) hall (by unfold ptS;first|(rw [if_pos (by omega)];decide)|(rw [if_neg (by omega),if_pos (by omega)];decide)|(rw [if_neg (by omega),if_neg (by omega),if_pos (by omega)];decide)) (by omega)];unfold ptS;first|(rw [if_pos (by omega)];done)|(rw [if_neg (by omega),if_pos (by omega)];done)|(rw [if_neg (by omega),if_neg (by omega),if_pos (by omega)];done)|(rw [if_neg (by omega),if_neg (by omega),if_neg (by omega)];done))
    ·refine d115 ?_;refine d5 ?_;refine d5 ?_;refine d126 ?_;refine rs7 ?_;refine d11 ?_;(first|refine k_fa0 rfl zq ?_|refine k_fa rfl zq ?_)
     refine k_ldN (vs:=[.int .i64 (b.pts.getD j default).lo,.int .i64 (b.pts.getD j default).hi]) rfl zq rfl (rdp.eatF j 1 (by omega) (by omega) rfl) ?_;refine k_new rfl zq (fun q4=>k_hp (k_put ?_));refine d48 ?_;refine rs11 ?_;refine k_ldA rfl zq ?_
     refine k_calP (Post:=fun v=>IsB _ v) rfl zq (by kernel_rfl) (fun H' hH=>f113_c m H' _ _ _ _) ?_;rintro v (⟨hc,rfl⟩|⟨hc,rfl⟩)
     ·refine d40 ?_;refine mq rfl ?_;refine d25 ?_;refine d144 ?_
      refine k_geqS rfl rfl (fun hc=>?_) (fun hc=>?_)
      ·refine k_pickF rfl zq ?_;refine d58 ?_;refine run_res (h) rfl Tryz.func57 rfl weakSub ?_;refine hK _ _ ?_;refine ⟨rfl,?_⟩
       first
        |(rw [ptsS,if_pos (by omega)];done)
        |(rw [ptsS,if_neg (by omega),scanS_all (fun i hi=>hall i (by omega))];done)
        |(rw [ptsS,if_neg (by omega),scanS_at (k:=j) hall (by unfold ptS;first|(rw [if_pos (by omega)];decide)|(rw [if_neg (by omega),if_pos (by omega)];decide)|(rw [if_neg (by omega),if_neg (by omega),if_pos (by omega)];decide)) (by omega)];unfold ptS;first|(rw [if_pos (by omega)];done)|(rw [if_neg (by omega),if_pos (by omega)];done)|(rw [if_neg (by omega),if_neg (by omega),if_pos (by omega)];done)|(rw [if_neg (by omega),if_neg (by omega),if_neg (by omega)];done))
      ·refine d126 ?_;refine d110 ?_
       exact m.weak weakSub (hnext _ _ _ (by omega) ⟨j+1,rfl,by omega,fun i hi=>by
        rcases Nat.lt_or_ge i j with h3|h3
        ·exact hall i h3
        ·obtain rfl:i=j:=by omega
         unfold ptS
         first|(rw [if_pos (by omega)];done)|(rw [if_neg (by omega),if_pos (by omega)];done)|(rw [if_neg (by omega),if_neg (by omega),if_pos (by omega)];done)|(rw [if_neg (by omega),if_neg (by omega),if_neg (by omega)];done),exU rfl,rfl⟩)
     ·refine d41 ?_;refine d112 ?_;refine d142 ?_
      refine run_res (h) rfl Tryz.func57 rfl weakSub ?_;refine hK _ _ ?_;refine ⟨rfl,?_⟩
      first
       |(rw [ptsS,if_pos (by omega)];done)
       |(rw [ptsS,if_neg (by omega),scanS_all (fun i hi=>hall i (by omega))];done)
       |(rw [ptsS,if_neg (by omega),scanS_at (k:=j) hall (by unfold ptS;first|(rw [if_pos (by omega)];decide)|(rw [if_neg (by omega),if_pos (by omega)];decide)|(rw [if_neg (by omega),if_neg (by omega),if_pos (by omega)];decide)) (by omega)];unfold ptS;first|(rw [if_pos (by omega)];done)|(rw [if_neg (by omega),if_pos (by omega)];done)|(rw [if_neg (by omega),if_neg (by omega),if_pos (by omega)];done)|(rw [if_neg (by omega),if_neg (by omega),if_neg (by omega)];done))
   ·refine d41 ?_;refine d58 ?_
    refine run_res (h) rfl Tryz.func57 rfl weakSub ?_;refine hK _ _ ?_;refine ⟨rfl,?_⟩
    first
     |(rw [ptsS,if_pos (by omega)];done)
     |(rw [ptsS,if_neg (by omega),scanS_all (fun i hi=>hall i (by omega))];done)
     |(rw [ptsS,if_neg (by omega),scanS_at (k:=j) hall (by unfold ptS;first|(rw [if_pos (by omega)];decide)|(rw [if_neg (by omega),if_pos (by omega)];decide)|(rw [if_neg (by omega),if_neg (by omega),if_pos (by omega)];decide)) (by omega)];unfold ptS;first|(rw [if_pos (by omega)];done)|(rw [if_neg (by omega),if_pos (by omega)];done)|(rw [if_neg (by omega),if_neg (by omega),if_pos (by omega)];done)|(rw [if_neg (by omega),if_neg (by omega),if_neg (by omega)];done))
  ·refine d67 ?_;refine d37 ?_
   refine run_res (h) rfl Tryz.func57 rfl weakSub ?_;refine hK _ _ ?_;refine ⟨rfl,?_⟩
   first
    |(rw [ptsS,if_pos (by omega)];done)
    |(rw [ptsS,if_neg (by omega),scanS_all (fun i hi=>hall i (by omega))];done)
    |(rw [ptsS,if_neg (by omega),scanS_at (k:=j) hall (by unfold ptS;first|(rw [if_pos (by omega)];decide)|(rw [if_neg (by omega),if_pos (by omega)];decide)|(rw [if_neg (by omega),if_neg (by omega),if_pos (by omega)];decide)) (by omega)];unfold ptS;first|(rw [if_pos (by omega)];done)|(rw [if_neg (by omega),if_pos (by omega)];done)|(rw [if_neg (by omega),if_neg (by omega),if_pos (by omega)];done)|(rw [if_neg (by omega),if_neg (by omega),if_neg (by omega)];done))
 ·refine d41 ?_;refine d58 ?_
  refine run_res (h) rfl Tryz.func57 rfl weakSub ?_;refine hK _ _ ?_;refine ⟨rfl,?_⟩
  first
   |(rw [ptsS,if_pos (by omega)];done)
   |(rw [ptsS,if_neg (by omega),scanS_all (fun i hi=>hall i (by omega))];done)
   |(rw [ptsS,if_neg (by omega),scanS_at (k:=j) hall (by unfold ptS;first|(rw [if_pos (by omega)];decide)|(rw [if_neg (by omega),if_pos (by omega)];decide)|(rw [if_neg (by omega),if_neg (by omega),if_pos (by omega)];decide)) (by omega)];unfold ptS;first|(rw [if_pos (by omega)];done)|(rw [if_neg (by omega),if_pos (by omega)];done)|(rw [if_neg (by omega),if_neg (by omega),if_pos (by omega)];done)|(rw [if_neg (by omega),if_neg (by omega),if_neg (by omega)];done))
theorem tpS_6 {n:Nat} {x:Tp} (h: ¬(0≤x.f∧x.f≤(n:Int)-1)∨ ¬(0≤x.t∧x.t≤(n:Int)-1)):tpS n x=6:=by
 have:ordS n x.f x.t=6:=by rw [ordS,if_pos h]
 rw [tpS,this];rfl
theorem tpS_7 {n:Nat} {x:Tp} (h: ¬(¬(0≤x.f∧x.f≤(n:Int)-1)∨ ¬(0≤x.t∧x.t≤(n:Int)-1))) (h2:x.f≥x.t):tpS n x=7:=by
 have:ordS n x.f x.t=7:=by rw [ordS,if_neg h,if_pos h2]
 rw [tpS,this];rfl
theorem tpS_o {n:Nat} {x:Tp} (h:ordS n x.f x.t≠0):tpS n x=ordS n x.f x.t:=by rw [tpS,if_pos h]
theorem tpS_1 {n:Nat} {x:Tp} (h:ordS n x.f x.t=0) (h3: ¬(0≤x.lo∧x.lo≤x.hi∧x.hi≤9999)):tpS n x=1:=by
 rw [tpS,if_neg (fun e=>e h),if_pos h3]
theorem tpS_0 {n:Nat} {x:Tp} (h:ordS n x.f x.t=0) (h3:0≤x.lo∧x.lo≤x.hi∧x.hi≤9999):tpS n x=0:=by
 rw [tpS,if_neg (fun e=>e h),if_neg (fun e=>e h3)]
theorem ordS_0 {n:Nat} {f t:Int} (h: ¬(¬(0≤f∧f≤(n:Int)-1)∨ ¬(0≤t∧t≤(n:Int)-1))) (h2: ¬f≥t):ordS n f t=0:=by rw [ordS,if_neg h,if_neg h2]
theorem tapesS_at {b:Fb} {j:Nat} {r:Int} (h3: ¬(b.tapes.length:Int)>3) (h: ∀i,i<j→tpS b.pts.length (b.tapes.getD i default)=0) (hj:j<b.tapes.length) (hr:tpS b.pts.length (b.tapes.getD j default)=r) (h0:r≠0):tapesS b=r:=by
 rw [tapesS,if_neg h3,scanS_at (f:=fun i=>tpS b.pts.length (b.tapes.getD i default)) (k:=j) h (by show tpS _ _≠0;rw [hr];exact h0) hj];exact hr
theorem tapesS_all {b:Fb} (h3: ¬(b.tapes.length:Int)>3) (h: ∀i,i<b.tapes.length→tpS b.pts.length (b.tapes.getD i default)=0):tapesS b=0:=by
 rw [tapesS,if_neg h3,scanS_all h]
theorem sticksS_at {b:Fb} {j:Nat} (h3: ¬(b.sticks.length:Int)>3) (h: ∀i,i<j→skS b.pts (b.sticks.getD i default)=0) (hj:j<b.sticks.length) (hr:skS b.pts (b.sticks.getD j default)=1):sticksS b=1:=by
 rw [sticksS,if_neg h3,scanS_at (f:=fun i=>skS b.pts (b.sticks.getD i default)) (k:=j) h (by show skS _ _≠0;rw [hr];decide) hj];exact hr
theorem sticksS_all {b:Fb} (h3: ¬(b.sticks.length:Int)>3) (h: ∀i,i<b.sticks.length→skS b.pts (b.sticks.getD i default)=0):sticksS b=0:=by
 rw [sticksS,if_neg h3,scanS_all h]
theorem int_eq {a b:Int} (h:b=a):Value.int .i64 a= .int .i64 b:=by rw [h]
theorem all_next {f:Nat→Int} {j:Nat} (h: ∀i,i<j→f i=0) (hj:f j=0): ∀i,i<j+1→f i=0:=fun i hi=>by
 rcases Nat.lt_or_ge i j with h1|h1
 ·exact h i h1
 ·obtain rfl:i=j:=by omega
  exact hj
theorem f58_c (m:Md Tryz.prog B) (h:Hp) (rdp:Rp B h b pp np cp) (hp:np≤1000) (rdt:Rt B h b pt nt ct) (ht:nt≤1000):FnC m 58 #[fbV b pp np cp pt nt ct pk nk ck] h fun v h'=>h'=h∧v= .int .i64 (tapesS b):=by
 have hml:=rdp.elen (by decide)
 have htl:=rdt.elen (by decide)
 refine fn_enter Tryz.func58 rfl rfl (l:=(fbV b pp np cp pt nt ct pk nk ck)::uu41) rfl ?_
 intro cf cs K hK
 refine rs2 ?_;refine k_box rfl zq (fun q1=>k_hp (k_put ?_));refine d12 ?_;refine rs4 ?_;refine d106 ?_
 refine k_gtrS rfl zq (fun hc=>?_) (fun hc=>?_)
 ·refine d58 ?_
  refine run_res (h) rfl Tryz.func58 rfl weakSub ?_;refine hK _ _ ?_;refine ⟨rfl,int_eq ?_⟩
  first
   |exact (by rw [tapesS,if_pos (by omega)])
   |exact (tapesS_all (by omega) fun i hi=>hall i (by omega))
   |exact tapesS_at (by omega) hall (by omega) (tpS_6 (by omega)) (by first|decide|omega)
   |exact tapesS_at (by omega) hall (by omega) (tpS_7 (by omega) (by omega)) (by first|decide|omega)
   |exact tapesS_at (by omega) hall (by omega) (tpS_1 (ordS_0 (by omega) (by omega)) (by omega)) (by first|decide|omega)
 ·refine d38 ?_;refine d135 ?_
  refine run_loop (fun nn l h'=> ∃(j:Nat),nn=nt-j∧(j≤nt)∧(∀i,i<j→tpS b.pts.length (b.tapes.getD i default)=0)∧(∃U:Nat→Value,l=((fbV b pp np cp pt nt ct pk nk ck)::(.pointer (some ⟨q1,0,none⟩))::(U 2)::(.int .i64 (j:Int))::vw38 U 4 []))∧h++[⟨true,q1,.cells (fbL b pp np cp pt nt ct pk nk ck).toArray 26 (0,0)⟩]=h') _ ⟨0,rfl,by omega,fun i hi=>by omega,exU rfl,rfl⟩ ?_;rintro nn l h' ⟨j,rfl,hj,hall,⟨U,rfl⟩,rfl⟩ hnext;refine run_seq ?_;refine d140 ?_;refine d106 ?_;refine k_lssS rfl zq (fun hc=>?_) (fun hc=>?_)
  ·refine d94 ?_;refine rs7 ?_;refine d2 ?_;refine mq rfl ?_
   obtain ⟨rdt_b,rdt_o,rfl⟩:=rdt.ptr (by omega)
   refine k_ixs rfl zq (by first|rfl|assumption) (by omega) (by omega) ?_;refine k_ldN (vs:=[.int .i64 (b.tapes.getD j default).f,.int .i64 (b.tapes.getD j default).t,.int .i64 (b.tapes.getD j default).lo,.int .i64 (b.tapes.getD j default).hi]) rfl zq rfl (rdt.eat j (by omega) (by omega)) ?_;refine k_new rfl zq (fun q4=>k_hp (k_put ?_));refine d131 ?_;refine rs12 ?_;refine k_ldA rfl zq ?_;refine d2 ?_
   refine k_calP (Post:=fun v=>IsB _ v) rfl zq (by kernel_rfl) (fun H' hH=>f119_c m H' _ hp) ?_;rintro v (⟨hc,rfl⟩|⟨hc,rfl⟩)
   ·refine d40 ?_;refine d130 ?_;refine d25 ?_
    refine k_calP (Post:=fun v=>IsB _ v) rfl rfl (by kernel_rfl) (fun H' hH=>f119_c m H' _ hp) ?_;rintro v (⟨hc,rfl⟩|⟨hc,rfl⟩)
    ·refine d85 ?_;refine k_pickF rfl zq ?_;refine d38 ?_;refine rs5 ?_;refine d2 ?_;refine d2 ?_
     refine k_geqS rfl zq (fun hc=>?_) (fun hc=>?_)
     ·refine d58 ?_
      refine run_res (h) rfl Tryz.func58 rfl weakSub ?_;refine hK _ _ ?_;refine ⟨rfl,int_eq ?_⟩
      first
       |exact (by rw [tapesS,if_pos (by omega)])
       |exact (tapesS_all (by omega) fun i hi=>hall i (by omega))
       |exact tapesS_at (by omega) hall (by omega) (tpS_6 (by omega)) (by first|decide|omega)
       |exact tapesS_at (by omega) hall (by omega) (tpS_7 (by omega) (by omega)) (by first|decide|omega)
       |exact tapesS_at (by omega) hall (by omega) (tpS_1 (ordS_0 (by omega) (by omega)) (by omega)) (by first|decide|omega)
     ·refine d13 ?_;refine rs4 ?_;refine d60 ?_
      refine k_calP (Post:=fun v=>IsB _ v) rfl zq (by kernel_rfl) (fun H' hH=>f113_c m H' _ _ _ _) ?_;rintro v (⟨hc,rfl⟩|⟨hc,rfl⟩)
      ·refine d40 ?_;refine d13 ?_;refine d110 ?_
       exact m.weak weakSub (hnext _ _ _ (by omega) ⟨j+1,rfl,by omega,all_next hall (tpS_0 (ordS_0 (by omega) (by omega)) (by omega)),exU rfl,rfl⟩)
      ·refine d41 ?_;refine d58 ?_
       refine run_res (h) rfl Tryz.func58 rfl weakSub ?_;refine hK _ _ ?_;refine ⟨rfl,int_eq ?_⟩
       first
        |exact (by rw [tapesS,if_pos (by omega)])
        |exact (tapesS_all (by omega) fun i hi=>hall i (by omega))
        |exact tapesS_at (by omega) hall (by omega) (tpS_6 (by omega)) (by first|decide|omega)
        |exact tapesS_at (by omega) hall (by omega) (tpS_7 (by omega) (by omega)) (by first|decide|omega)
        |exact tapesS_at (by omega) hall (by omega) (tpS_1 (ordS_0 (by omega) (by omega)) (by omega)) (by first|decide|omega)
    ·refine d100 ?_;refine k_pickF rfl zq ?_;refine d58 ?_
     refine run_res (h) rfl Tryz.func58 rfl weakSub ?_;refine hK _ _ ?_;refine ⟨rfl,int_eq ?_⟩
     first
      |exact (by rw [tapesS,if_pos (by omega)])
      |exact (tapesS_all (by omega) fun i hi=>hall i (by omega))
      |exact tapesS_at (by omega) hall (by omega) (tpS_6 (by omega)) (by first|decide|omega)
      |exact tapesS_at (by omega) hall (by omega) (tpS_7 (by omega) (by omega)) (by first|decide|omega)
      |exact tapesS_at (by omega) hall (by omega) (tpS_1 (ordS_0 (by omega) (by omega)) (by omega)) (by first|decide|omega)
   ·refine d41 ?_;refine d68 ?_;refine k_off rfl rfl ?_;refine d142 ?_
    refine run_res (h) rfl Tryz.func58 rfl weakSub ?_;refine hK _ _ ?_;refine ⟨rfl,int_eq ?_⟩
    first
     |exact (by rw [tapesS,if_pos (by omega)])
     |exact (tapesS_all (by omega) fun i hi=>hall i (by omega))
     |exact tapesS_at (by omega) hall (by omega) (tpS_6 (by omega)) (by first|decide|omega)
     |exact tapesS_at (by omega) hall (by omega) (tpS_7 (by omega) (by omega)) (by first|decide|omega)
     |exact tapesS_at (by omega) hall (by omega) (tpS_1 (ordS_0 (by omega) (by omega)) (by omega)) (by first|decide|omega)
  ·refine d67 ?_;refine d37 ?_
   refine run_res (h) rfl Tryz.func58 rfl weakSub ?_;refine hK _ _ ?_;refine ⟨rfl,int_eq ?_⟩
   first
    |exact (by rw [tapesS,if_pos (by omega)])
    |exact (tapesS_all (by omega) fun i hi=>hall i (by omega))
    |exact tapesS_at (by omega) hall (by omega) (tpS_6 (by omega)) (by first|decide|omega)
    |exact tapesS_at (by omega) hall (by omega) (tpS_7 (by omega) (by omega)) (by first|decide|omega)
    |exact tapesS_at (by omega) hall (by omega) (tpS_1 (ordS_0 (by omega) (by omega)) (by omega)) (by first|decide|omega)
theorem f217_c (m:Md Tryz.prog B) (h:Hp) (rdp:Rp B h b pp np cp) (hp:np≤1000) (rdt:Rt B h b pt nt ct) (ht:nt≤1000):FnC m 217 #[fbV b pp np cp pt nt ct pk nk ck] h fun v h'=>h'=h∧v= .int .i64 (tapesS b):=by
 have hml:=rdp.elen (by decide)
 have htl:=rdt.elen (by decide)
 refine fn_enter Tryz.func217 rfl rfl (l:=(fbV b pp np cp pt nt ct pk nk ck)::uu32) rfl ?_
 intro cf cs K hK
 refine rs2 ?_;refine k_box rfl zq (fun q1=>k_hp (k_put ?_));refine d12 ?_;refine rs5 ?_;refine d149 ?_
 refine k_gtrS rfl zq (fun hc=>?_) (fun hc=>?_)
 ·refine d58 ?_
  refine run_res (h) rfl Tryz.func217 rfl weakSub ?_;refine hK _ _ ?_;refine ⟨rfl,int_eq ?_⟩
  first
   |exact (by rw [tapesS,if_pos (by omega)])
   |exact (tapesS_all (by omega) fun i hi=>hall i (by omega))
   |exact tapesS_at (by omega) hall (by omega) ((tpS_o (by rw [hml];omega)).trans (by rw [hml])) (by first|decide|omega)
   |exact tapesS_at (by omega) hall (by omega) (tpS_1 (by rw [hml];omega) (by omega)) (by first|decide|omega)
 ·refine d38 ?_;refine rs5 ?_;refine d28 ?_;refine d136 ?_
  refine run_loop (fun nn l h'=> ∃(j:Nat),nn=nt-j∧(j≤nt)∧(∀i,i<j→tpS b.pts.length (b.tapes.getD i default)=0)∧(∃U:Nat→Value,l=((fbV b pp np cp pt nt ct pk nk ck)::(.pointer (some ⟨q1,0,none⟩))::vw11 U 2 ((.slice pt nt ct)::(.int .i64 (nt:Int))::(.int .i64 (j:Int))::vw17 U 16 [])))∧h++[⟨true,q1,.cells (fbL b pp np cp pt nt ct pk nk ck).toArray 96 (0,0)⟩]=h') _ ⟨0,rfl,by omega,fun i hi=>by omega,exU rfl,rfl⟩ ?_;rintro nn l h' ⟨j,rfl,hj,hall,⟨U,rfl⟩,rfl⟩ hnext;refine rs1 ?_;refine k_lssS rfl zq (fun hc=>?_) (fun hc=>?_)
  ·refine d104 ?_;refine rs4 ?_
   obtain ⟨rdt_b,rdt_o,rfl⟩:=rdt.ptr (by omega)
   refine k_ixs rfl zq (by first|rfl|assumption) (by omega) (by omega) ?_;refine k_ldN (vs:=[.int .i64 (b.tapes.getD j default).f,.int .i64 (b.tapes.getD j default).t,.int .i64 (b.tapes.getD j default).lo,.int .i64 (b.tapes.getD j default).hi]) rfl zq rfl (rdt.eat j (by omega) (by omega)) ?_;refine k_new rfl zq (fun q4=>k_hp (k_put ?_));refine d131 ?_;refine rs7 ?_;refine k_ldA rfl zq ?_;refine d2 ?_;refine d2 ?_
   refine k_calP (Post:=fun v=>v=_) rfl zq (by kernel_rfl) (fun H' hH=>f70_c m H' _ _ hp) ?_;rintro v rfl;refine d138 ?_
   refine k_neqS rfl zq (fun hc=>?_) (fun hc=>?_)
   ·refine d7 ?_;refine d95 ?_
    refine run_res (h) rfl Tryz.func217 rfl weakSub ?_;refine hK _ _ ?_;refine ⟨rfl,int_eq ?_⟩
    first
     |exact (by rw [tapesS,if_pos (by omega)])
     |exact (tapesS_all (by omega) fun i hi=>hall i (by omega))
     |exact tapesS_at (by omega) hall (by omega) ((tpS_o (by rw [hml];omega)).trans (by rw [hml])) (by first|decide|omega)
     |exact tapesS_at (by omega) hall (by omega) (tpS_1 (by rw [hml];omega) (by omega)) (by first|decide|omega)
   ·refine d13 ?_;refine rs4 ?_;refine d60 ?_
    refine k_calP (Post:=fun v=>IsB _ v) rfl zq (by kernel_rfl) (fun H' hH=>f219_c m H' _ _ _ _) ?_;rintro v (⟨hc,rfl⟩|⟨hc,rfl⟩)
    ·refine d40 ?_;refine d13 ?_;refine d91 ?_
     exact m.weak weakSub (hnext _ _ _ (by omega) ⟨j+1,rfl,by omega,all_next hall (tpS_0 (by rw [hml];omega) (by omega)),exU rfl,rfl⟩)
    ·refine d41 ?_;refine d58 ?_
     refine run_res (h) rfl Tryz.func217 rfl weakSub ?_;refine hK _ _ ?_;refine ⟨rfl,int_eq ?_⟩
     first
      |exact (by rw [tapesS,if_pos (by omega)])
      |exact (tapesS_all (by omega) fun i hi=>hall i (by omega))
      |exact tapesS_at (by omega) hall (by omega) ((tpS_o (by rw [hml];omega)).trans (by rw [hml])) (by first|decide|omega)
      |exact tapesS_at (by omega) hall (by omega) (tpS_1 (by rw [hml];omega) (by omega)) (by first|decide|omega)
  ·refine d105 ?_;refine d37 ?_
   refine run_res (h) rfl Tryz.func217 rfl weakSub ?_;refine hK _ _ ?_;refine ⟨rfl,int_eq ?_⟩
   first
    |exact (by rw [tapesS,if_pos (by omega)])
    |exact (tapesS_all (by omega) fun i hi=>hall i (by omega))
    |exact tapesS_at (by omega) hall (by omega) ((tpS_o (by rw [hml];omega)).trans (by rw [hml])) (by first|decide|omega)
    |exact tapesS_at (by omega) hall (by omega) (tpS_1 (by rw [hml];omega) (by omega)) (by first|decide|omega)
theorem f59_c (m:Md Tryz.prog B) (h:Hp) (rdp:Rp B h b pp np cp) (hp:np≤1000) (rdk:Rk B h b pk nk ck) (hk:nk≤1000) (h1:1≤np):FnC m 59 #[fbV b pp np cp pt nt ct pk nk ck] h fun v h'=>h'=h∧v= .int .i64 (sticksS b):=by
 have hml:=rdp.elen (by decide)
 have hkl:=rdk.elen (by decide)
 refine fn_enter Tryz.func59 rfl rfl (l:=(fbV b pp np cp pt nt ct pk nk ck)::uu33) rfl ?_
 intro cf cs K hK
 refine rs2 ?_;refine k_box rfl zq (fun q1=>k_hp (k_put ?_));refine d12 ?_;refine rs4 ?_;refine d106 ?_
 refine k_gtrS rfl zq (fun hc=>?_) (fun hc=>?_)
 ·refine d58 ?_
  refine run_res (h) rfl Tryz.func59 rfl weakSub ?_;refine hK _ _ ?_;refine ⟨rfl,int_eq ?_⟩
  first
   |exact (by rw [sticksS,if_pos (by omega)])
   |exact (sticksS_all (by omega) fun i hi=>hall i (by omega))
   |exact sticksS_at (by omega) hall (by omega) (by unfold skS;rw [hml,if_pos (by omega)])
 ·refine d38 ?_;refine d135 ?_
  refine run_loop (fun nn l h'=> ∃(j:Nat),nn=nk-j∧(j≤nk)∧(∀i,i<j→skS b.pts (b.sticks.getD i default)=0)∧(∃U:Nat→Value,l=((fbV b pp np cp pt nt ct pk nk ck)::(.pointer (some ⟨q1,0,none⟩))::(U 2)::(.int .i64 (j:Int))::vw30 U 4 []))∧h++[⟨true,q1,.cells (fbL b pp np cp pt nt ct pk nk ck).toArray 26 (0,0)⟩]=h') _ ⟨0,rfl,by omega,fun i hi=>by omega,exU rfl,rfl⟩ ?_;rintro nn l h' ⟨j,rfl,hj,hall,⟨U,rfl⟩,rfl⟩ hnext;refine run_seq ?_;refine d140 ?_;refine d106 ?_;refine k_lssS rfl zq (fun hc=>?_) (fun hc=>?_)
  ·refine d94 ?_;refine run_seq ?_
   refine run_draw [(1,.pure),(3,.pure),(0,.read),(2,.read),(4,.pure),(5,.pure),(6,.read),(7,.keep),(8,.pure),(9,.pure),(10,.pure),(12,.pure),(11,.read),(13,.pure),(14,.pure),(15,.read),(16,.keep),(17,.pure),(18,.pure)] (by kernel_rfl) (by kernel_rfl) (List.Sublist.refl _) ?_;(first|refine k_fa0 rfl zq ?_|refine k_fa rfl zq ?_);refine mq rfl ?_;refine d64 ?_
   obtain ⟨rdk_b,rdk_o,rfl⟩:=rdk.ptr (by omega)
   refine d18 ?_
   refine k_ld rfl zq (rdk.fat (v:= .int .i64 (b.sticks.getD j default).h) j 0 (by omega) (by omega) rfl) ?_;refine k_calP (Post:=fun v=>IsB _ v) rfl zq (by kernel_rfl) (fun H' hH=>f120_c m H' _ (rdp.keeps (sq hH)) hp h1) ?_;rintro v (⟨hc,rfl⟩|⟨hc,rfl⟩)
   ·refine d40 ?_;refine d119 ?_;refine k_mv rfl rfl ?_;refine k_ldh rfl rfl ?_;refine k_ixs rfl rfl (by first|rfl|assumption) (by omega) (by omega) ?_;(first|refine k_fa0 rfl rfl ?_|refine k_fa rfl rfl ?_)
    refine k_ld rfl rfl (rdk.fat (v:= .int .i64 (b.sticks.getD j default).long) j 1 (by omega) (by omega) rfl) ?_;refine k_calP (Post:=fun v=>IsB _ v) rfl rfl (by kernel_rfl) (fun H' hH=>f50_c m H' _ _ _) ?_;rintro v (⟨hc,rfl⟩|⟨hc,rfl⟩)
    ·refine d85 ?_;refine d126 ?_;refine d110 ?_
     exact m.weak weakSub (hnext _ _ _ (by omega) ⟨j+1,rfl,by omega,all_next hall (by unfold skS;rw [hml,if_neg (by omega)]),exU rfl,rfl⟩)
    ·refine d100 ?_;refine k_pickF rfl zq ?_;refine d58 ?_
     refine run_res (h) rfl Tryz.func59 rfl weakSub ?_;refine hK _ _ ?_;refine ⟨rfl,int_eq ?_⟩
     first
      |exact (by rw [sticksS,if_pos (by omega)])
      |exact (sticksS_all (by omega) fun i hi=>hall i (by omega))
      |exact sticksS_at (by omega) hall (by omega) (by unfold skS;rw [hml,if_pos (by omega)])
   ·refine d41 ?_;refine d115 ?_;refine d142 ?_
    refine run_res (h) rfl Tryz.func59 rfl weakSub ?_;refine hK _ _ ?_;refine ⟨rfl,int_eq ?_⟩
    first
     |exact (by rw [sticksS,if_pos (by omega)])
     |exact (sticksS_all (by omega) fun i hi=>hall i (by omega))
     |exact sticksS_at (by omega) hall (by omega) (by unfold skS;rw [hml,if_pos (by omega)])
  ·refine d67 ?_;refine d37 ?_
   refine run_res (h) rfl Tryz.func59 rfl weakSub ?_;refine hK _ _ ?_;refine ⟨rfl,int_eq ?_⟩
   first
    |exact (by rw [sticksS,if_pos (by omega)])
    |exact (sticksS_all (by omega) fun i hi=>hall i (by omega))
    |exact sticksS_at (by omega) hall (by omega) (by unfold skS;rw [hml,if_pos (by omega)])
theorem f218_c (m:Md Tryz.prog B) (h:Hp) (rdp:Rp B h b pp np cp) (hp:np≤1000) (rdk:Rk B h b pk nk ck) (hk:nk≤1000) (h1:1≤np):FnC m 218 #[fbV b pp np cp pt nt ct pk nk ck] h fun v h'=>h'=h∧v= .int .i64 (sticksS b):=by
 have hml:=rdp.elen (by decide)
 have hkl:=rdk.elen (by decide)
 refine fn_enter Tryz.func218 rfl rfl (l:=(fbV b pp np cp pt nt ct pk nk ck)::uu29) rfl ?_
 intro cf cs K hK
 refine rs2 ?_;refine k_box rfl zq (fun q1=>k_hp (k_put ?_));refine d12 ?_;refine rs5 ?_;refine d149 ?_
 refine k_gtrS rfl zq (fun hc=>?_) (fun hc=>?_)
 ·refine d58 ?_
  refine run_res (h) rfl Tryz.func218 rfl weakSub ?_;refine hK _ _ ?_;refine ⟨rfl,int_eq ?_⟩
  first
   |exact (by rw [sticksS,if_pos (by omega)])
   |exact (sticksS_all (by omega) fun i hi=>hall i (by omega))
   |exact sticksS_at (by omega) hall (by omega) (by unfold skS;rw [hml,if_pos (by omega)])
 ·refine d38 ?_;refine rs5 ?_;refine d28 ?_;refine d136 ?_
  refine run_loop (fun nn l h'=> ∃(j:Nat),nn=nk-j∧(j≤nk)∧(∀i,i<j→skS b.pts (b.sticks.getD i default)=0)∧(∃U:Nat→Value,l=((fbV b pp np cp pt nt ct pk nk ck)::(.pointer (some ⟨q1,0,none⟩))::vw10 U 2 ((.slice pk nk ck)::(.int .i64 (nk:Int))::(.int .i64 (j:Int))::vw15 U 15 [])))∧h++[⟨true,q1,.cells (fbL b pp np cp pt nt ct pk nk ck).toArray 96 (0,0)⟩]=h') _ ⟨0,rfl,by omega,fun i hi=>by omega,exU rfl,rfl⟩ ?_;rintro nn l h' ⟨j,rfl,hj,hall,⟨U,rfl⟩,rfl⟩ hnext;refine rs1 ?_;refine k_lssS rfl zq (fun hc=>?_) (fun hc=>?_)
  ·refine d104 ?_;refine rs4 ?_
   obtain ⟨rdk_b,rdk_o,rfl⟩:=rdk.ptr (by omega)
   refine k_ixs rfl zq (by first|rfl|assumption) (by omega) (by omega) ?_;refine k_ldN (vs:=[.int .i64 (b.sticks.getD j default).h,.int .i64 (b.sticks.getD j default).long,.bool (b.sticks.getD j default).fits]) rfl zq rfl (rdk.eat j (by omega) (by omega)) ?_;refine k_new rfl zq (fun q4=>k_hp (k_put ?_));refine d48 ?_;refine rs11 ?_;refine k_ldA rfl zq ?_;refine d2 ?_
   refine k_calP (Post:=fun v=>IsB _ v) rfl zq (by kernel_rfl) (fun H' hH=>f45_c m H' _ (rdp.keeps (sq hH)) hp h1) ?_;rintro v (⟨hc,rfl⟩|⟨hc,rfl⟩)
   ·refine d40 ?_;refine mq rfl ?_;refine d25 ?_
    refine k_calP (Post:=fun v=>IsB _ v) rfl rfl (by kernel_rfl) (fun H' hH=>f68_c m H' _ _ _) ?_;rintro v (⟨hc,rfl⟩|⟨hc,rfl⟩)
    ·refine d85 ?_;refine d126 ?_;refine d91 ?_
     exact m.weak weakSub (hnext _ _ _ (by omega) ⟨j+1,rfl,by omega,all_next hall (by unfold skS;rw [hml,if_neg (by omega)]),exU rfl,rfl⟩)
    ·refine d100 ?_;refine k_pickF rfl zq ?_;refine d58 ?_
     refine run_res (h) rfl Tryz.func218 rfl weakSub ?_;refine hK _ _ ?_;refine ⟨rfl,int_eq ?_⟩
     first
      |exact (by rw [sticksS,if_pos (by omega)])
      |exact (sticksS_all (by omega) fun i hi=>hall i (by omega))
      |exact sticksS_at (by omega) hall (by omega) (by unfold skS;rw [hml,if_pos (by omega)])
   ·refine d41 ?_;refine d68 ?_;refine d142 ?_
    refine run_res (h) rfl Tryz.func218 rfl weakSub ?_;refine hK _ _ ?_;refine ⟨rfl,int_eq ?_⟩
    first
     |exact (by rw [sticksS,if_pos (by omega)])
     |exact (sticksS_all (by omega) fun i hi=>hall i (by omega))
     |exact sticksS_at (by omega) hall (by omega) (by unfold skS;rw [hml,if_pos (by omega)])
  ·refine d105 ?_;refine d37 ?_
   refine run_res (h) rfl Tryz.func218 rfl weakSub ?_;refine hK _ _ ?_;refine ⟨rfl,int_eq ?_⟩
   first
    |exact (by rw [sticksS,if_pos (by omega)])
    |exact (sticksS_all (by omega) fun i hi=>hall i (by omega))
    |exact sticksS_at (by omega) hall (by omega) (by unfold skS;rw [hml,if_pos (by omega)])
theorem f216_c (m:Md Tryz.prog B) (h:Hp) (rdp:Rp B h b pp np cp) (hp:np≤1000):FnC m 216 #[fbV b pp np cp pt nt ct pk nk ck] h fun v h'=>h'=h∧v= .int .i64 (plankS b):=by
 have hml:=rdp.elen (by decide)
 refine fn_enter Tryz.func216 rfl rfl (l:=(fbV b pp np cp pt nt ct pk nk ck)::uu63) rfl ?_
 intro cf cs K hK
 refine rs2 ?_;refine k_box rfl zq (fun q1=>k_hp (k_put ?_));refine d12 ?_;refine run_block ?_;refine rs6 ?_;refine d28 ?_
 refine k_calP (Post:=fun v=>IsB _ v) rfl zq (by kernel_rfl) (fun H' hH=>f68_c m H' _ _ _) ?_;rintro v (⟨hc,rfl⟩|⟨hc,rfl⟩)
 ·refine d40 ?_;refine d90 ?_;refine rs7 ?_;refine d149 ?_
  refine k_calP (Post:=fun v=>IsB _ v) rfl zq (by kernel_rfl) (fun H' hH=>f68_c m H' _ _ _) ?_;rintro v (⟨hc,rfl⟩|⟨hc,rfl⟩)
  ·refine d40 ?_;refine aq rfl ?_;refine d143 ?_;refine run_seq ?_;refine rs5 ?_;refine d28 ?_;refine d136 ?_
   refine run_loop (fun nn l h'=> ∃(j:Nat),nn=np-j∧(j≤np)∧(∀i,i<j→ptS b.pts i=0)∧(∃U:Nat→Value,l=((fbV b pp np cp pt nt ct pk nk ck)::(.pointer (some ⟨q1,0,none⟩))::vw18 U 2 ((.slice pp np cp)::(.int .i64 (np:Int))::(.int .i64 (j:Int))::vw41 U 23 [])))∧h++[⟨true,q1,.cells (fbL b pp np cp pt nt ct pk nk ck).toArray 96 (0,0)⟩]=h') _ ⟨0,rfl,by omega,fun i hi=>by omega,exU rfl,rfl⟩ ?_;rintro nn l h' ⟨j,rfl,hj,hall,⟨U,rfl⟩,rfl⟩ hnext;refine rs1 ?_;refine k_lssS rfl zq (fun hc=>?_) (fun hc=>?_)
   ·refine d104 ?_;refine rs6 ?_;refine mq rfl ?_
    obtain ⟨rdp_b,rdp_o,rfl⟩:=rdp.ptr (by omega)
    refine k_ixs rfl zq (by first|rfl|assumption) (by omega) (by omega) ?_;refine k_ldN (vs:=[.int .i64 (b.pts.getD j default).h,.int .i64 (b.pts.getD j default).lo,.int .i64 (b.pts.getD j default).hi]) rfl zq rfl (rdp.eat j (by omega) (by omega)) ?_;refine k_new rfl zq (fun q4=>k_hp (k_put ?_));refine k_as rfl zq ?_;refine d48 ?_;refine run_block ?_;refine rs5 ?_;refine d2 ?_;refine k_calP (Post:=fun v=>IsB _ v) rfl zq (by kernel_rfl) (fun H' hH=>f68_c m H' _ _ _) ?_;rintro v (⟨hc,rfl⟩|⟨hc,rfl⟩)
    ·refine d40 ?_;refine d90 ?_;refine run_seq ?_
     refine run_draw [(0,.pure),(1,.pure),(2,.pure),(3,.pure),(5,.pure),(6,.pure),(8,.pure),(9,.pure),(4,.read),(7,.read),(10,.pure),(11,.pure),(12,.read),(13,.pure),(14,.pure),(15,.pure)] (by kernel_rfl) (by kernel_rfl) (List.Sublist.refl _) ?_;refine mq rfl ?_
     refine k_gtrS rfl zq (fun hc=>?_) (fun hc=>?_)
     ·refine d119 ?_;(first|refine k_fa0 rfl rfl ?_|refine k_fa rfl rfl ?_);(first|refine k_fa0 rfl rfl ?_|refine k_fa rfl rfl ?_);refine k_mv rfl rfl ?_;refine k_sub rfl rfl (by unfold In64;omega) ?_;refine k_ldh rfl rfl ?_;refine k_ldh rfl rfl ?_;refine k_ixs rfl rfl (by first|rfl|assumption) (by omega) (by omega) ?_;(first|refine k_fa0 rfl rfl ?_|refine k_fa rfl rfl ?_)
      refine k_ld rfl rfl (rdp.fat (v:= .int .i64 (b.pts.getD (j-1) default).h) (j-1) 0 (by omega) (by omega) rfl) ?_;refine k_leqS rfl rfl (fun hc=>?_) (fun hc=>?_)
      ·refine k_pickT rfl zq ?_;refine d146 ?_;refine run_res (h) rfl Tryz.func216 rfl weakSub ?_;refine hK _ _ ?_;refine ⟨rfl,int_eq ?_⟩
       first
        |(rw [plankS,if_pos (by omega)];done)
        |(rw [plankS,if_neg (by omega),ptsS,if_pos (by omega)];done)
        |(rw [plankS,if_neg (by omega),ptsS,if_neg (by omega),scanS_all (fun i hi=>hall i (by omega))];done)
        |(rw [plankS,if_neg (by omega),ptsS,if_neg (by omega),scanS_at (k:=j) hall (by unfold ptS;first|(rw [if_pos (by omega)];decide)|(rw [if_neg (by omega),if_pos (by omega)];decide)|(rw [if_neg (by omega),if_neg (by omega),if_pos (by omega)];decide)) (by omega)];unfold ptS;first|(rw [if_pos (by omega)];done)|(rw [if_neg (by omega),if_pos (by omega)];done)|(rw [if_neg (by omega),if_neg (by omega),if_pos (by omega)];done)|(rw [if_neg (by omega),if_neg (by omega),if_neg (by omega)];done))
      ·refine k_pickT rfl zq ?_;refine d90 ?_;refine run_seq ?_;refine run_region [(0,.free),(1,.free),(2,.free),(3,.free),(4,.free),(5,.free),(6,.free),(7,.free),(8,.free),(9,.free),(10,.free),(11,.free),(12,.free),(13,.free),(14,.free)] (by kernel_rfl) (by kernel_rfl) ?_;refine d60 ?_
       refine k_calP (Post:=fun v=>IsB _ v) rfl zq (by kernel_rfl) (fun H' hH=>f219_c m H' _ _ _ _) ?_;rintro v (⟨hc,rfl⟩|⟨hc,rfl⟩)
       ·refine d40 ?_;refine d119 ?_;refine d25 ?_;(first|refine k_fa0 rfl rfl ?_|refine k_fa rfl rfl ?_);refine d144 ?_
        refine k_geqS rfl rfl (fun hc=>?_) (fun hc=>?_)
        ·refine k_pickF rfl zq ?_;refine d146 ?_;refine run_res (h) rfl Tryz.func216 rfl weakSub ?_;refine hK _ _ ?_;refine ⟨rfl,int_eq ?_⟩
         first
          |(rw [plankS,if_pos (by omega)];done)
          |(rw [plankS,if_neg (by omega),ptsS,if_pos (by omega)];done)
          |(rw [plankS,if_neg (by omega),ptsS,if_neg (by omega),scanS_all (fun i hi=>hall i (by omega))];done)
          |(rw [plankS,if_neg (by omega),ptsS,if_neg (by omega),scanS_at (k:=j) hall (by unfold ptS;first|(rw [if_pos (by omega)];decide)|(rw [if_neg (by omega),if_pos (by omega)];decide)|(rw [if_neg (by omega),if_neg (by omega),if_pos (by omega)];decide)) (by omega)];unfold ptS;first|(rw [if_pos (by omega)];done)|(rw [if_neg (by omega),if_pos (by omega)];done)|(rw [if_neg (by omega),if_neg (by omega),if_pos (by omega)];done)|(rw [if_neg (by omega),if_neg (by omega),if_neg (by omega)];done))
        ·refine k_pickF rfl zq ?_;refine aq rfl ?_;refine d143 ?_;refine d91 ?_;exact m.weak weakSub (hnext _ _ _ (by omega) ⟨j+1,rfl,by omega,fun i hi=>by
          rcases Nat.lt_or_ge i j with h3|h3
          ·exact hall i h3
          ·obtain rfl:i=j:=by omega
           unfold ptS
           first|(rw [if_pos (by omega)];done)|(rw [if_neg (by omega),if_pos (by omega)];done)|(rw [if_neg (by omega),if_neg (by omega),if_pos (by omega)];done)|(rw [if_neg (by omega),if_neg (by omega),if_neg (by omega)];done),exU rfl,rfl⟩)
       ·refine d41 ?_;refine d115 ?_;refine k_pickT rfl zq ?_;refine d146 ?_
        refine run_res (h) rfl Tryz.func216 rfl weakSub ?_;refine hK _ _ ?_;refine ⟨rfl,int_eq ?_⟩
        first
         |(rw [plankS,if_pos (by omega)];done)
         |(rw [plankS,if_neg (by omega),ptsS,if_pos (by omega)];done)
         |(rw [plankS,if_neg (by omega),ptsS,if_neg (by omega),scanS_all (fun i hi=>hall i (by omega))];done)
         |(rw [plankS,if_neg (by omega),ptsS,if_neg (by omega),scanS_at (k:=j) hall (by unfold ptS;first|(rw [if_pos (by omega)];decide)|(rw [if_neg (by omega),if_pos (by omega)];decide)|(rw [if_neg (by omega),if_neg (by omega),if_pos (by omega)];decide)) (by omega)];unfold ptS;first|(rw [if_pos (by omega)];done)|(rw [if_neg (by omega),if_pos (by omega)];done)|(rw [if_neg (by omega),if_neg (by omega),if_pos (by omega)];done)|(rw [if_neg (by omega),if_neg (by omega),if_neg (by omega)];done))
     ·refine d115 ?_;refine d5 ?_;refine d63 ?_;refine d90 ?_;refine run_seq ?_
      refine run_region [(0,.free),(1,.free),(2,.free),(3,.free),(4,.free),(5,.free),(6,.free),(7,.free),(8,.free),(9,.free),(10,.free),(11,.free),(12,.free),(13,.free),(14,.free)] (by kernel_rfl) (by kernel_rfl) ?_;refine d60 ?_
      refine k_calP (Post:=fun v=>IsB _ v) rfl zq (by kernel_rfl) (fun H' hH=>f219_c m H' _ _ _ _) ?_;rintro v (⟨hc,rfl⟩|⟨hc,rfl⟩)
      ·refine d40 ?_;refine d119 ?_;refine d25 ?_;(first|refine k_fa0 rfl rfl ?_|refine k_fa rfl rfl ?_);refine d144 ?_
       refine k_geqS rfl rfl (fun hc=>?_) (fun hc=>?_)
       ·refine k_pickF rfl zq ?_;refine d146 ?_;refine run_res (h) rfl Tryz.func216 rfl weakSub ?_;refine hK _ _ ?_;refine ⟨rfl,int_eq ?_⟩
        first
         |(rw [plankS,if_pos (by omega)];done)
         |(rw [plankS,if_neg (by omega),ptsS,if_pos (by omega)];done)
         |(rw [plankS,if_neg (by omega),ptsS,if_neg (by omega),scanS_all (fun i hi=>hall i (by omega))];done)
         |(rw [plankS,if_neg (by omega),ptsS,if_neg (by omega),scanS_at (k:=j) hall (by unfold ptS;first|(rw [if_pos (by omega)];decide)|(rw [if_neg (by omega),if_pos (by omega)];decide)|(rw [if_neg (by omega),if_neg (by omega),if_pos (by omega)];decide)) (by omega)];unfold ptS;first|(rw [if_pos (by omega)];done)|(rw [if_neg (by omega),if_pos (by omega)];done)|(rw [if_neg (by omega),if_neg (by omega),if_pos (by omega)];done)|(rw [if_neg (by omega),if_neg (by omega),if_neg (by omega)];done))
       ·refine k_pickF rfl zq ?_;refine aq rfl ?_;refine d143 ?_;refine d91 ?_;exact m.weak weakSub (hnext _ _ _ (by omega) ⟨j+1,rfl,by omega,fun i hi=>by
         rcases Nat.lt_or_ge i j with h3|h3
         ·exact hall i h3
         ·obtain rfl:i=j:=by omega
          unfold ptS
          first|(rw [if_pos (by omega)];done)|(rw [if_neg (by omega),if_pos (by omega)];done)|(rw [if_neg (by omega),if_neg (by omega),if_pos (by omega)];done)|(rw [if_neg (by omega),if_neg (by omega),if_neg (by omega)];done),exU rfl,rfl⟩)
      ·refine d41 ?_;refine d115 ?_;refine k_pickT rfl zq ?_;refine d146 ?_
       refine run_res (h) rfl Tryz.func216 rfl weakSub ?_;refine hK _ _ ?_;refine ⟨rfl,int_eq ?_⟩
       first
        |(rw [plankS,if_pos (by omega)];done)
        |(rw [plankS,if_neg (by omega),ptsS,if_pos (by omega)];done)
        |(rw [plankS,if_neg (by omega),ptsS,if_neg (by omega),scanS_all (fun i hi=>hall i (by omega))];done)
        |(rw [plankS,if_neg (by omega),ptsS,if_neg (by omega),scanS_at (k:=j) hall (by unfold ptS;first|(rw [if_pos (by omega)];decide)|(rw [if_neg (by omega),if_pos (by omega)];decide)|(rw [if_neg (by omega),if_neg (by omega),if_pos (by omega)];decide)) (by omega)];unfold ptS;first|(rw [if_pos (by omega)];done)|(rw [if_neg (by omega),if_pos (by omega)];done)|(rw [if_neg (by omega),if_neg (by omega),if_pos (by omega)];done)|(rw [if_neg (by omega),if_neg (by omega),if_neg (by omega)];done))
    ·refine d41 ?_;refine d146 ?_
     refine run_res (h) rfl Tryz.func216 rfl weakSub ?_;refine hK _ _ ?_;refine ⟨rfl,int_eq ?_⟩
     first
      |(rw [plankS,if_pos (by omega)];done)
      |(rw [plankS,if_neg (by omega),ptsS,if_pos (by omega)];done)
      |(rw [plankS,if_neg (by omega),ptsS,if_neg (by omega),scanS_all (fun i hi=>hall i (by omega))];done)
      |(rw [plankS,if_neg (by omega),ptsS,if_neg (by omega),scanS_at (k:=j) hall (by unfold ptS;first|(rw [if_pos (by omega)];decide)|(rw [if_neg (by omega),if_pos (by omega)];decide)|(rw [if_neg (by omega),if_neg (by omega),if_pos (by omega)];decide)) (by omega)];unfold ptS;first|(rw [if_pos (by omega)];done)|(rw [if_neg (by omega),if_pos (by omega)];done)|(rw [if_neg (by omega),if_neg (by omega),if_pos (by omega)];done)|(rw [if_neg (by omega),if_neg (by omega),if_neg (by omega)];done))
   ·refine d105 ?_;refine d37 ?_
    refine run_res (h) rfl Tryz.func216 rfl weakSub ?_;refine hK _ _ ?_;refine ⟨rfl,int_eq ?_⟩
    first
     |(rw [plankS,if_pos (by omega)];done)
     |(rw [plankS,if_neg (by omega),ptsS,if_pos (by omega)];done)
     |(rw [plankS,if_neg (by omega),ptsS,if_neg (by omega),scanS_all (fun i hi=>hall i (by omega))];done)
     |(rw [plankS,if_neg (by omega),ptsS,if_neg (by omega),scanS_at (k:=j) hall (by unfold ptS;first|(rw [if_pos (by omega)];decide)|(rw [if_neg (by omega),if_pos (by omega)];decide)|(rw [if_neg (by omega),if_neg (by omega),if_pos (by omega)];decide)) (by omega)];unfold ptS;first|(rw [if_pos (by omega)];done)|(rw [if_neg (by omega),if_pos (by omega)];done)|(rw [if_neg (by omega),if_neg (by omega),if_pos (by omega)];done)|(rw [if_neg (by omega),if_neg (by omega),if_neg (by omega)];done))
  ·refine d41 ?_;refine d146 ?_
   refine run_res (h) rfl Tryz.func216 rfl weakSub ?_;refine hK _ _ ?_;refine ⟨rfl,int_eq ?_⟩
   first
    |(rw [plankS,if_pos (by omega)];done)
    |(rw [plankS,if_neg (by omega),ptsS,if_pos (by omega)];done)
    |(rw [plankS,if_neg (by omega),ptsS,if_neg (by omega),scanS_all (fun i hi=>hall i (by omega))];done)
    |(rw [plankS,if_neg (by omega),ptsS,if_neg (by omega),scanS_at (k:=j) hall (by unfold ptS;first|(rw [if_pos (by omega)];decide)|(rw [if_neg (by omega),if_pos (by omega)];decide)|(rw [if_neg (by omega),if_neg (by omega),if_pos (by omega)];decide)) (by omega)];unfold ptS;first|(rw [if_pos (by omega)];done)|(rw [if_neg (by omega),if_pos (by omega)];done)|(rw [if_neg (by omega),if_neg (by omega),if_pos (by omega)];done)|(rw [if_neg (by omega),if_neg (by omega),if_neg (by omega)];done))
 ·refine d41 ?_;refine d146 ?_
  refine run_res (h) rfl Tryz.func216 rfl weakSub ?_;refine hK _ _ ?_;refine ⟨rfl,int_eq ?_⟩
  first
   |(rw [plankS,if_pos (by omega)];done)
   |(rw [plankS,if_neg (by omega),ptsS,if_pos (by omega)];done)
   |(rw [plankS,if_neg (by omega),ptsS,if_neg (by omega),scanS_all (fun i hi=>hall i (by omega))];done)
   |(rw [plankS,if_neg (by omega),ptsS,if_neg (by omega),scanS_at (k:=j) hall (by unfold ptS;first|(rw [if_pos (by omega)];decide)|(rw [if_neg (by omega),if_pos (by omega)];decide)|(rw [if_neg (by omega),if_neg (by omega),if_pos (by omega)];decide)) (by omega)];unfold ptS;first|(rw [if_pos (by omega)];done)|(rw [if_neg (by omega),if_pos (by omega)];done)|(rw [if_neg (by omega),if_neg (by omega),if_pos (by omega)];done)|(rw [if_neg (by omega),if_neg (by omega),if_neg (by omega)];done))
theorem fbS_p {b:Fb} (h: ¬(0≤b.plank∧b.plank≤20)):fbS b=1:=by
 have:plankS b=1:=by rw [plankS,if_pos h]
 rw [fbS,this];rfl
theorem fbS_q {b:Fb} {r:Int} (h:plankS b=r) (h0:r≠0):fbS b=r:=by rw [fbS,h,if_pos h0]
theorem fbS_r {b:Fb} {r:Int} (h:plankS b=0) (h1:tapesS b=r) (h0:r≠0):fbS b=r:=by rw [fbS,h,if_neg (by simp),h1,if_pos h0]
theorem fbS_s {b:Fb} (h:plankS b=0) (h1:tapesS b=0):fbS b=sticksS b:=by rw [fbS,h,if_neg (by simp),h1,if_neg (by simp)]
theorem plank_pts {b:Fb} (h:0≤b.plank∧b.plank≤20):plankS b=ptsS b.pts:=by rw [plankS,if_neg (fun e=>e h)]
theorem plank_zero {b:Fb} (h:plankS b=0):PtsOk b.pts:=by
 unfold plankS at h
 split at h
 ·omega
 ·exact ptsS_zero h
theorem f17_c (m:Md Tryz.prog B) (h:Hp) (rdp:Rp B h b pp np cp) (hp:np≤1000) (rdt:Rt B h b pt nt ct) (ht:nt≤1000) (rdk:Rk B h b pk nk ck) (hk:nk≤1000):FnC m 17 #[fbV b pp np cp pt nt ct pk nk ck] h fun v h'=>h'=h∧v= .int .i64 (fbS b):=by
 have hml:=rdp.elen (by decide)
 refine fn_enter Tryz.func17 rfl rfl (l:=(fbV b pp np cp pt nt ct pk nk ck)::uu21) rfl ?_
 intro cf cs K hK
 refine rs2 ?_;refine k_box rfl zq (fun q1=>k_hp (k_put ?_));refine d12 ?_;refine rs4 ?_;refine d2 ?_
 refine k_calP (Post:=fun v=>IsB _ v) rfl zq (by kernel_rfl) (fun H' hH=>f50_c m H' _ _ _) ?_;rintro v (⟨hc,rfl⟩|⟨hc,rfl⟩)
 ·refine d40 ?_;refine d38 ?_;refine rs4 ?_;refine d2 ?_
  refine k_calP (Post:=fun v=>v=_) rfl zq (by kernel_rfl) (fun H' hH=>f57_c m H' (b:=b) (pt:=pt) (nt:=nt) (ct:=ct) (pk:=pk) (nk:=nk) (ck:=ck) (rdp.keeps (sq hH)) hp) ?_;rintro v rfl;refine d138 ?_
  refine k_neqS rfl zq (fun hc=>?_) (fun hc=>?_)
  ·refine d7 ?_;refine d95 ?_
   refine run_res (h) rfl Tryz.func17 rfl weakSub ?_;refine hK _ _ ?_;refine ⟨rfl,int_eq ?_⟩
   first
    |exact fbS_p (by omega)
    |exact fbS_q (plank_pts (by omega)) (by omega)
    |exact fbS_r (by rw [plank_pts (by omega)];omega) rfl (by omega)
    |exact fbS_s hz (by omega)
  ·refine d38 ?_;refine d96 ?_
   refine k_calP (Post:=fun v=>v=_) rfl zq (by kernel_rfl) (fun H' hH=>f58_c m H' (rdp.keeps (sq hH)) hp (rdt.keeps (sq hH)) ht) ?_;rintro v rfl;refine d138 ?_
   refine k_neqS rfl zq (fun hc=>?_) (fun hc=>?_)
   ·refine d7 ?_;refine d95 ?_
    refine run_res (h) rfl Tryz.func17 rfl weakSub ?_;refine hK _ _ ?_;refine ⟨rfl,int_eq ?_⟩
    first
     |exact fbS_p (by omega)
     |exact fbS_q (plank_pts (by omega)) (by omega)
     |exact fbS_r (by rw [plank_pts (by omega)];omega) rfl (by omega)
     |exact fbS_s hz (by omega)
   ·refine d13 ?_;refine d96 ?_
    have hz:plankS b=0:=by rw [plank_pts (by omega)];omega
    have h1:=(plank_zero hz).two
    refine k_calP (Post:=fun v=>v=_) rfl zq (by kernel_rfl) (fun H' hH=>f59_c m H' (rdp.keeps (sq hH)) hp (rdk.keeps (sq hH)) hk (by omega)) ?_;rintro v rfl;refine d111 ?_
    refine run_res (h) rfl Tryz.func17 rfl weakSub ?_;refine hK _ _ ?_;refine ⟨rfl,int_eq ?_⟩
    first
     |exact fbS_p (by omega)
     |exact fbS_q (plank_pts (by omega)) (by omega)
     |exact fbS_r (by rw [plank_pts (by omega)];omega) rfl (by omega)
     |exact fbS_s hz (by omega)
 ·refine d41 ?_;refine d58 ?_
  refine run_res (h) rfl Tryz.func17 rfl weakSub ?_;refine hK _ _ ?_;refine ⟨rfl,int_eq ?_⟩
  first
   |exact fbS_p (by omega)
   |exact fbS_q (plank_pts (by omega)) (by omega)
   |exact fbS_r (by rw [plank_pts (by omega)];omega) rfl (by omega)
   |exact fbS_s hz (by omega)
class LaidF (B:Array Obj):Prop where
 eq: ∃t f,B[0]?=some (.cells [.func (.func 216) #[] #[],.func (.func 217) #[] #[],.func (.func 218) #[] #[]].toArray t f)
variable [LaidF B]
theorem laidF_rdN {h:Hp} [x:LaidF B]:RdN B h 0 0 [.func (.func 216) #[] #[],.func (.func 217) #[] #[],.func (.func 218) #[] #[]]:=fun j hj=>by
 obtain ⟨t,f,e⟩:=x.eq
 refine Rd.base rfl e ?_
 rw [Nat.zero_add,List.getElem?_toArray,List.getD_eq_getElem?_getD,List.getElem?_eq_getElem hj];rfl
def chkF (b:Fb) (k:Nat):Int:=if k=0 then plankS b else if k=1 then tapesS b else sticksS b
theorem chkF_book {b:Fb} {k:Nat} (hk:k<3) (h: ∀i,i<k→chkF b i=0) (hs:chkF b k≠0):fbS b=chkF b k:=by
 rcases (by omega:k=0∨k=1∨k=2) with rfl|rfl|rfl
 ·exact fbS_q rfl hs
 ·exact fbS_r (h 0 (by omega)) rfl hs
 ·exact fbS_s (h 0 (by omega)) (h 1 (by omega))
theorem chkF_clear {b:Fb} (h: ∀i,i<3→chkF b i=0):fbS b=0:=by
 rw [fbS_s (h 0 (by omega)) (h 1 (by omega))];exact h 2 (by omega)
theorem chkF_get (k:Nat) (hk:k<3):([Value.func (.func 216) #[] #[],.func (.func 217) #[] #[],.func (.func 218) #[] #[]].toArray)[(k:Int).toNat*1]?=some (.func (.func (216+k)) #[] #[]):=by
 rcases (by omega:k=0∨k=1∨k=2) with rfl|rfl|rfl<;>rfl
theorem chkF_call (k:Nat) (hk:k<3):callB Tryz.prog (216+k)=true:=by
 rcases (by omega:k=0∨k=1∨k=2) with rfl|rfl|rfl<;>kernel_rfl
theorem chkF_c (m:Md Tryz.prog B) (h:Hp) (rdp:Rp B h b pp np cp) (hp:np≤1000) (rdt:Rt B h b pt nt ct) (ht:nt≤1000) (rdk:Rk B h b pk nk ck) (hk:nk≤1000) (k:Nat) (hk3:k<3) (h0: ∀i,i<k→chkF b i=0):FnC m (216+k) #[fbV b pp np cp pt nt ct pk nk ck] h fun v h'=>h'=h∧v= .int .i64 (chkF b k):=by
 rcases (by omega:k=0∨k=1∨k=2) with rfl|rfl|rfl
 ·exact f216_c m h rdp hp
 ·exact f217_c m h rdp hp rdt ht
 ·exact f218_c m h rdp hp rdk hk (by have:=(plank_zero (h0 0 (by omega))).two;have:=rdp.elen (by decide);omega)
theorem f54_c (m:Md Tryz.prog B) (h:Hp) (rdp:Rp B h b pp np cp) (hp:np≤1000) (rdt:Rt B h b pt nt ct) (ht:nt≤1000) (rdk:Rk B h b pk nk ck) (hk:nk≤1000):FnC m 54 #[fbV b pp np cp pt nt ct pk nk ck] h fun v h'=>h'=h∧v= .int .i64 (fbS b):=by
 refine fn_enter Tryz.func54 rfl rfl (l:=(fbV b pp np cp pt nt ct pk nk ck)::uu17) rfl ?_
 intro cf cs K hK
 refine rs2 ?_;refine k_box rfl zq (fun q1=>k_hp (k_put ?_));refine d12 ?_;refine rs2 ?_
 refine k_ldN (vs:=[.func (.func 216) #[] #[],.func (.func 217) #[] #[],.func (.func 218) #[] #[]]) rfl zq rfl laidF_rdN ?_;refine mq rfl ?_;refine d61 ?_
 refine run_loop (fun nn l h'=> ∃(k:Nat),nn=3-k∧(k≤3)∧(∀i,i<k→chkF b i=0)∧(∃U:Nat→Value,l=[fbV b pp np cp pt nt ct pk nk ck,.pointer (some ⟨q1,0,none⟩),U 2,U 3,U 4,U 5,.agg [.func (.func 216) #[] #[],.func (.func 217) #[] #[],.func (.func 218) #[] #[]].toArray,.int .i64 (k:Int),U 8,U 9,U 10,U 11,U 12,U 13,U 14,U 15,U 16,U 17])∧h++[⟨true,q1,.cells (fbL b pp np cp pt nt ct pk nk ck).toArray 26 (0,0)⟩]=h') _ ⟨0,rfl,by omega,fun i hi=>by omega,exU rfl,rfl⟩ ?_;rintro nn l h' ⟨k,rfl,hk3,he,⟨U,rfl⟩,rfl⟩ hnext;refine rs1 ?_;refine k_lssS rfl zq (fun hc=>?_) (fun hc=>?_)
 ·refine d104 ?_;refine rs2 ?_
  refine k_ixv rfl zq (by omega) (by omega) (chkF_get k (by omega)) ?_;refine aq rfl ?_;refine d140 ?_;refine d133 ?_
  refine k_valP (Post:=fun v=>v=_) rfl zq (chkF_call k (by omega)) (fun H' hH=>chkF_c m H' (rdp.keeps (sq hH)) hp (rdt.keeps (sq hH)) ht (rdk.keeps (sq hH)) hk k (by omega) he) ?_;rintro v rfl;refine d138 ?_
  refine k_neqS rfl zq (fun hc=>?_) (fun hc=>?_)
  ·refine d7 ?_;refine d95 ?_
   refine run_res (h) rfl Tryz.func54 rfl weakSub ?_;refine hK _ _ ?_;refine ⟨rfl,int_eq ?_⟩
   first
    |exact chkF_book (by omega) he (by assumption)
    |exact chkF_clear (fun i hi=>he i (by omega))
  ·refine d13 ?_;refine d91 ?_
   exact m.weak weakSub (hnext _ _ _ (by omega) ⟨k+1,rfl,by omega,all_next he (by first|assumption|omega),exU rfl,rfl⟩)
 ·refine d105 ?_;refine d37 ?_
  refine run_res (h) rfl Tryz.func54 rfl weakSub ?_;refine hK _ _ ?_;refine ⟨rfl,int_eq ?_⟩
  first
   |exact chkF_book (by omega) he (by assumption)
   |exact chkF_clear (fun i hi=>he i (by omega))
theorem f102_c (m:Md Tryz.prog B) (h:Hp) (x:Int):FnC m 102 #[.int .i64 x] h fun v h'=>h'=h∧IsB (¬(0≤x∧x≤959)) v:=by
 refine fn_enter Tryz.func102 rfl rfl (l:=[.int .i64 x,undef,undef,undef,undef,undef]) rfl ?_
 intro cf cs K hK
 refine d83 ?_;refine d118 ?_
 refine k_calP (Post:=fun v=>IsB _ v) rfl zq (by kernel_rfl) (fun H' hH=>f68_c m H' _ _ _) ?_;rintro v (⟨hc,rfl⟩|⟨hc,rfl⟩)
 ·refine d40 ?_;refine d0 ?_
  refine run_res (h) rfl Tryz.func102 rfl weakSub ?_;refine hK _ _ ?_;first|exact ⟨rfl,IsB.yes (by omega)⟩|exact ⟨rfl,IsB.no (by omega)⟩
 ·refine d41 ?_;refine d0 ?_
  refine run_res (h) rfl Tryz.func102 rfl weakSub ?_;refine hK _ _ ?_;first|exact ⟨rfl,IsB.yes (by omega)⟩|exact ⟨rfl,IsB.no (by omega)⟩
theorem f103_c (m:Md Tryz.prog B) (h:Hp) {p:Option Addr} {n c:Nat} {xs:List Int} (rd:RdS B h 1 (.slice p n c) n (ints xs)) (hn:n≤1000):FnC m 103 #[.slice p n c] h fun v h'=>h'=h∧v=rwV xs:=by
 refine fn_enter Tryz.func103 rfl rfl (l:=(.slice p n c)::uu7) rfl ?_
 intro cf cs K hK
 refine rs1 ?_;refine k_new rfl zq (fun q2=>k_hp (k_put ?_));refine k_nil ?_;refine rs1 ?_;refine k_new rfl zq (fun q3=>k_hp (k_put ?_));refine k_nil ?_;refine rs3 ?_;refine k_slAA rfl zq ?_;refine mq rfl ?_;refine k_copy (rws xs) rfl zq rd.up (ints_one _) (by decide) (by rw [rws_copy xs rd.ilen,rws_nil]) (k_put ?_);refine k_nil ?_;refine d114 ?_;refine k_stA rfl zq (by first|rfl|exact rws_length _) ?_;refine k_nil ?_;refine run_ret rfl ?_;refine run_res (h) rfl Tryz.func103 rfl weakSub ?_;refine hK _ _ ?_;exact ⟨rfl,rfl⟩
def HandF (s:Int) (bv:Value) (xs:List Int) (v:Value):Prop:= ∃(x:Int) (p1:Option Addr) (n1 c1:Nat) (p2:Option Addr) (n2 c2:Nat) (p3:Option Addr) (n3 c3:Nat) (yl:List Int),v= .tuple [.agg [.int .i64 x,.slice p1 n1 c1,.slice p2 n2 c2,.slice p3 n3 c3].toArray,rwV yl,.int .i64 s].toArray∧(s=0→bv= .agg [.int .i64 x,.slice p1 n1 c1,.slice p2 n2 c2,.slice p3 n3 c3].toArray∧xs=yl)
theorem handF_no {s:Int} {bv:Value} {xs:List Int} (h:s≠0):HandF s bv xs (.tuple [.agg [.int .i64 0,.slice none 0 0,.slice none 0 0,.slice none 0 0].toArray,.agg [.int .i64 0,.int .i64 0,.int .i64 0,.int .i64 0,.int .i64 0].toArray,.int .i64 s].toArray):=
 ⟨0,none,0,0,none,0,0,none,0,0,[],by rw [rwV,rws_nil],fun e=>absurd e h⟩
theorem f44_c (m:Md Tryz.prog B) (h:Hp) (rdp:Rp B h b pp np cp) (hp:np≤1000) (rdt:Rt B h b pt nt ct) (ht:nt≤1000) (rdk:Rk B h b pk nk ck) (hk:nk≤1000) {p:Option Addr} {n c:Nat} {xs:List Int} (rd:RdS B h 1 (.slice p n c) n (ints xs)) (hn:n≤1000):FnC m 44 #[fbV b pp np cp pt nt ct pk nk ck,.slice p n c] h fun v h'=>h'=h∧HandF (fhandS b xs) (fbV b pp np cp pt nt ct pk nk ck) xs v:=by
 have hml:=rdp.elen (by decide)
 have hl:=rd.ilen
 refine fn_enter Tryz.func44 rfl rfl (l:=(fbV b pp np cp pt nt ct pk nk ck)::(.slice p n c)::uu31) rfl ?_
 intro cf cs K hK
 refine rs4 ?_;refine k_box rfl zq (fun q2=>k_hp (k_put ?_));refine k_new rfl zq (fun q4=>k_hp (k_put ?_));refine k_new rfl zq (fun q5=>k_hp (k_put ?_));refine d12 ?_;refine d96 ?_
 refine k_calP (Post:=fun v=>v=_) rfl zq (by kernel_rfl) (fun H' hH=>f54_c m H' (rdp.keeps (sq hH)) hp (rdt.keeps (sq hH)) ht (rdk.keeps (sq hH)) hk) ?_;rintro v rfl;refine d138 ?_
 refine k_neqS rfl zq (fun hc=>?_) (fun hc=>?_)
 ·refine d7 ?_;refine rs6 ?_;refine k_bld rfl zq ?_;refine k_bldZ rfl zq ?_;refine mq rfl ?_;refine k_stA rfl zq rfl ?_
  refine k_stA rfl zq (by first|rfl|exact rws_length _) ?_;refine d0 ?_
  refine run_res (h) rfl Tryz.func44 rfl weakSub ?_;refine hK _ _ ?_;have e:fhandS b xs=fbS b:=by rw [fhandS,if_pos (by assumption)]
  exact ⟨rfl,by rw [e];exact handF_no (by assumption)⟩
 ·refine d13 ?_;refine d32 ?_;refine rs7 ?_;refine mq rfl ?_;refine k_len rfl zq ?_;refine d106 ?_
  refine k_neqS rfl zq (fun hc=>?_) (fun hc=>?_)
  ·refine d56 ?_;refine rs5 ?_;refine k_bld rfl zq ?_;refine k_bldZ rfl zq ?_;refine k_stA rfl zq rfl ?_
   refine k_stA rfl zq (by first|rfl|exact rws_length _) ?_;refine d0 ?_
   refine run_res (h) rfl Tryz.func44 rfl weakSub ?_;refine hK _ _ ?_;have e:fhandS b xs=2:=by rw [fhandS,if_neg (by omega),brS,if_pos (by omega)]
   exact ⟨rfl,by rw [e];exact handF_no (by decide)⟩
  ·refine d90 ?_;refine d44 ?_
   refine k_calP (Post:=fun v=>IsB _ v) rfl zq (by kernel_rfl) (fun H' hH=>f101_c m H' (pr:=fun i=> ¬(0≤xs.getD i 0∧xs.getD i 0≤959)) (rd.keeps (sq hH)) (by omega) (by kernel_rfl) (fun i hi K hK=>f102_c m K _)) ?_;rintro v (⟨hc,rfl⟩|⟨hc,rfl⟩)
   ·refine k_put ?_;refine d56 ?_;refine rs5 ?_;refine k_bld rfl zq ?_;refine k_bldZ rfl zq ?_;refine k_stA rfl zq rfl ?_;refine k_stA rfl zq (by first|rfl|exact rws_length _) ?_;refine d0 ?_
    refine run_res (h) rfl Tryz.func44 rfl weakSub ?_;refine hK _ _ ?_;have e:fhandS b xs=1:=by rw [fhandS,if_neg (by omega),brS,if_neg (by omega),if_pos (by rw [hl];assumption)]
    exact ⟨rfl,by rw [e];exact handF_no (by decide)⟩
   ·refine d66 ?_;refine d143 ?_;refine run_seq ?_
    refine run_draw [(2,.pure),(0,.read),(1,.pure),(3,.keep),(4,.free),(5,.free),(6,.pure)] (by kernel_rfl) (by kernel_rfl) (List.Sublist.refl _) ?_;refine mq rfl ?_;refine d133 ?_
    refine k_calP (Post:=fun v=>v=_) rfl zq (by kernel_rfl) (fun H' hH=>f103_c m H' (rd.keeps (sq hH)) hn) ?_;rintro v rfl;refine k_put ?_;refine k_stA rfl zq rfl ?_;refine k_stA rfl zq (by first|rfl|exact rws_length _) ?_;refine d0 ?_
    refine run_res (h) rfl Tryz.func44 rfl weakSub ?_;refine hK _ _ ?_;have e:fhandS b xs=0:=by rw [fhandS,if_neg (by omega),brS,if_neg (by omega),if_neg (by rw [hl];assumption)]
    exact ⟨rfl,_,_,_,_,_,_,_,_,_,_,xs,by rw [e],fun _=>⟨rfl,rfl⟩⟩
end Go.Proofs
namespace Go.Proofs
open Go.Lo
open Go.Conc (G)
set_option maxRecDepth 100000
set_option synthInstance.maxSize 100000
set_option synthInstance.maxHeartbeats 1000000
set_option maxHeartbeats 4000000
variable {b:Fb} {pp:Option Addr} {np cp:Nat} {pt:Option Addr} {nt ct:Nat} {pk:Option Addr} {nk ck:Nat}
variable {B:Array Obj}
variable [LaidF B]
theorem f26_c (m:Md Tryz.prog B) (h:Hp) (x:Int):FnC m 26 #[.int .i64 x] h fun v h'=>h'=h∧v= .tuple [.int .i64 (if 0≤x∧x≤999999 then rootI x else 0),.int .i64 (if 0≤x∧x≤999999 then 0 else 1)].toArray:=by
 refine fn_enter Tryz.func26 rfl rfl (l:=(.int .i64 x)::uu8) rfl ?_
 intro cf cs K hK
 refine rs2 ?_;refine d99 ?_;refine d44 ?_;refine k_calP (Post:=fun v=>IsB _ v) rfl zq (by kernel_rfl) (fun H' hH=>f68_c m H' _ _ _) ?_;rintro v (⟨hc,rfl⟩|⟨hc,rfl⟩)
 ·refine d40 ?_;refine d13 ?_;refine rs4 ?_
  obtain ⟨k,rfl⟩: ∃k:Nat,x=k:=Int.eq_ofNat_of_zero_le (by omega)
  refine mq rfl ?_
  refine k_calP (Post:=fun v=>v=_) rfl zq (by kernel_rfl) (fun H' hH=>f69_c m H' k (by omega)) ?_;rintro v rfl;refine k_put ?_;refine d27 ?_;refine run_res (h) rfl Tryz.func26 rfl weakSub ?_;refine hK _ _ ?_;refine ⟨rfl,?_⟩
  first|(rw [if_pos (by omega),if_pos (by omega)];done)|(rw [if_neg (by omega),if_neg (by omega)];done)
 ·refine d41 ?_;refine d7 ?_;refine d147 ?_
  refine run_res (h) rfl Tryz.func26 rfl weakSub ?_;refine hK _ _ ?_;refine ⟨rfl,?_⟩
  first|(rw [if_pos (by omega),if_pos (by omega)];done)|(rw [if_neg (by omega),if_neg (by omega)];done)
def atS (b:Fb) (xs:List Int) (x:Int):Int:=if fhandS b xs≠0 then fhandS b xs else if (b.pts.getD 0 default).h≤x∧x≤(b.pts.getD (b.pts.length-1) default).h then 0 else 1
theorem atS_h {b:Fb} {xs:List Int} {x:Int} (h:fhandS b xs≠0):atS b xs x=fhandS b xs:=by rw [atS,if_pos h]
theorem atS_1 {b:Fb} {xs:List Int} {x:Int} (h:fhandS b xs=0) (h2: ¬((b.pts.getD 0 default).h≤x∧x≤(b.pts.getD (b.pts.length-1) default).h)):atS b xs x=1:=by rw [atS,if_neg (fun e=>e h),if_neg h2]
theorem atS_0 {b:Fb} {xs:List Int} {x:Int} (h:fhandS b xs=0) (h2:(b.pts.getD 0 default).h≤x∧x≤(b.pts.getD (b.pts.length-1) default).h):atS b xs x=0:=by rw [atS,if_neg (fun e=>e h),if_pos h2]
def orNo (s v:Int):Value:= .tuple [.int .i64 (if s≠0 then 0 else v),.int .i64 s].toArray
theorem orNo_no {s v:Int} (h:s≠0):orNo s v= .tuple [.int .i64 0,.int .i64 s].toArray:=by rw [orNo,if_pos h]
theorem orNo_yes {s v:Int} (h:s=0):orNo s v= .tuple [.int .i64 v,.int .i64 0].toArray:=by rw [orNo,if_neg (fun e=>e h),h]
def girthS (b:Fb) (xs:List Int) (f t:Int):Int:=if fhandS b xs≠0 then fhandS b xs else ordS b.pts.length f t
theorem girthS_h {b:Fb} {xs:List Int} {f t:Int} (h:fhandS b xs≠0):girthS b xs f t=fhandS b xs:=by rw [girthS,if_pos h]
theorem girthS_o {b:Fb} {xs:List Int} {f t:Int} (h:fhandS b xs=0):girthS b xs f t=ordS b.pts.length f t:=by rw [girthS,if_neg (fun e=>e h)]
theorem f8_c (m:Md Tryz.prog B) (h:Hp) (rdp:Rp B h b pp np cp) (hp:np≤1000) (rdt:Rt B h b pt nt ct) (ht:nt≤1000) (rdk:Rk B h b pk nk ck) (hk:nk≤1000) {p:Option Addr} {n c:Nat} {xs:List Int} (rd:RdS B h 1 (.slice p n c) n (ints xs)) (hn:n≤1000) (x:Int):FnC m 8 #[fbV b pp np cp pt nt ct pk nk ck,.slice p n c,.int .i64 x] h fun v h'=>h'=h∧v=orNo (atS b xs x) (atI b.pts xs x):=by
 have hml:=rdp.elen (by decide)
 have hl:=rd.ilen
 refine fn_enter Tryz.func8 rfl rfl (l:=(fbV b pp np cp pt nt ct pk nk ck)::(.slice p n c)::(.int .i64 x)::uu26) rfl ?_
 intro cf cs K hK
 refine rs3 ?_;refine k_box rfl zq (fun q3=>k_hp (k_put ?_));refine d47 ?_;refine rs12 ?_;refine d71 ?_
 refine k_calP (Post:=HandF (fhandS b xs) (fbV b pp np cp pt nt ct pk nk ck) xs) rfl zq (by kernel_rfl) (fun H' hH=>f44_c m H' (rdp.keeps (sq hH)) hp (rdt.keeps (sq hH)) ht (rdk.keeps (sq hH)) hk (rd.keeps (sq hH)) hn) ?_;rintro v ⟨x1,p1,n1,c1,p2,n2,c2,p3,n3,c3,yl,rfl,hz⟩;refine d78 ?_;refine k_ext2 rfl zq ?_
 refine k_new rfl zq (fun q8=>k_hp (k_put ?_));refine k_new rfl zq (fun q9=>k_hp (k_put ?_));refine k_stA rfl zq rfl ?_;refine k_stA rfl zq (by first|rfl|exact rws_length _) ?_;refine d88 ?_
 refine k_neqS rfl zq (fun hc=>?_) (fun hc=>?_)
 ·refine d134 ?_
  refine run_res (h) rfl Tryz.func8 rfl weakSub ?_;refine hK _ _ ?_;exact ⟨rfl,by rw [atS_h (by assumption),orNo_no (by assumption)]⟩
 ·refine d38 ?_;refine rs4 ?_
  have hz0:fhandS b xs=0:=by omega
  obtain ⟨hz1,rfl⟩:=hz hz0
  injection hz1 with hz1
  injection hz1 with hz1
  injection hz1 with z1 hz1
  injection hz1 with z2 hz1
  injection hz1 with z3 hz1
  injection hz1 with z4 hz1
  injection z1 with _ z1
  injection z2 with u1 u2 u3
  injection z3 with u4 u5 u6
  injection z4 with u7 u8 u9
  subst z1 u1 u2 u3 u4 u5 u6 u7 u8 u9
  obtain ⟨hzb,hzl⟩:=fhandS_zero hz0
  have hv:=fbS_zero hzb
  obtain ⟨hln,hs⟩:=brS_zero hzl
  have hpo:=hv.pts
  have h1:=hpo.two
  have h5:=hpo.five
  refine d71 ?_
  refine k_calP (Post:=fun v=>IsB _ v) rfl zq (by kernel_rfl) (fun H' hH=>f45_c m H' _ (rdp.keeps (sq hH)) hp (by omega)) ?_;rintro v (⟨hc,rfl⟩|⟨hc,rfl⟩)
  ·refine d40 ?_;refine d13 ?_;refine rs6 ?_;refine k_ldA rfl zq ?_;refine d71 ?_
   refine k_calP (Post:=fun v=>v=_) rfl zq (by kernel_rfl) (fun H' hH=>f46_c m H' (rdp.keeps (sq hH)) hp (by omega) hpo hs _ (by assumption)) ?_;rintro v rfl;refine k_put ?_;refine d27 ?_;refine run_res (h) rfl Tryz.func8 rfl weakSub ?_;refine hK _ _ ?_;first|exact ⟨rfl,by rw [atS_1 hz0 (by rw [hml];assumption),orNo_no (by decide)]⟩|exact ⟨rfl,by rw [atS_0 hz0 (by rw [hml];assumption),orNo_yes rfl]⟩
  ·refine d41 ?_;refine d7 ?_;refine d147 ?_
   refine run_res (h) rfl Tryz.func8 rfl weakSub ?_;refine hK _ _ ?_;first|exact ⟨rfl,by rw [atS_1 hz0 (by rw [hml];assumption),orNo_no (by decide)]⟩|exact ⟨rfl,by rw [atS_0 hz0 (by rw [hml];assumption),orNo_yes rfl]⟩
theorem f28_c (m:Md Tryz.prog B) (h:Hp) (rdp:Rp B h b pp np cp) (hp:np≤1000) (rdt:Rt B h b pt nt ct) (ht:nt≤1000) (rdk:Rk B h b pk nk ck) (hk:nk≤1000) {p:Option Addr} {n c:Nat} {xs:List Int} (rd:RdS B h 1 (.slice p n c) n (ints xs)) (hn:n≤1000):FnC m 28 #[fbV b pp np cp pt nt ct pk nk ck,.slice p n c] h fun v h'=>h'=h∧v=orNo (fhandS b xs) (areaI b.pts xs):=by
 have hml:=rdp.elen (by decide)
 have hl:=rd.ilen
 refine fn_enter Tryz.func28 rfl rfl (l:=(fbV b pp np cp pt nt ct pk nk ck)::(.slice p n c)::uu20) rfl ?_
 intro cf cs K hK
 refine rs3 ?_;refine k_box rfl zq (fun q2=>k_hp (k_put ?_));refine d47 ?_;refine rs12 ?_;refine d71 ?_
 refine k_calP (Post:=HandF (fhandS b xs) (fbV b pp np cp pt nt ct pk nk ck) xs) rfl zq (by kernel_rfl) (fun H' hH=>f44_c m H' (rdp.keeps (sq hH)) hp (rdt.keeps (sq hH)) ht (rdk.keeps (sq hH)) hk (rd.keeps (sq hH)) hn) ?_;rintro v ⟨x1,p1,n1,c1,p2,n2,c2,p3,n3,c3,yl,rfl,hz⟩;refine d78 ?_;refine k_ext2 rfl zq ?_
 refine k_new rfl zq (fun q6=>k_hp (k_put ?_));refine k_new rfl zq (fun q7=>k_hp (k_put ?_));refine k_stA rfl zq rfl ?_;refine k_stA rfl zq (by first|rfl|exact rws_length _) ?_;refine d88 ?_
 refine k_neqS rfl zq (fun hc=>?_) (fun hc=>?_)
 ·refine d134 ?_
  refine run_res (h) rfl Tryz.func28 rfl weakSub ?_;refine hK _ _ ?_;exact ⟨rfl,by rw [orNo_no (by assumption)]⟩
 ·refine d13 ?_;refine rs5 ?_
  have hz0:fhandS b xs=0:=by omega
  obtain ⟨hz1,rfl⟩:=hz hz0
  injection hz1 with hz1
  injection hz1 with hz1
  injection hz1 with z1 hz1
  injection hz1 with z2 hz1
  injection hz1 with z3 hz1
  injection hz1 with z4 hz1
  injection z1 with _ z1
  injection z2 with u1 u2 u3
  injection z3 with u4 u5 u6
  injection z4 with u7 u8 u9
  subst z1 u1 u2 u3 u4 u5 u6 u7 u8 u9
  obtain ⟨hzb,hzl⟩:=fhandS_zero hz0
  have hv:=fbS_zero hzb
  obtain ⟨hln,hs⟩:=brS_zero hzl
  have hpo:=hv.pts
  have h1:=hpo.two
  have h5:=hpo.five
  refine k_ldA rfl zq ?_;refine k_ldA rfl zq ?_;refine k_calP (Post:=fun v=>v=_) rfl zq (by kernel_rfl) (fun H' hH=>f72_c m H' (rdp.keeps (sq hH)) hp hpo hs) ?_;rintro v rfl;refine k_put ?_;refine d27 ?_;refine run_res (h) rfl Tryz.func28 rfl weakSub ?_;refine hK _ _ ?_;exact ⟨rfl,by rw [orNo_yes hz0]⟩
theorem f27_c (m:Md Tryz.prog B) (h:Hp) (rdp:Rp B h b pp np cp) (hp:np≤1000) (rdt:Rt B h b pt nt ct) (ht:nt≤1000) (rdk:Rk B h b pk nk ck) (hk:nk≤1000) {p:Option Addr} {n c:Nat} {xs:List Int} (rd:RdS B h 1 (.slice p n c) n (ints xs)) (hn:n≤1000) (f t:Int):FnC m 27 #[fbV b pp np cp pt nt ct pk nk ck,.slice p n c,.int .i64 f,.int .i64 t] h fun v h'=>h'=h∧v=orNo (girthS b xs f t) (girthI b.pts xs f t):=by
 have hml:=rdp.elen (by decide)
 have hl:=rd.ilen
 refine fn_enter Tryz.func27 rfl rfl (l:=(fbV b pp np cp pt nt ct pk nk ck)::(.slice p n c)::(.int .i64 f)::(.int .i64 t)::uu33) rfl ?_
 intro cf cs K hK
 refine rs3 ?_;refine k_box rfl zq (fun q4=>k_hp (k_put ?_));refine d47 ?_;refine rs12 ?_;refine d71 ?_
 refine k_calP (Post:=HandF (fhandS b xs) (fbV b pp np cp pt nt ct pk nk ck) xs) rfl zq (by kernel_rfl) (fun H' hH=>f44_c m H' (rdp.keeps (sq hH)) hp (rdt.keeps (sq hH)) ht (rdk.keeps (sq hH)) hk (rd.keeps (sq hH)) hn) ?_;rintro v ⟨x1,p1,n1,c1,p2,n2,c2,p3,n3,c3,yl,rfl,hz⟩;refine d78 ?_;refine k_ext2 rfl zq ?_
 refine k_new rfl zq (fun q10=>k_hp (k_put ?_));refine k_new rfl zq (fun q11=>k_hp (k_put ?_));refine k_stA rfl zq rfl ?_;refine k_stA rfl zq (by first|rfl|exact rws_length _) ?_;refine d88 ?_
 refine k_neqS rfl zq (fun hc=>?_) (fun hc=>?_)
 ·refine d134 ?_
  refine run_res (h) rfl Tryz.func27 rfl weakSub ?_;refine hK _ _ ?_;exact ⟨rfl,by rw [girthS_h (by assumption),orNo_no (by assumption)]⟩
 ·refine d38 ?_;refine rs5 ?_
  have hz0:fhandS b xs=0:=by omega
  obtain ⟨hz1,rfl⟩:=hz hz0
  injection hz1 with hz1
  injection hz1 with hz1
  injection hz1 with z1 hz1
  injection hz1 with z2 hz1
  injection hz1 with z3 hz1
  injection hz1 with z4 hz1
  injection z1 with _ z1
  injection z2 with u1 u2 u3
  injection z3 with u4 u5 u6
  injection z4 with u7 u8 u9
  subst z1 u1 u2 u3 u4 u5 u6 u7 u8 u9
  obtain ⟨hzb,hzl⟩:=fhandS_zero hz0
  have hv:=fbS_zero hzb
  obtain ⟨hln,hs⟩:=brS_zero hzl
  have hpo:=hv.pts
  have h1:=hpo.two
  have h5:=hpo.five
  refine k_ldA rfl zq ?_;refine d3 ?_;refine k_calP (Post:=fun v=>v=_) rfl zq (by kernel_rfl) (fun H' hH=>f70_c m H' _ _ hp) ?_;rintro v rfl;refine d138 ?_
  refine k_neqS rfl zq (fun hc=>?_) (fun hc=>?_)
  ·refine d134 ?_
   refine run_res (h) rfl Tryz.func27 rfl weakSub ?_;refine hK _ _ ?_;exact ⟨rfl,by rw [girthS_o hz0,hml,orNo_no (by assumption)]⟩
  ·refine d13 ?_;refine rs8 ?_
   have hod:ordS b.pts.length f t=0:=by rw [hml];omega
   obtain ⟨hf0,hft,htn⟩:=ordS_zero hod
   obtain ⟨f,rfl⟩: ∃k:Nat,f=k:=Int.eq_ofNat_of_zero_le (by omega)
   obtain ⟨t,rfl⟩: ∃k:Nat,t=k:=Int.eq_ofNat_of_zero_le (by omega)
   refine k_ldA rfl zq ?_;refine k_mkmap rfl zq (fun qm=>k_hp (k_put ?_));refine k_ldA rfl zq ?_;refine d3 ?_;refine k_calM (Post:=fun v es'=>OkE es'∧v=_) qm rfl zq (by kernel_rfl) (f71_c m _ qm [] OkE.nil (rdp.keeps SubH.sub) hp (by omega) hpo hs f t (by omega) (by omega)) ?_;rintro v es2 ⟨hes2,rfl⟩;refine k_put ?_;refine d27 ?_;refine run_res (h) rfl Tryz.func27 rfl weakSub ?_;refine hK _ _ ?_;exact ⟨rfl,by rw [girthS_o hz0,hod,orNo_yes rfl]⟩
theorem padR_full {ys:List Int} (h:ys.length=5):padR ys=ys:=by
 have:=padR_take (l:=ys) (by omega)
 rw [h] at this
 rw [←this,List.take_of_length_le (by rw [padR_length];omega)];rw [List.take_of_length_le (by rw [padR_length];omega)] at this
 rw [this];exact this
theorem rws_full {ys:List Int} (h:ys.length=5):rws ys=ints ys:=by rw [rws,padR_full h]
theorem rws_pad (xs:List Int):rws xs=rws (padR xs):=by rw [rws,rws,padR_full (padR_length xs)]
theorem padR_getD (xs:List Int) {k:Nat} (hk:k<5):(padR xs).getD k 0=xs.getD k 0:=by
 rw [List.getD_eq_getElem?_getD,padR_get hk];rfl
theorem setSeg_rws {ys:List Int} {j:Int} {i:Nat} (a:Int) (hj:j=i) (hi:i<5) (hy:ys.length=5):SetSeg (rws ys) (0+j.toNat*1) [.int .i64 a] (rws (ys.set i a)):=by
 have:=setSeg_ints (xs:=ys) (junk:=[]) a hj (by omega)
 rw [List.append_nil,List.append_nil,←rws_full hy,←rws_full (ys:=ys.set i a) (by simp [hy])] at this
 exact this
theorem rws_ix (ys:List Int) {k:Nat} (hk:k<5):((rws ys).toArray)[(k:Int).toNat*1]?=some (.int .i64 (ys.getD k 0)):=by
 rw [Int.toNat_natCast,Nat.mul_one,List.getElem?_toArray,rws_get hk]
theorem rdS_rwsT {h:Hp} {q n t:Nat} {rw:Bool} {f:Nat×Nat} {l:List Int} [x:Has h q rw (.cells (rws l).toArray t f)] (hl:l.length=5) (hn:n≤5) (c:Nat):RdS B h 1 (.slice (some ⟨q,0,none⟩) n c) n (ints (l.take n)):=
 ⟨_,c,rfl,by simp [hl,hn],.inr ⟨q,0,rfl,fun j hj=>by
  rw [Nat.zero_add];have hj':j<n:=by have:=List.length_map .. ▸hj;simp at this;omega
  refine Rd.held x.mem ?_
  rw [List.getElem?_toArray,rws_get (by omega)];simp only [List.getD_eq_getElem?_getD,List.getElem?_map]
  rw [List.getElem?_take,if_pos hj',List.getElem?_eq_getElem (by omega)];rfl⟩⟩
theorem getD_set (l:List Int) (i k:Nat) (a:Int) (h:i<l.length):(l.set i a).getD k 0=if k=i then a else l.getD k 0:=by
 rw [List.getD_eq_getElem?_getD,List.getElem?_set];by_cases e:i=k
 ·subst e
  simp [h]
 ·rw [if_neg e,if_neg (fun e'=>e e'.symm),List.getD_eq_getElem?_getD]
def innerL (b:Fb) (xs:List Int):List Int:=xs.map fun x=>max 0 (x-b.plank)
theorem innerL_getD (b:Fb) (xs:List Int) {k:Nat} (h:k<xs.length):(innerL b xs).getD k 0=max 0 (xs.getD k 0-b.plank):=by
 rw [innerL,List.getD_eq_getElem?_getD,List.getElem?_map,List.getD_eq_getElem?_getD,List.getElem?_eq_getElem h];rfl
theorem inner_eq {b:Fb} {xs y0 zs:List Int} {np:Nat} (hx:xs.length=np) (h5:np≤5) (hz:zs.length=5) (hy: ∀k,k<5→y0.getD k 0=xs.getD k 0) (h: ∀k,k<5→zs.getD k 0=if k<5 then max 0 (y0.getD k 0-b.plank) else y0.getD k 0):zs.take np=innerL b xs:=by
 refine ext_getD (by simp [innerL];omega) fun k hk=>?_
 have hk':k<np:=by simp at hk;omega
 rw [innerL_getD _ _ (by omega),←hy k (by omega)];have:=h k (by omega)
 rw [if_pos (by omega)] at this
 rw [←this,List.getD_eq_getElem?_getD,List.getD_eq_getElem?_getD,List.getElem?_take,if_pos hk']
theorem f73_c (m:Md Tryz.prog B) (h:Hp) {ys:List Int} (hy:ys.length=5) (hp5:np≤5):FnC m 73 #[fbV b pp np cp pt nt ct pk nk ck,rwV ys] h fun v h'=> ∃nw,h'=h++nw∧OwnS 3 1 v np (ints (ys.take np)) nw:=by
 refine fn_enter Tryz.func73 rfl rfl (l:=(fbV b pp np cp pt nt ct pk nk ck)::(rwV ys)::uu9) rfl ?_
 intro cf cs K hK
 refine rs3 ?_;refine k_box rfl zq (fun q2=>k_hp (k_put ?_));refine k_box rfl zq (fun q3=>k_hp (k_put ?_));refine aq rfl ?_;refine rs7 ?_;refine d149 ?_
 refine k_slA (c:=np) rfl zq rfl (by omega) ?_;refine k_calC (Post:=fun v nw=>OwnS 3 1 v np (ints (ys.take np)) nw) rfl zq (by kernel_rfl) (fun H' hH=>f127_c m H' ((rdS_rwsT (q:=q3) hy (by omega) 5).keeps hH) (by omega)) ?_;rintro v nw o;refine k_hpA (k_put ?_);refine d0 ?_
 refine run_res (h++nw) rfl Tryz.func73 rfl weakSub ?_;refine hK _ _ ?_;exact ⟨nw,rfl,o⟩
theorem f29_c (m:Md Tryz.prog B) (h:Hp) (rdp:Rp B h b pp np cp) (hp:np≤1000) (rdt:Rt B h b pt nt ct) (ht:nt≤1000) (rdk:Rk B h b pk nk ck) (hk:nk≤1000) {p:Option Addr} {n c:Nat} {xs:List Int} (rd:RdS B h 1 (.slice p n c) n (ints xs)) (hn:n≤1000):FnC m 29 #[fbV b pp np cp pt nt ct pk nk ck,.slice p n c] h fun v h'=> ∃new,h'=h++new∧ ∃w,v= .tuple [w,.int .i64 (fhandS b xs)].toArray∧RdI B new w (if fhandS b xs≠0 then [] else innerL b xs):=by
 have hml:=rdp.elen (by decide)
 have hl:=rd.ilen
 refine fn_enter Tryz.func29 rfl rfl (l:=(fbV b pp np cp pt nt ct pk nk ck)::(.slice p n c)::uu35) rfl ?_
 intro cf cs K hK
 refine rs3 ?_;refine k_box rfl zq (fun q2=>k_hp (k_put ?_));refine d47 ?_;refine rs12 ?_;refine d71 ?_
 refine k_calP (Post:=HandF (fhandS b xs) (fbV b pp np cp pt nt ct pk nk ck) xs) rfl zq (by kernel_rfl) (fun H' hH=>f44_c m H' (rdp.keeps (sq hH)) hp (rdt.keeps (sq hH)) ht (rdk.keeps (sq hH)) hk (rd.keeps (sq hH)) hn) ?_;rintro v ⟨x1,p1,n1,c1,p2,n2,c2,p3,n3,c3,yl,rfl,hz⟩;refine d78 ?_;refine k_ext2 rfl zq ?_
 refine k_new rfl zq (fun q6=>k_hp (k_put ?_));refine k_new rfl zq (fun q7=>k_hp (k_put ?_));refine k_stA rfl zq rfl ?_;refine k_stA rfl zq (by first|rfl|exact rws_length _) ?_;refine d88 ?_
 refine k_neqS rfl zq (fun hc=>?_) (fun hc=>?_)
 ·refine d134 ?_
  refine run_res (h) rfl Tryz.func29 rfl weakSub ?_;refine hK _ _ ?_;exact ⟨[],by simp,_,rfl,by rw [if_pos (by assumption)];exact RdI.nil⟩
 ·refine d38 ?_;refine rs2 ?_
  have hz0:fhandS b xs=0:=by omega
  obtain ⟨hz1,rfl⟩:=hz hz0
  injection hz1 with hz1
  injection hz1 with hz1
  injection hz1 with z1 hz1
  injection hz1 with z2 hz1
  injection hz1 with z3 hz1
  injection hz1 with z4 hz1
  injection z1 with _ z1
  injection z2 with u1 u2 u3
  injection z3 with u4 u5 u6
  injection z4 with u7 u8 u9
  subst z1 u1 u2 u3 u4 u5 u6 u7 u8 u9
  obtain ⟨hzb,hzl⟩:=fhandS_zero hz0
  have hv:=fbS_zero hzb
  obtain ⟨hln,hs⟩:=brS_zero hzl
  have hpo:=hv.pts
  have h1:=hpo.two
  have h5:=hpo.five
  obtain ⟨y0,hy0,hyl,hyk⟩: ∃y0:List Int,rws xs=rws y0∧y0.length=5∧ ∀k,k<5→y0.getD k 0=xs.getD k 0:=⟨padR xs,rws_pad xs,padR_length xs,fun k hk=>padR_getD xs hk⟩
  rw [show rwV xs=rwV y0 by rw [rwV,hy0],hy0];have hsy: ∀k,k<5→0≤y0.getD k 0∧y0.getD k 0≤959:=fun k hk=>by rw [hyk k hk];exact hs k
  have hpk:=hv.plank
  refine d71 ?_;refine d61 ?_
  refine run_loop (fun nn l h'=> ∃(j:Nat) (zs:List Int),nn=5-j∧(j≤5)∧(zs.length=5)∧(∀k,k<5→zs.getD k 0=if k<j then max 0 (y0.getD k 0-b.plank) else y0.getD k 0)∧(∃U:Nat→Value,l=((fbV b pp np cp pt nt ct pk nk ck)::(.slice p n c)::(.pointer (some ⟨q2,0,none⟩))::(U 3)::(U 4)::(U 5)::(.pointer (some ⟨q6,0,none⟩))::(.pointer (some ⟨q7,0,none⟩))::vw13 U 8 ((rwV y0)::(.int .i64 (j:Int))::vw14 U 23 [])))∧h++[⟨true,q2,.cells (fbL b pp np cp pt nt ct pk nk ck).toArray 26 (0,0)⟩,⟨true,q6,.cells (fbL b pp np cp pt nt ct pk nk ck).toArray 96 (0,0)⟩,⟨true,q7,.cells (rws zs).toArray 98 (0,0)⟩]=h') _ ⟨0,y0,rfl,by omega,hyl,fun k hk=>by rw [if_neg (by omega)],exU rfl,rfl⟩ ?_;rintro nn l h' ⟨j,zs,rfl,hj,hzl5,hzk,⟨U,rfl⟩,rfl⟩ hnext;have hsj:=hsy j
  refine rs1 ?_;refine k_lssS rfl zq (fun hc=>?_) (fun hc=>?_)
  ·refine d104 ?_;refine d118 ?_
   refine k_ixv (v:= .int .i64 (y0.getD j 0)) rfl zq (by omega) (by omega) (rws_ix y0 (by omega)) ?_;refine d47 ?_;refine rr8 ?_;refine d3 ?_;refine d2 ?_;refine k_sub rfl zq (by unfold In64;omega) ?_;refine k_max rfl zq ?_;refine k_ixa rfl zq (by omega) (by omega) ?_
   haveI hs1:=setSeg_rws (ys:=zs) (j:=(j:Int)) (i:=j) (max 0 (y0.getD j 0-b.plank)) rfl (by omega) hzl5
   refine d74 ?_;refine d91 ?_
   exact m.weak weakSub (hnext _ _ _ (by omega) ⟨j+1,zs.set j (max 0 (y0.getD j 0-b.plank)),rfl,by omega,by simp [hzl5],fun k hk=>by
    rw [getD_set _ _ _ _ (by omega)];by_cases e:k=j
    ·subst e
     rw [if_pos rfl,if_pos (by omega)]
    ·rw [if_neg e,hzk k hk];by_cases e2:k<j
     ·rw [if_pos e2,if_pos (by omega)]
     ·rw [if_neg e2,if_neg (by omega)],exU rfl,rfl⟩)
  ·refine d105 ?_;refine rs5 ?_;refine k_ldA rfl zq ?_;refine k_ldA rfl zq ?_
   obtain rfl:j=5:=by omega
   refine k_calC rfl zq (by kernel_rfl) (fun H' hH=>f73_c m H' hzl5 (by omega)) ?_;rintro v nw o;refine k_hpA (k_put ?_);refine d27 ?_
   refine run_res (h++nw) rfl Tryz.func29 rfl weakSub ?_;refine hK _ _ ?_;exact ⟨nw,rfl,_,by rw [hz0],by rw [if_neg (fun e=>e hz0),←inner_eq (np:=np) (by omega) (by omega) hzl5 hyk hzk];exact OwnS.rdI o⟩
abbrev clampI (b:Fb) (xs:List Int) (k:Nat):Int:=min (max (xs.getD k 0) (b.pts.getD k default).lo) (b.pts.getD k default).hi
theorem clamp_spans {b:Fb} {xs y0 zs:List Int} {np:Nat} (hx:xs.length=np) (hb:b.pts.length=np) (hp:PtsOk b.pts) (h0:y0.length=5) (hz:zs.length=5) (hy: ∀k,k<5→y0.getD k 0=xs.getD k 0) (h: ∀k,k<5→zs.getD k 0=if k<np then clampI b y0 k else y0.getD k 0):padR zs=padR y0↔spansF b xs:=by
 have h5:=hp.five
 rw [padR_full hz,padR_full h0];have hlo: ∀k,k<np→(b.pts.getD k default).lo≤(b.pts.getD k default).hi:=fun k hk=>(hp.ok _ (mem_getDR.2 ⟨k,by omega,rfl⟩)).2.1.2.1
 constructor
 ·rintro rfl i hi;have:=h i (by omega)
  rw [if_pos (by omega),clampI] at this
  have:=hy i (by omega)
  have:=hlo i (by omega)
  omega
 ·intro hs
  refine ext_getD (by omega) fun k hk=>?_
  rw [h k (by omega)];by_cases e:k<np
  ·have:=hs k (by omega)
   have:=hy k (by omega)
   rw [if_pos e,clampI];omega
  ·rw [if_neg e]
section
variable {P:Program} {B:Array Obj} {m:Md P B} {ops:Array Oper} {l l':List Value} {S h h' H:Hp} {C:List Value→Hp→Prop} {i:Nat} {kd:Kd} {r:List (Nat×Kd)}
 {d:Option Tmp} {ty:TypeId} {pos:String} {af:Array Edge} {g:Option (Nat×Bool)}
theorem k_eqR {t u e:Nat} {x y:Operand} {xs ys:List Int} (ho:ops[i]?=some ⟨d,.binOp .eql t x y u,ty,pos,af,g⟩) (hw:Wt ops l g) [KHeap kd S h H] [ex:OpV l x (.agg (rws xs).toArray)] [ey:OpV l y (.agg (rws ys).toArray)] [ArrayT P t 5 e 1] [Scal P e]
  (he:P.underlying e=some (.int .i64)) (hg:P.eqGuardType P.depth t=false) [PutV l d (.bool (decide (padR xs=padR ys))) l'] (q:RegK m S ops r l' h C):RegK m S ops ((i,kd)::r) l h C:=
 k_eqA (ex:=ex) (ey:=ey) (n:=5) ho hw he hg (padR_length _) (padR_length _) q
end
theorem f30_c (m:Md Tryz.prog B) (h:Hp) (rdp:Rp B h b pp np cp) (hp:np≤1000) (rdt:Rt B h b pt nt ct) (ht:nt≤1000) (rdk:Rk B h b pk nk ck) (hk:nk≤1000) {p:Option Addr} {n c:Nat} {xs:List Int} (rd:RdS B h 1 (.slice p n c) n (ints xs)) (hn:n≤1000):FnC m 30 #[fbV b pp np cp pt nt ct pk nk ck,.slice p n c] h fun v h'=>h'=h∧ ∃w,v= .tuple [w,.int .i64 (fhandS b xs)].toArray∧IsB (fhandS b xs=0∧spansF b xs∧rightF b xs) w:=by
 have hml:=rdp.elen (by decide)
 have hl:=rd.ilen
 refine fn_enter Tryz.func30 rfl rfl (l:=(fbV b pp np cp pt nt ct pk nk ck)::(.slice p n c)::uu52) rfl ?_
 intro cf cs K hK
 refine rs3 ?_;refine k_box rfl zq (fun q2=>k_hp (k_put ?_));refine d47 ?_;refine rs12 ?_;refine d71 ?_
 refine k_calP (Post:=HandF (fhandS b xs) (fbV b pp np cp pt nt ct pk nk ck) xs) rfl zq (by kernel_rfl) (fun H' hH=>f44_c m H' (rdp.keeps (sq hH)) hp (rdt.keeps (sq hH)) ht (rdk.keeps (sq hH)) hk (rd.keeps (sq hH)) hn) ?_;rintro v ⟨x1,p1,n1,c1,p2,n2,c2,p3,n3,c3,yl,rfl,hz⟩;refine d78 ?_;refine k_ext2 rfl zq ?_
 refine k_new rfl zq (fun q6=>k_hp (k_put ?_));refine k_new rfl zq (fun q7=>k_hp (k_put ?_));refine k_stA rfl zq rfl ?_;refine k_stA rfl zq (by first|rfl|exact rws_length _) ?_;refine d88 ?_
 refine k_neqS rfl zq (fun hc=>?_) (fun hc=>?_)
 ·refine d134 ?_
  refine run_res (h) rfl Tryz.func30 rfl weakSub ?_;refine hK _ _ ?_;first
   |exact ⟨rfl,_,rfl,IsB.no (fun e=>absurd e.1 (by assumption))⟩
   |exact ⟨rfl,_,by rw [hz0],IsB.yes ⟨hz0,by assumption,by assumption⟩⟩
   |exact ⟨rfl,_,by rw [hz0],IsB.no (fun e=>absurd e.2.2 (by assumption))⟩
   |exact ⟨rfl,_,by rw [hz0],IsB.no (fun e=>absurd e.2.1 (by assumption))⟩
 ·refine d13 ?_;refine rs3 ?_
  have hz0:fhandS b xs=0:=by omega
  obtain ⟨hz1,rfl⟩:=hz hz0
  injection hz1 with hz1
  injection hz1 with hz1
  injection hz1 with z1 hz1
  injection hz1 with z2 hz1
  injection hz1 with z3 hz1
  injection hz1 with z4 hz1
  injection z1 with _ z1
  injection z2 with u1 u2 u3
  injection z3 with u4 u5 u6
  injection z4 with u7 u8 u9
  subst z1 u1 u2 u3 u4 u5 u6 u7 u8 u9
  obtain ⟨hzb,hzl⟩:=fhandS_zero hz0
  have hv:=fbS_zero hzb
  obtain ⟨hln,hs⟩:=brS_zero hzl
  have hpo:=hv.pts
  have h1:=hpo.two
  have h5:=hpo.five
  obtain ⟨y0,hy0,hyl,hyk⟩: ∃y0:List Int,rws xs=rws y0∧y0.length=5∧ ∀k,k<5→y0.getD k 0=xs.getD k 0:=⟨padR xs,rws_pad xs,padR_length xs,fun k hk=>padR_getD xs hk⟩
  rw [show rwV xs=rwV y0 by rw [rwV,hy0],hy0];have hsy: ∀k,k<5→0≤y0.getD k 0∧y0.getD k 0≤959:=fun k hk=>by rw [hyk k hk];exact hs k
  have hpk:=hv.plank
  refine k_ldA rfl zq ?_;refine k_new rfl zq (fun q9=>k_hp (k_put ?_));refine k_stA rfl zq (by first|rfl|exact rws_length _) ?_;refine d24 ?_;refine rs4 ?_;refine d2 ?_;refine d136 ?_
  refine run_loop (fun nn l h'=> ∃(j:Nat) (zs:List Int),nn=np-j∧(j≤np)∧(zs.length=5)∧(∀k,k<5→zs.getD k 0=if k<j then clampI b y0 k else y0.getD k 0)∧(∃U:Nat→Value,l=((fbV b pp np cp pt nt ct pk nk ck)::(.slice p n c)::(.pointer (some ⟨q2,0,none⟩))::(U 3)::(U 4)::(U 5)::(.pointer (some ⟨q6,0,none⟩))::(.pointer (some ⟨q7,0,none⟩))::(U 8)::(.pointer (some ⟨q9,0,none⟩))::vw14 U 10 ((.slice pp np cp)::(.int .i64 (np:Int))::(.int .i64 (j:Int))::vw27 U 27 [])))∧h++[⟨true,q2,.cells (fbL b pp np cp pt nt ct pk nk ck).toArray 26 (0,0)⟩,⟨true,q6,.cells (fbL b pp np cp pt nt ct pk nk ck).toArray 96 (0,0)⟩,⟨true,q7,.cells (rws y0).toArray 98 (0,0)⟩,⟨true,q9,.cells (rws zs).toArray 98 (0,0)⟩]=h') _ ⟨0,y0,rfl,by omega,hyl,fun k hk=>by rw [if_neg (by omega)],exU rfl,rfl⟩ ?_;rintro nn l h' ⟨j,zs,rfl,hj,hzl5,hzk,⟨U,rfl⟩,rfl⟩ hnext;refine rs1 ?_;refine k_lssS rfl zq (fun hc=>?_) (fun hc=>?_)
  ·refine d104 ?_;refine rs6 ?_;refine mq rfl ?_
   obtain ⟨rdp_b,rdp_o,rfl⟩:=rdp.ptr (by omega)
   refine k_ixs rfl zq (by first|rfl|assumption) (by omega) (by omega) ?_;refine k_ldN (vs:=[.int .i64 (b.pts.getD j default).h,.int .i64 (b.pts.getD j default).lo,.int .i64 (b.pts.getD j default).hi]) rfl zq rfl (rdp.eat j (by omega) (by omega)) ?_;refine k_new rfl zq (fun q11=>k_hp (k_put ?_));refine k_as rfl zq ?_;refine d48 ?_;refine run_draw [(0,.pure),(1,.pure),(2,.pure),(4,.pure),(5,.pure),(8,.pure),(9,.pure),(3,.read),(6,.read),(7,.pure),(10,.read),(11,.pure),(12,.pure),(13,.free)] (by kernel_rfl) (by kernel_rfl) (List.Sublist.refl _) ?_;refine d125 ?_;refine d8 ?_;refine d8 ?_
   refine k_ld rfl zq (rd_rws j (by omega) (by omega)) ?_;refine k_ldh rfl zq ?_;refine k_max rfl zq ?_;refine k_ldh rfl zq ?_;refine k_min rfl zq ?_;refine k_ixa rfl zq (by omega) (by omega) ?_;haveI hs1:=setSeg_rws (ys:=zs) (j:=(j:Int)) (i:=j) (clampI b y0 j) rfl (by omega) hzl5
   refine d74 ?_;refine d91 ?_
   exact m.weak weakSub (hnext _ _ _ (by omega) ⟨j+1,zs.set j (clampI b y0 j),rfl,by omega,by simp [hzl5],fun k hk=>by
    rw [getD_set _ _ _ _ (by omega)];by_cases e:k=j
    ·subst e
     rw [if_pos rfl,if_pos (by omega)]
    ·rw [if_neg e,hzk k hk];by_cases e2:k<j
     ·rw [if_pos e2,if_pos (by omega)]
     ·rw [if_neg e2,if_neg (by omega)],exU rfl,rfl⟩)
  ·refine d105 ?_;refine rs11 ?_;refine k_ldA rfl zq ?_;refine k_ldA rfl zq ?_
   obtain rfl:j=np:=by omega
   have hcl:=clamp_spans (by omega) hml hpo hyl hzl5 hyk hzk
   by_cases hsp:spansF b xs
   ·refine k_eqR (e:=3) rfl zq (by kernel_rfl) (by kernel_rfl) ?_;first|rw [decide_eq_true (hcl.2 hsp)]|rw [decide_eq_false (fun e=>hsp (hcl.1 e))]
    refine d130 ?_
    refine k_mkmap rfl rfl (fun qm=>k_hp (k_put ?_));refine k_ldA rfl rfl ?_;refine k_calM (Post:=fun v es'=>OkE es'∧IsB (rightF b xs) v) qm rfl rfl (by kernel_rfl) (by rw [←hy0];exact CallF.mono (f74_c m _ qm [] OkE.nil (rdp.keeps SubH.sub) hp (rdt.keeps SubH.sub) ht (rdk.keeps SubH.sub) hk (by omega) hv hs) fun v h' ⟨e',h1,h2,h3⟩=>⟨e',h1,h2,h3⟩) ?_;rintro v es2 ⟨hes2,(⟨hc,rfl⟩|⟨hc,rfl⟩)⟩
    ·refine d129 ?_;refine d27 ?_
     refine run_res (h) rfl Tryz.func30 rfl weakSub ?_;refine hK _ _ ?_;first
      |exact ⟨rfl,_,rfl,IsB.no (fun e=>absurd e.1 (by assumption))⟩
      |exact ⟨rfl,_,by rw [hz0],IsB.yes ⟨hz0,by assumption,by assumption⟩⟩
      |exact ⟨rfl,_,by rw [hz0],IsB.no (fun e=>absurd e.2.2 (by assumption))⟩
      |exact ⟨rfl,_,by rw [hz0],IsB.no (fun e=>absurd e.2.1 (by assumption))⟩
    ·refine d129 ?_;refine d27 ?_
     refine run_res (h) rfl Tryz.func30 rfl weakSub ?_;refine hK _ _ ?_;first
      |exact ⟨rfl,_,rfl,IsB.no (fun e=>absurd e.1 (by assumption))⟩
      |exact ⟨rfl,_,by rw [hz0],IsB.yes ⟨hz0,by assumption,by assumption⟩⟩
      |exact ⟨rfl,_,by rw [hz0],IsB.no (fun e=>absurd e.2.2 (by assumption))⟩
      |exact ⟨rfl,_,by rw [hz0],IsB.no (fun e=>absurd e.2.1 (by assumption))⟩
   ·refine k_eqR (e:=3) rfl zq (by kernel_rfl) (by kernel_rfl) ?_;first|rw [decide_eq_true (hcl.2 hsp)]|rw [decide_eq_false (fun e=>hsp (hcl.1 e))]
    refine d68 ?_;refine k_pickF rfl zq ?_;refine d27 ?_
    refine run_res (h) rfl Tryz.func30 rfl weakSub ?_;refine hK _ _ ?_;first
     |exact ⟨rfl,_,rfl,IsB.no (fun e=>absurd e.1 (by assumption))⟩
     |exact ⟨rfl,_,by rw [hz0],IsB.yes ⟨hz0,by assumption,by assumption⟩⟩
     |exact ⟨rfl,_,by rw [hz0],IsB.no (fun e=>absurd e.2.2 (by assumption))⟩
     |exact ⟨rfl,_,by rw [hz0],IsB.no (fun e=>absurd e.2.1 (by assumption))⟩
end Go.Proofs
namespace Go.Proofs
open Go.Lo
open Go.Conc (G)
set_option maxRecDepth 100000
set_option synthInstance.maxSize 100000
set_option synthInstance.maxHeartbeats 1000000
set_option maxHeartbeats 4000000
variable {B:Array Obj}
def okM (x:Sp):Prop:=0≤x.lo∧x.lo≤x.hi∧x.hi≤959∧x.hi-x.lo<3
theorem spanL_length (x:Sp):(spanL x).length=(x.hi-x.lo+1).toNat:=by simp [spanL]
theorem spanL_getD (x:Sp) (j:Nat) (h:j<(x.hi-x.lo+1).toNat):(spanL x).getD j 0=x.lo+j:=by
 rw [spanL,List.getD_eq_getElem?_getD,List.getElem?_map,List.getElem?_range h];rfl
def linesOf (ms:List Sp):List (List Int):=ms.foldl extL [[]]
theorem linesOf_take (ms:List Sp) (k:Nat) (h:k<ms.length):linesOf (ms.take (k+1))=extL (linesOf (ms.take k)) (ms.getD k default):=by
 rw [take_snoc ms k h,linesOf,List.foldl_append];rfl
theorem extL_length (all:List (List Int)) (x:Sp):(extL all x).length=all.length*(x.hi-x.lo+1).toNat:=by
 induction all with
 |nil=>simp [extL]
 |cons a r ih=>
  have:extL (a::r) x=ext1 a (spanL x)++extL r x:=by simp [extL]
  rw [this,List.length_append,ih,ext1,List.length_map,spanL_length,List.length_cons,Nat.add_mul,Nat.one_mul];omega
theorem linesOf_small {ms:List Sp} (hk: ∀x∈ms,okM x): ∀k,k≤ms.length→(linesOf (ms.take k)).length≤3^k
 |0,_=>by simp [linesOf]
 |k+1,h=>by
  have ih:=linesOf_small hk k (by omega)
  have ho:=hk _ (mem_getDR.2 ⟨k,by omega,rfl⟩)
  rw [linesOf_take ms k (by omega),extL_length];unfold okM at ho
  exact Nat.mul_le_mul ih (by omega)
theorem mem_extL {all:List (List Int)} {x:Sp} {l:List Int}:l∈extL all x↔ ∃a∈all,∃n∈spanL x,l=a++[n]:=by
 simp only [extL,ext1,List.mem_flatMap,List.mem_map]
 constructor
 ·rintro ⟨a,ha,n,hn,rfl⟩;exact ⟨a,ha,n,hn,rfl⟩
 ·rintro ⟨a,ha,n,hn,rfl⟩;exact ⟨a,ha,n,hn,rfl⟩
theorem mem_spanL {x:Sp} {n:Int}:n∈spanL x↔x.lo≤n∧n≤x.hi:=by
 simp only [spanL,List.mem_map,List.mem_range]
 constructor
 ·rintro ⟨i,hi,rfl⟩;omega
 ·intro h
  exact ⟨(n-x.lo).toNat,by omega,by omega⟩
theorem mem_linesOf {ms:List Sp}: ∀{k:Nat} {l:List Int},k≤ms.length→(l∈linesOf (ms.take k)↔l.length=k∧ ∀i,i<k→(ms.getD i default).lo≤l.getD i 0∧l.getD i 0≤(ms.getD i default).hi)
 |0,l,_=>by
  simp only [List.take_zero,linesOf,List.foldl_nil,List.mem_singleton]
  constructor
  ·rintro rfl;exact ⟨rfl,fun i hi=>by omega⟩
  ·rintro ⟨h,_⟩;exact List.length_eq_zero_iff.1 h
 |k+1,l,h=>by
  rw [linesOf_take ms k (by omega),mem_extL];constructor
  ·rintro ⟨a,ha,n,hn,rfl⟩;obtain ⟨h1,h2⟩:=(mem_linesOf (by omega)).1 ha
   have hn':=mem_spanL.1 hn
   refine ⟨by simp [h1],fun i hi=>?_⟩
   rcases Nat.lt_or_ge i k with h3|h3
   ·have:=h2 i h3
    simp only [List.getD_eq_getElem?_getD] at this⊢
    rw [List.getElem?_append_left (by omega)];exact this
   ·obtain rfl:i=k:=by omega
    simp only [List.getD_eq_getElem?_getD] at hn'⊢
    rw [List.getElem?_append_right (by omega),h1,Nat.sub_self];exact hn'
  ·rintro ⟨h1,h2⟩;refine ⟨l.take k,(mem_linesOf (by omega)).2 ⟨by simp;omega,fun i hi=>?_⟩,l.getD k 0,mem_spanL.2 (h2 k (by omega)),?_⟩
   ·have:=h2 i (by omega)
    simp only [List.getD_eq_getElem?_getD] at this⊢
    rw [List.getElem?_take,if_pos hi];exact this
   ·rw [←take_snoc' l k (by omega),List.take_of_length_le (by omega)]
def spsOf (b:Fb):List Sp:=b.pts.map fun p=>⟨p.lo,p.hi⟩
abbrev spI (b:Fb) (i:Nat):Sp:=⟨(b.pts.getD i default).lo,(b.pts.getD i default).hi⟩
theorem spsOf_length (b:Fb):(spsOf b).length=b.pts.length:=by simp [spsOf]
theorem spsOf_getD (b:Fb) {i:Nat} (h:i<b.pts.length):(spsOf b).getD i default=spI b i:=by
 rw [spsOf,List.getD_eq_getElem?_getD,List.getElem?_map,spI,List.getD_eq_getElem?_getD,List.getElem?_eq_getElem h];rfl
theorem sps_ok {b:Fb} (hp:PtsOk b.pts): ∀x∈spsOf b,okM x:=fun x hx=>by
 obtain ⟨p,hp',rfl⟩:=List.mem_map.1 hx
 have:=hp.ok p hp'
 exact ⟨this.2.1.1,this.2.1.2.1,this.2.1.2.2,this.2.2⟩
def linesK (b:Fb) (k:Nat):List (List Int):=linesOf ((spsOf b).take k)
theorem linesK_le {b:Fb} (hp:PtsOk b.pts) (k:Nat) (h:k≤b.pts.length):(linesK b k).length≤243:=by
 have h1:=linesOf_small (sps_ok hp) k (by rw [spsOf_length];exact h)
 have h2:=hp.five
 have h3:3^k≤3^5:=Nat.pow_le_pow_right (by omega) (by omega)
 unfold linesK
 omega
theorem mem_linesK {b:Fb} {k:Nat} {l:List Int} (h:k≤b.pts.length):l∈linesK b k↔l.length=k∧ ∀i,i<k→(b.pts.getD i default).lo≤l.getD i 0∧l.getD i 0≤(b.pts.getD i default).hi:=by
 rw [linesK,mem_linesOf (by rw [spsOf_length];exact h)];constructor
 ·rintro ⟨h1,h2⟩;exact ⟨h1,fun i hi=>by have:=h2 i hi;rwa [spsOf_getD b (by omega)] at this⟩
 ·rintro ⟨h1,h2⟩;exact ⟨h1,fun i hi=>by rw [spsOf_getD b (by omega)];exact h2 i hi⟩
def boatsOf (b:Fb):List (List Int):=(linesK b b.pts.length).filter fun l=>decide (rightF b l)
theorem line_sml {b:Fb} (hp:PtsOk b.pts) {l:List Int} (hl:l∈linesK b b.pts.length):SmL l:=fun j=>by
 obtain ⟨h1,h2⟩:=(mem_linesK (Nat.le_refl _)).1 hl
 by_cases h:j<l.length
 ·have h3:=h2 j (by omega)
  have h4:=hp.ok _ (mem_getDR.2 ⟨j,by omega,rfl⟩:b.pts.getD j default∈b.pts)
  unfold okPt at h4
  omega
 ·rw [getD_out _ _ (by omega)];omega
theorem mem_boats {b:Fb} {l:List Int}:l∈boatsOf b↔l.length=b.pts.length∧spansF b l∧rightF b l:=by
 rw [boatsOf,List.mem_filter,mem_linesK (Nat.le_refl _),decide_eq_true_iff];exact ⟨fun ⟨⟨h1,h2⟩,h3⟩=>⟨h1,fun i hi=>h2 i (by omega),h3⟩,fun ⟨h1,h2,h3⟩=>⟨⟨h1,fun i hi=>h2 i (by omega)⟩,h3⟩⟩
theorem boat_sml {b:Fb} (hp:PtsOk b.pts) {l:List Int} (hl:l∈boatsOf b):SmL l:=line_sml hp (List.mem_filter.1 hl).1
end Go.Proofs
namespace Go.Proofs
open Go.Lo
open Go.Conc (G)
set_option maxRecDepth 100000
set_option synthInstance.maxSize 100000
set_option synthInstance.maxHeartbeats 1000000
set_option maxHeartbeats 4000000
variable {b:Fb} {pp:Option Addr} {np cp:Nat} {pt:Option Addr} {nt ct:Nat} {pk:Option Addr} {nk ck:Nat}
variable {B:Array Obj}
variable [LaidF B]
def genA:List Sp→List Int→List (List Int)
 |[],pre=>[pre]
 |x::ms,pre=>(spanL x).flatMap fun n=>genA ms (pre++[n])
theorem foldl_genA: ∀(ms:List Sp) (all:List (List Int)),ms.foldl extL all=all.flatMap (genA ms)
 |[],all=>by
  simp only [List.foldl_nil]
  induction all with
  |nil=>rfl
  |cons a r ih=>rw [List.flatMap_cons,←ih];rfl
 |x::ms,all=>by
  rw [List.foldl_cons,foldl_genA ms (extL all x),extL,List.flatMap_assoc];congr 1
  funext l
  rw [ext1,List.flatMap_map];rfl
theorem linesOf_genA (ms:List Sp):linesOf ms=genA ms []:=by rw [linesOf,foldl_genA];simp
def genB (b:Fb) (ms:List Sp) (pre:List Int):List (List Int):=(genA ms pre).filter fun l=>decide (rightF b l)
def genBJ (b:Fb) (x:Sp) (ms:List Sp) (pre:List Int) (j:Nat):List (List Int):=((spanL x).take j).flatMap fun n=>genB b ms (pre++[n])
theorem genBJ_zero (b:Fb) (x:Sp) (ms:List Sp) (pre:List Int):genBJ b x ms pre 0=[]:=rfl
theorem genBJ_succ (b:Fb) (x:Sp) (ms:List Sp) (pre:List Int) (j:Nat) (h:j<(x.hi-x.lo+1).toNat):genBJ b x ms pre (j+1)=genBJ b x ms pre j++genB b ms (pre++[x.lo+j]):=by
 unfold genBJ
 rw [take_snoc' _ j (by rw [spanL_length];exact h),spanL_getD x j h,List.flatMap_append];simp
theorem genB_cons (b:Fb) (x:Sp) (ms:List Sp) (pre:List Int):genB b (x::ms) pre=(spanL x).flatMap fun n=>genB b ms (pre++[n]):=by
 unfold genB
 simp only [genA,List.filter_flatMap]
theorem genBJ_full (b:Fb) (x:Sp) (ms:List Sp) (pre:List Int) (j:Nat) (h:(x.hi-x.lo+1).toNat≤j):genBJ b x ms pre j=genB b (x::ms) pre:=by
 unfold genBJ
 rw [List.take_of_length_le (by rw [spanL_length];exact h),genB_cons]
theorem genBJ_le (b:Fb) (x:Sp) (ms:List Sp) (pre:List Int) (j:Nat):(genBJ b x ms pre j).length≤(genB b (x::ms) pre).length:=by
 have:genB b (x::ms) pre=genBJ b x ms pre j++((spanL x).drop j).flatMap fun n=>genB b ms (pre++[n]):=by
  rw [genB_cons];unfold genBJ
  rw [←List.flatMap_append,List.take_append_drop]
 rw [this,List.length_append];omega
theorem genB_nil (b:Fb) (pre:List Int):genB b [] pre=if rightF b pre then [pre] else []:=by
 unfold genB genA
 by_cases h:rightF b pre<;>simp [h]
theorem genB_all (b:Fb):genB b (spsOf b) []=boatsOf b:=by
 rw [genB,←linesOf_genA,boatsOf,linesK,List.take_of_length_le (by rw [spsOf_length];exact Nat.le_refl _)]
theorem boatsOf_le {b:Fb} (hp:PtsOk b.pts):(boatsOf b).length≤243:=by
 have h1:=List.length_filter_le (fun l=>decide (rightF b l)) (linesK b b.pts.length)
 have h2:=linesK_le hp b.pts.length (Nat.le_refl _)
 unfold boatsOf
 omega
theorem rws_rep {n:Nat} (hn:n≤5):rws (List.replicate n 0)=[.int .i64 0,.int .i64 0,.int .i64 0,.int .i64 0,.int .i64 0]:=by
 rw [←rws_nil];simp only [rws,padR,List.replicate_append_replicate,List.take_replicate,List.nil_append]
 congr 2
theorem sml_set {ln:List Int} {i:Nat} {n:Int} (h:SmL ln) (hn:0≤n∧n≤959):SmL (ln.set i n):=fun j=>by
 by_cases e:i=j
 ·subst e
  by_cases hl:i<ln.length
  ·rw [List.getD_eq_getElem?_getD,List.getElem?_set_self hl];exact hn
  ·rw [List.set_eq_of_length_le (by omega)];exact h i
 ·rw [List.getD_eq_getElem?_getD,List.getElem?_set_ne e,←List.getD_eq_getElem?_getD];exact h j
theorem rws_set {ln:List Int} {i:Nat} {n:Int} (hl:ln.length≤5) (hi:i<ln.length):rws (ln.set i n)=(rws ln).set i (.int .i64 n):=by
 simp only [rws,ints,padR]
 rw [←List.map_set];congr 1
 rw [←List.take_set,List.set_append_left _ _ hi]
theorem setSeg_rwsL {ln:List Int} {i:Nat} {n:Int} (hl:ln.length≤5) (hi:i<ln.length):SetSeg (rws ln) (0+(i:Int).toNat*1) [.int .i64 n] (rws (ln.set i n)):=⟨by
 rw [rws_set hl hi,Int.toNat_natCast,Nat.mul_one,Nat.zero_add];have:i<(rws ln).length:=by rw [rws_length];omega
 rw [List.set_eq_take_append_cons_drop,if_pos this];simp,by rw [rws_length];simp;omega⟩
theorem CallV.fn' {P:Program} {B:Array Obj} {m:Md P B} {f:FuncId} {first cap vs:Array Value} {args:List Value} {h:Hp} {Post:Value→Hp→Prop} (hf:callB P f=true) (e:first++args.toArray++cap=vs) (c:FnC m f vs h Post):CallV m (.func (.func f) first cap) args h Post:=CallV.fn hf (e▸c)
theorem callB171:callB Tryz.prog 171=true:=by kernel_rfl
def EachF {P:Program} {B:Array Obj} (m:Md P B) (h0:Hp) (b:Fb) (yv:Value) (YI:List (List Int)→Hp→Prop) (YS:Hp→Prop):Prop:=
 ∀(F R:Hp) (dn:List (List Int)) (ln:List Int),h0.Sublist F→ln∈boatsOf b→dn.length<243→YI dn R→CallV m yv [rwV ln] (F++R) fun v h'=> ∃R',h'=F++R'∧((v= .bool true∧YI (dn++[ln]) R')∨(v= .bool false∧YS R'))
theorem f171_c (m:Md Tryz.prog B) {h0:Hp} (rdp:RdS B h0 3 (.slice pp np cp) np (encs b.pts)) (hp:np≤1000) (rdt:RdS B h0 4 (.slice pt nt ct) nt (encs b.tapes)) (ht:nt≤1000) (rdk:RdS B h0 3 (.slice pk nk ck) nk (encs b.sticks)) (hk:nk≤1000) (hv:FOk b) {yv:Value} [CellsV yv [yv]] {YI:List (List Int)→Hp→Prop} {YS:Hp→Prop} (hY:EachF m h0 b yv YI YS) (qb qm qy qn q:Nat):
  ∀(d i:Nat) (ln:List Int) (dn:List (List Int)) (X R:Hp) (es:Ents),OkE es→i+d=np→ln.length=np→SmL ln→(∀k,k<i→(b.pts.getD k default).lo≤ln.getD k 0∧ln.getD k 0≤(b.pts.getD k default).hi)→dn.length+(genB b ((spsOf b).drop i) (ln.take i)).length≤243→YI dn R→
   FnC m 171 #[rwV ln,.int .i64 (i:Int),.pointer (some ⟨qb,0,none⟩),.pointer (some ⟨qm,0,none⟩),.pointer (some ⟨qy,0,none⟩),.pointer (some ⟨qn,0,none⟩)] (((h0++[⟨true,qb,.cells (fbL b pp np cp pt nt ct pk nk ck).toArray 96 (0,0)⟩,⟨true,qm,.cells [.map (some q)].toArray 132 (0,0)⟩,⟨true,qy,.cells [yv].toArray 229 (0,0)⟩,⟨true,qn,.cells [.func (.func 171) #[] [.pointer (some ⟨qb,0,none⟩),.pointer (some ⟨qm,0,none⟩),.pointer (some ⟨qy,0,none⟩),.pointer (some ⟨qn,0,none⟩)].toArray].toArray 230 (0,0)⟩])++X)++(⟨true,q,mapO es⟩::R)) fun v h'=> ∃es' R',OkE es'∧h'=((h0++[⟨true,qb,.cells (fbL b pp np cp pt nt ct pk nk ck).toArray 96 (0,0)⟩,⟨true,qm,.cells [.map (some q)].toArray 132 (0,0)⟩,⟨true,qy,.cells [yv].toArray 229 (0,0)⟩,⟨true,qn,.cells [.func (.func 171) #[] [.pointer (some ⟨qb,0,none⟩),.pointer (some ⟨qm,0,none⟩),.pointer (some ⟨qy,0,none⟩),.pointer (some ⟨qn,0,none⟩)].toArray].toArray 230 (0,0)⟩])++X)++(⟨true,q,mapO es'⟩::R')∧((v= .bool true∧YI (dn++genB b ((spsOf b).drop i) (ln.take i)) R')∨(v= .bool false∧YS R')):=by
 intro d
 induction d using Nat.strongRecOn
 rename_i d ih
 intro i ln dn X R es hes hid hln hsm hsp hdn hR
 have hml:=rdp.elen (by decide)
 have hpo:=hv.pts
 have hv1:=hpo.five
 refine fn_enter Tryz.func171 rfl rfl (l:=(rwV ln)::(.int .i64 (i:Int))::(.pointer (some ⟨qb,0,none⟩))::(.pointer (some ⟨qm,0,none⟩))::(.pointer (some ⟨qy,0,none⟩))::(.pointer (some ⟨qn,0,none⟩))::uu49) rfl ?_
 intro cf cs K hK
 refine rs2 ?_;refine k_box rfl zq (fun q6=>k_weak (Weak.mid ((h0++[⟨true,qb,.cells (fbL b pp np cp pt nt ct pk nk ck).toArray 96 (0,0)⟩,⟨true,qm,.cells [.map (some q)].toArray 132 (0,0)⟩,⟨true,qy,.cells [yv].toArray 229 (0,0)⟩,⟨true,qn,.cells [.func (.func 171) #[] [.pointer (some ⟨qb,0,none⟩),.pointer (some ⟨qm,0,none⟩),.pointer (some ⟨qy,0,none⟩),.pointer (some ⟨qn,0,none⟩)].toArray].toArray 230 (0,0)⟩])++X) (⟨true,q,mapO es⟩::R) _) (k_put ?_));refine d12 ?_;refine rs6 ?_;refine mq rfl ?_;refine d149 ?_
 refine k_eqlS rfl zq (fun hc=>?_) (fun hc=>?_)
 ·refine d7 ?_;refine rs11 ?_;refine d64 ?_;refine k_ldA rfl zq ?_
  refine k_calM (Post:=fun v es'=>OkE es'∧IsB (rightF b ln) v) q rfl zq (by kernel_rfl) (CallF.mono (f74_c m _ q es hes (rdp.keeps SubH.sub) hp (rdt.keeps SubH.sub) ht (rdk.keeps SubH.sub) hk (by omega) hv hsm) fun v h' ⟨e',h1,h2,h3⟩=>⟨e',h1,h2,h3⟩) ?_;rintro v es2 ⟨hes2,(⟨hc,rfl⟩|⟨hc,rfl⟩)⟩
  ·refine d40 ?_;refine mq rfl ?_;refine k_ldh rfl rfl ?_;refine k_ldA rfl rfl ?_
   have hcv:=hY ((((h0++[⟨true,qb,.cells (fbL b pp np cp pt nt ct pk nk ck).toArray 96 (0,0)⟩,⟨true,qm,.cells [.map (some q)].toArray 132 (0,0)⟩,⟨true,qy,.cells [yv].toArray 229 (0,0)⟩,⟨true,qn,.cells [.func (.func 171) #[] [.pointer (some ⟨qb,0,none⟩),.pointer (some ⟨qm,0,none⟩),.pointer (some ⟨qy,0,none⟩),.pointer (some ⟨qn,0,none⟩)].toArray].toArray 230 (0,0)⟩])++X)++[⟨true,q6,.cells (rws ln).toArray 98 (0,0)⟩])++[⟨true,q,mapO es2⟩]) R dn ln (by simp) (mem_boats.2 ⟨by omega,fun k hk=>hsp k (by omega),hc⟩) (by
    rw [List.drop_eq_nil_of_le (by rw [spsOf_length];omega),List.take_of_length_le (by omega),genB_nil,if_pos hc] at hdn
    simp at hdn
    omega) hR
   rw [List.append_assoc _ [_] R,List.singleton_append] at hcv
   refine k_callV rfl rfl hcv ?_;rintro v h' ⟨R2,rfl,(⟨rfl,hR2⟩|⟨rfl,hR2⟩)⟩
   ·rw [List.append_assoc _ [_] R2,List.singleton_append];refine k_put ?_;refine d109 ?_;refine run_res (((h0++[⟨true,qb,.cells (fbL b pp np cp pt nt ct pk nk ck).toArray 96 (0,0)⟩,⟨true,qm,.cells [.map (some q)].toArray 132 (0,0)⟩,⟨true,qy,.cells [yv].toArray 229 (0,0)⟩,⟨true,qn,.cells [.func (.func 171) #[] [.pointer (some ⟨qb,0,none⟩),.pointer (some ⟨qm,0,none⟩),.pointer (some ⟨qy,0,none⟩),.pointer (some ⟨qn,0,none⟩)].toArray].toArray 230 (0,0)⟩])++X)++(⟨true,q,mapO es2⟩::R2)) rfl Tryz.func171 rfl weakSub ?_;refine hK _ _ ?_;refine ⟨es2,R2,hes2,rfl,.inl ⟨rfl,?_⟩⟩
    rw [List.drop_eq_nil_of_le (by rw [spsOf_length];omega),List.take_of_length_le (by omega),genB_nil,if_pos hc];exact hR2
   ·rw [List.append_assoc _ [_] R2,List.singleton_append];refine k_put ?_;refine d109 ?_;refine run_res (((h0++[⟨true,qb,.cells (fbL b pp np cp pt nt ct pk nk ck).toArray 96 (0,0)⟩,⟨true,qm,.cells [.map (some q)].toArray 132 (0,0)⟩,⟨true,qy,.cells [yv].toArray 229 (0,0)⟩,⟨true,qn,.cells [.func (.func 171) #[] [.pointer (some ⟨qb,0,none⟩),.pointer (some ⟨qm,0,none⟩),.pointer (some ⟨qy,0,none⟩),.pointer (some ⟨qn,0,none⟩)].toArray].toArray 230 (0,0)⟩])++X)++(⟨true,q,mapO es2⟩::R2)) rfl Tryz.func171 rfl weakSub ?_;refine hK _ _ ?_;exact ⟨es2,R2,hes2,rfl,.inr ⟨rfl,hR2⟩⟩
  ·refine d41 ?_;refine d52 ?_;refine k_off rfl rfl ?_;refine d82 ?_
   refine run_res (((h0++[⟨true,qb,.cells (fbL b pp np cp pt nt ct pk nk ck).toArray 96 (0,0)⟩,⟨true,qm,.cells [.map (some q)].toArray 132 (0,0)⟩,⟨true,qy,.cells [yv].toArray 229 (0,0)⟩,⟨true,qn,.cells [.func (.func 171) #[] [.pointer (some ⟨qb,0,none⟩),.pointer (some ⟨qm,0,none⟩),.pointer (some ⟨qy,0,none⟩),.pointer (some ⟨qn,0,none⟩)].toArray].toArray 230 (0,0)⟩])++X)++(⟨true,q,mapO es2⟩::R)) rfl Tryz.func171 rfl weakSub ?_;refine hK _ _ ?_;refine ⟨es2,R,hes2,rfl,.inl ⟨rfl,?_⟩⟩
   rw [List.drop_eq_nil_of_le (by rw [spsOf_length];omega),List.take_of_length_le (by omega),genB_nil,if_neg hc,List.append_nil];exact hR
 ·refine d38 ?_;refine rs9 ?_
  have hok:okPt (b.pts.getD i default):=hpo.ok _ (mem_getDR.2 ⟨i,by omega,rfl⟩)
  unfold okPt at hok
  have hdrop:(spsOf b).drop i=spI b i::(spsOf b).drop (i+1):=by rw [getD_dropR (spsOf b) i (by rw [spsOf_length];omega),spsOf_getD b (by omega)]
  refine d28 ?_;refine mq rfl ?_
  obtain ⟨rdp_b,rdp_o,rfl⟩:=rdp.ptr (by omega)
  refine k_ixs rfl zq (by first|rfl|assumption) (by omega) (by omega) ?_;refine d8 ?_;refine k_ld rfl zq (rdp.fat (v:= .int .i64 (b.pts.getD i default).lo) i 1 (by omega) (by omega) rfl) ?_;refine d53 ?_
  refine run_loop (fun nn l h'=> ∃(j:Nat) (n9:Int) (l1:List Int) (R1:Hp) (es1:Ents),nn=((b.pts.getD i default).hi-(b.pts.getD i default).lo+1).toNat-j∧(n9=((b.pts.getD i default).lo+(j:Int)))∧(j≤((b.pts.getD i default).hi-(b.pts.getD i default).lo+1).toNat)∧(l1.length=np)∧(SmL l1)∧(l1.take i=ln.take i)∧(OkE es1)∧(YI (dn++genBJ b (spI b i) ((spsOf b).drop (i+1)) (ln.take i) j) R1)∧(∃U:Nat→Value,l=((rwV ln)::(.int .i64 (i:Int))::(.pointer (some ⟨qb,0,none⟩))::(.pointer (some ⟨qm,0,none⟩))::(.pointer (some ⟨qy,0,none⟩))::(.pointer (some ⟨qn,0,none⟩))::(.pointer (some ⟨q6,0,none⟩))::(U 7)::(U 8)::(.int .i64 n9)::vw45 U 10 []))∧(((h0++[⟨true,qb,.cells (fbL b (some ⟨rdp_b,rdp_o,none⟩) np cp pt nt ct pk nk ck).toArray 96 (0,0)⟩,⟨true,qm,.cells [.map (some q)].toArray 132 (0,0)⟩,⟨true,qy,.cells [yv].toArray 229 (0,0)⟩,⟨true,qn,.cells [.func (.func 171) #[] [.pointer (some ⟨qb,0,none⟩),.pointer (some ⟨qm,0,none⟩),.pointer (some ⟨qy,0,none⟩),.pointer (some ⟨qn,0,none⟩)].toArray].toArray 230 (0,0)⟩])++X)++[⟨true,q6,.cells (rws l1).toArray 98 (0,0)⟩])++(⟨true,q,mapO es1⟩::R1)=h') _ ⟨0,_,ln,R,es,rfl,by exact (Int.add_zero _).symm,by omega,hln,hsm,rfl,hes,by rw [genBJ_zero,List.append_nil];exact hR,exU rfl,rfl⟩ ?_;rintro nn l h' ⟨j,n9,l1,R1,es1,rfl,rfl,hj,hl1,hs1,ht1,hes1,hR1,⟨U,rfl⟩,rfl⟩ hnext1;refine run_seq ?_;refine rs10 ?_;refine mq rfl ?_;refine d28 ?_;refine d39 ?_;refine d8 ?_;refine k_ld rfl zq (rdp.fat (v:= .int .i64 (b.pts.getD i default).hi) i 2 (by omega) (by omega) rfl) ?_;refine k_leqS rfl zq (fun hc=>?_) (fun hc=>?_)
  ·refine d94 ?_;refine rs4 ?_
   have hgs:=genBJ_succ b (spI b i) ((spsOf b).drop (i+1)) (ln.take i) j (by show j<((b.pts.getD i default).hi-(b.pts.getD i default).lo+1).toNat;omega)
   haveI hss:=setSeg_rwsL (n:=((b.pts.getD i default).lo+(j:Int))) (show l1.length≤5 by omega) (show i<l1.length by omega)
   have htk:(l1.set i ((b.pts.getD i default).lo+(j:Int))).take i=ln.take i:=by rw [List.take_set_of_le (Nat.le_refl _),ht1]
   have hsS:SmL (l1.set i ((b.pts.getD i default).lo+(j:Int))):=sml_set hs1 (by omega)
   refine d125 ?_;refine d74 ?_;refine rs6 ?_;refine k_ldh rfl zq ?_;refine k_ldA rfl zq ?_;refine d4 ?_
   have hrec:=ih (d-1) (by omega) (i+1) (l1.set i ((b.pts.getD i default).lo+(j:Int))) (dn++genBJ b (spI b i) ((spsOf b).drop (i+1)) (ln.take i) j) (X++[⟨true,q6,.cells (rws (l1.set i ((b.pts.getD i default).lo+(j:Int)))).toArray 98 (0,0)⟩]) R1 es1 hes1 (by omega) (by simp [hl1]) hsS (by
    intro k hk
    rw [getD_set _ _ _ _ (by omega)];by_cases e:k=i
    ·subst e
     rw [if_pos rfl];omega
    ·rw [if_neg e];have h3:=hsp k (by omega)
     have h4:l1.getD k 0=ln.getD k 0:=by
      have:=congrArg (fun l:List Int=>l[k]?) ht1
      simp only [List.getElem?_take,if_pos (show k<i by omega)] at this
      rw [List.getD_eq_getElem?_getD,List.getD_eq_getElem?_getD,this]
     rw [h4];exact h3) (by
    rw [take_set (by omega),ht1,List.length_append];have h1:=genBJ_le b (spI b i) ((spsOf b).drop (i+1)) (ln.take i) (j+1)
    rw [hgs,List.length_append] at h1
    rw [hdrop] at hdn
    have h2:(genB b (List.drop (i+1) (spsOf b)) (List.take i ln++[((b.pts.getD i default).lo+(j:Int))])).length=(genB b (List.drop (i+1) (spsOf b)) (List.take i ln++[((spI b i)).lo+(j:Int)])).length:=rfl
    omega) hR1
   rw [show ((i+1:Nat):Int)=(i:Int)+1 by omega,←List.append_assoc (h0++_) X] at hrec
   have hcv:=CallV.fn' (first:= #[]) (args:=[rwV (l1.set i ((b.pts.getD i default).lo+(j:Int))),.int .i64 ((i:Int)+1)]) (cap:=[Value.pointer (some ⟨qb,0,none⟩),Value.pointer (some ⟨qm,0,none⟩),Value.pointer (some ⟨qy,0,none⟩),Value.pointer (some ⟨qn,0,none⟩)].toArray) callB171 (by simp) hrec
   refine k_callV rfl zq hcv ?_;clear hcv hrec
   rintro v h' ⟨es2,R2,hes2,rfl,(⟨rfl,hR2⟩|⟨rfl,hR2⟩)⟩
   ·rw [take_set (by omega),ht1] at hR2
    refine d40 ?_;refine d13 ?_;refine d110 ?_
    exact m.weak weakSub (hnext1 _ _ _ (by omega) ⟨j+1,_,l1.set i ((b.pts.getD i default).lo+(j:Int)),R2,es2,rfl,by omega,by omega,by simp [hl1],hsS,htk,hes2,by rw [hgs,←List.append_assoc];exact hR2,exU rfl,rfl⟩)
   ·refine d41 ?_;refine d58 ?_
    refine run_res (((h0++[⟨true,qb,.cells (fbL b (some ⟨rdp_b,rdp_o,none⟩) np cp pt nt ct pk nk ck).toArray 96 (0,0)⟩,⟨true,qm,.cells [.map (some q)].toArray 132 (0,0)⟩,⟨true,qy,.cells [yv].toArray 229 (0,0)⟩,⟨true,qn,.cells [.func (.func 171) #[] [.pointer (some ⟨qb,0,none⟩),.pointer (some ⟨qm,0,none⟩),.pointer (some ⟨qy,0,none⟩),.pointer (some ⟨qn,0,none⟩)].toArray].toArray 230 (0,0)⟩])++X)++(⟨true,q,mapO es2⟩::R2)) rfl Tryz.func171 rfl weakSub ?_;refine hK _ _ ?_;exact ⟨es2,R2,hes2,rfl,.inr ⟨rfl,hR2⟩⟩
  ·refine d67 ?_;refine d37 ?_
   refine run_res (((h0++[⟨true,qb,.cells (fbL b (some ⟨rdp_b,rdp_o,none⟩) np cp pt nt ct pk nk ck).toArray 96 (0,0)⟩,⟨true,qm,.cells [.map (some q)].toArray 132 (0,0)⟩,⟨true,qy,.cells [yv].toArray 229 (0,0)⟩,⟨true,qn,.cells [.func (.func 171) #[] [.pointer (some ⟨qb,0,none⟩),.pointer (some ⟨qm,0,none⟩),.pointer (some ⟨qy,0,none⟩),.pointer (some ⟨qn,0,none⟩)].toArray].toArray 230 (0,0)⟩])++X)++(⟨true,q,mapO es1⟩::R1)) rfl Tryz.func171 rfl weakSub ?_;refine hK _ _ ?_;refine ⟨es1,R1,hes1,rfl,.inl ⟨rfl,?_⟩⟩
   rw [hdrop,←genBJ_full _ _ _ _ j (by show ((b.pts.getD i default).hi-(b.pts.getD i default).lo+1).toNat≤j;omega)];exact hR1
theorem weak161 {B:Array Obj} (h0 R:Hp) (a y M c f:Chunk):Weak B ((h0++R)++[a,y,M,c,f]) (((h0++[a,c,y,f])++[])++(M::R)):=Weak.perm (by
 rw [List.append_nil,List.append_assoc,List.append_assoc];refine List.Perm.append_left h0 ?_
 refine List.perm_append_comm.trans ?_
 have:[a,y,M,c,f].Perm ([a,c,y,f]++[M]):= .cons a ((List.perm_middle (l₁:=[y,M]) (a:=c) (l₂:=[f])).trans (.cons c (.cons y (.swap f M []))))
 refine (List.Perm.append_right R this).trans ?_
 rw [List.append_assoc];exact List.Perm.refl _)
theorem f128_c (m:Md Tryz.prog B) {h0:Hp} (rdp:RdS B h0 3 (.slice pp np cp) np (encs b.pts)) (hp:np≤1000) (rdt:RdS B h0 4 (.slice pt nt ct) nt (encs b.tapes)) (ht:nt≤1000) (rdk:RdS B h0 3 (.slice pk nk ck) nk (encs b.sticks)) (hk:nk≤1000) (hv:FOk b) {yv:Value} [CellsV yv [yv]] {YI:List (List Int)→Hp→Prop} {YS:Hp→Prop} (hY:EachF m h0 b yv YI YS) {R:Hp} (hR:YI [] R):
  FnC m 128 #[fbV b pp np cp pt nt ct pk nk ck,yv] (h0++R) fun v h'=>v= .tuple [].toArray∧ ∃R',h'=h0++R'∧(YI (boatsOf b) R'∨YS R'):=by
 have hml:=rdp.elen (by decide)
 have hpo:=hv.pts
 have hv1:=hpo.five
 refine fn_enter Tryz.func128 rfl rfl (l:=(fbV b pp np cp pt nt ct pk nk ck)::yv::uu9) rfl ?_
 intro cf cs K hK
 refine rs2 ?_;refine k_box rfl zq (fun q2=>k_hp (k_put ?_));refine k_box rfl zq (fun q3=>k_hp (k_put ?_));refine k_nil ?_;refine rs3 ?_;refine k_mkmap rfl zq (fun qM=>k_hp (k_put ?_));refine k_new rfl zq (fun q4=>k_hp (k_put ?_));refine d74 ?_;refine rs1 ?_
 refine k_new rfl zq (fun q5=>k_hp (k_put ?_));refine k_nil ?_;refine rs2 ?_;refine k_fun rfl zq ?_;refine d74 ?_;refine rr3 ?_;refine k_ldh rfl zq ?_;refine k_bldZ rfl zq ?_;refine k_weak (weak161 h0 R _ _ _ _ _) ?_;have hw:=f171_c m (pt:=pt) (ct:=ct) (pk:=pk) (ck:=ck) rdp hp rdt ht rdk hk hv hY q2 q4 q3 q5 qM np 0 (List.replicate np 0) [] [] R [] OkE.nil (by omega) (by simp) (fun j=>by rw [List.getD_eq_getElem?_getD,List.getElem?_replicate];split<;>simp) (fun k hk=>by omega) (by
  have h1:=boatsOf_le hpo
  simp only [List.drop_zero,List.take_zero,List.length_nil,genB_all]
  omega) hR
 rw [show rwV (List.replicate np 0)= .agg [.int .i64 0,.int .i64 0,.int .i64 0,.int .i64 0,.int .i64 0].toArray by rw [rwV,rws_rep (by omega)]] at hw
 simp only [List.drop_zero,List.take_zero,List.nil_append,genB_all] at hw
 have hcv:=CallV.fn' (first:= #[]) (args:=[.agg [.int .i64 0,.int .i64 0,.int .i64 0,.int .i64 0,.int .i64 0].toArray,.int .i64 0]) (cap:=[Value.pointer (some ⟨q2,0,none⟩),Value.pointer (some ⟨q4,0,none⟩),Value.pointer (some ⟨q3,0,none⟩),Value.pointer (some ⟨q5,0,none⟩)].toArray) callB171 (by simp) hw
 refine k_callV rfl zq hcv ?_;clear hcv hw
 rintro v h' ⟨es2,R2,hes2,rfl,hh⟩;refine d124 ?_;refine run_end rfl ?_
 refine run_res (h0++R2) rfl Tryz.func128 rfl weakSub ?_;refine hK _ _ ?_;exact ⟨rfl,R2,rfl,hh.elim (fun h=> .inl h.2) (fun h=> .inr h.2)⟩
instance {a:List Value}:AppL a [] a:=⟨List.append_nil a⟩
theorem weak_pre {B:Array Obj} {h A X:Hp} (e:h=A++X):Weak B h A:=e▸Weak.sub (List.sublist_append_left _ _)
theorem encs_one1 {l:List Int}:encs [l]=rws l:=by simp [encs,Enc.enc]
theorem f75_c (m:Md Tryz.prog B) (h:Hp) (rdp:Rp B h b pp np cp) (hp:np≤1000) (rdt:Rt B h b pt nt ct) (ht:nt≤1000) (rdk:Rk B h b pk nk ck) (hk:nk≤1000) (hv:FOk b):FnC m 75 #[fbV b pp np cp pt nt ct pk nk ck] h fun v h'=> ∃nw,h'=h++nw∧OwnS 98 5 v (boatsOf b).length (encs (boatsOf b)) nw:=by
 have hml:=rdp.elen (by decide)
 have hpo:=hv.pts
 refine fn_enter Tryz.func75 rfl rfl (l:=(fbV b pp np cp pt nt ct pk nk ck)::uu12) rfl ?_
 intro cf cs K hK
 refine rs2 ?_;refine k_box rfl zq (fun q1=>k_hp (k_put ?_));refine aq rfl ?_;refine rs1 ?_
 refine k_new rfl zq (fun q3=>k_hp (k_put ?_));refine d24 ?_;refine d114 ?_;refine k_fun rfl zq ?_;refine d61 ?_
 refine run_rangeF rfl rfl (by kernel_rfl) (fun q11 q12=>?_);generalize hrec:lrec _ _ _ _ _ _ LoopState.ready=rec0
 have hY:EachF m h b (.func (.yield q12) #[] #[]) (fun dn R=> ∃bp bc nw,R=[⟨true,q1,.cells (fbL b pp np cp pt nt ct pk nk ck).toArray 96 (0,0)⟩,⟨true,q3,.cells [.slice bp dn.length bc].toArray 136 (0,0)⟩,⟨true,q11,.deferred (some [])⟩,⟨true,q12,rec0⟩]++nw∧OwnS 98 5 (.slice bp dn.length bc) dn.length (encs dn) nw) (fun _=>False):=?hY
 rotate_left
 intro F R dn ln hF hln hdn hR
 obtain ⟨bp,bc,nw,rfl,ho⟩:=hR
 subst hrec
 haveI hsF:SubH h F:=⟨hF⟩
 refine CallV.yield (rw:=true) (q1:=q11) (st:= .ready) (List.mem_append_right _ (List.mem_append_left _ (List.mem_cons_of_mem _ (List.mem_cons_of_mem _ (List.mem_cons_of_mem _ List.mem_cons_self))))) rfl (by simp;rfl) ?_
 intro cf2 cs2 K2 hK2
 ·refine rr2 ?_;refine k_new rfl zq (fun q4=>k_hp (k_put ?_));refine k_stA rfl zq (by first|rfl|exact rws_length _) ?_;refine k_nil ?_;apply run_beginRound (F:=F++[⟨true,q1,.cells (fbL b pp np cp pt nt ct pk nk ck).toArray 96 (0,0)⟩,⟨true,q3,.cells [.slice bp dn.length bc].toArray 136 (0,0)⟩,⟨true,q11,.deferred (some [])⟩]) (E:=nw++[⟨true,q4,.cells (rws ln).toArray 98 (0,0)⟩])
  case hh=>
   simp only [List.append_assoc,List.cons_append,List.nil_append]
   rfl
  generalize hbz:lrec _ _ _ _ _ _ LoopState.busy=rec1
  refine run_block ?_;refine rr5 ?_;refine k_ldh rfl zq ?_;refine k_ldA rfl zq ?_;refine k_bs kdq rfl zq (by decide) (by decide) rfl (fun q10=>k_hp (k_put ?_));refine k_appW (F:=F++[⟨true,q1,.cells (fbL b pp np cp pt nt ct pk nk ck).toArray 96 (0,0)⟩,⟨true,q3,.cells [.slice bp dn.length bc].toArray 136 (0,0)⟩,⟨true,q11,.deferred (some [])⟩,⟨true,q12,rec1⟩]) rfl zq (by simp [rws_length]) ho (weak_pre (X:=[⟨true,q4,.cells (rws ln).toArray 98 (0,0)⟩,⟨true,q10,.cells (rws ln).toArray 98 (0,0)⟩]) (by simp)) (.inl rfl) (by omega) (by omega) (fun w19 nw2 ho2=>k_put ?_);obtain ⟨bp2,bc2,rfl,_⟩:=ho2.len
  have e1:dn.length+1=(dn++[ln]).length:=by simp
  have e2:encs dn++rws ln=encs (dn++[ln]):=by rw [encs_append,encs_one1]
  rw [e2,e1] at ho2
  rw [e1];refine d74 ?_;refine run_inBlock ?_
  subst hbz
  apply run_endRound (F:=F++[⟨true,q1,.cells (fbL b pp np cp pt nt ct pk nk ck).toArray 96 (0,0)⟩,⟨true,q3,.cells [.slice bp2 (dn++[ln]).length bc2].toArray 136 (0,0)⟩,⟨true,q11,.deferred (some [])⟩]) (E:=nw2)
  case hh=>
   simp only [List.append_assoc,List.cons_append,List.nil_append]
   rfl
  rw [show F++[⟨true,q1,.cells (fbL b pp np cp pt nt ct pk nk ck).toArray 96 (0,0)⟩,⟨true,q3,.cells [.slice bp2 (dn++[ln]).length bc2].toArray 136 (0,0)⟩,⟨true,q11,.deferred (some [])⟩]++(_::nw2)=F++([⟨true,q1,.cells (fbL b pp np cp pt nt ct pk nk ck).toArray 96 (0,0)⟩,⟨true,q3,.cells [.slice bp2 (dn++[ln]).length bc2].toArray 136 (0,0)⟩,⟨true,q11,.deferred (some [])⟩,_]++nw2) by simp;rfl];exact hK2 _ _ ⟨_,rfl,.inl ⟨rfl,_,_,nw2,rfl,ho2⟩⟩
 ·have hl:=f128_c m (b:=b) rdp hp rdt ht rdk hk hv hY (R:=[⟨true,q1,.cells (fbL b pp np cp pt nt ct pk nk ck).toArray 96 (0,0)⟩,⟨true,q3,.cells [.slice none 0 0].toArray 136 (0,0)⟩,⟨true,q11,.deferred (some [])⟩,⟨true,q12,rec0⟩]) ⟨none,0,[],by simp,OwnS.nil⟩
  rw [show h++[⟨true,q1,.cells (fbL b pp np cp pt nt ct pk nk ck).toArray 96 (0,0)⟩,⟨true,q3,.cells [.slice none 0 0].toArray 136 (0,0)⟩,⟨true,q11,.deferred (some [])⟩,⟨true,q12,rec0⟩]=h++[⟨true,q1,.cells (fbL b pp np cp pt nt ct pk nk ck).toArray 96 (0,0)⟩,⟨true,q3,.cells [.slice none 0 0].toArray 136 (0,0)⟩]++[⟨true,q11,.deferred (some [])⟩,⟨true,q12,rec0⟩] by simp] at hl
  refine CallF.mono hl ?_
  rintro v h' ⟨rfl,R',rfl,(⟨bp,bc,nw,rfl,ho⟩|hF)⟩;case inr=>exact hF.elim
  subst hrec
  apply run_endRange (F:=h++[⟨true,q1,.cells (fbL b pp np cp pt nt ct pk nk ck).toArray 96 (0,0)⟩,⟨true,q3,.cells [.slice bp (boatsOf b).length bc].toArray 136 (0,0)⟩,⟨true,q11,.deferred (some [])⟩]) (E:=nw)
  case hh=>
   simp only [List.append_assoc,List.cons_append,List.nil_append]
   rfl
  case hst=>exact .inl rfl
  refine run_inBlock ?_;refine rs2 ?_;refine k_ldh rfl zq ?_;refine d0 ?_;refine run_collected (F:=h++[⟨true,q1,.cells (fbL b pp np cp pt nt ct pk nk ck).toArray 96 (0,0)⟩,⟨true,q3,.cells [.slice bp (boatsOf b).length bc].toArray 136 (0,0)⟩]) (E:=nw) (by simp) ?_;refine run_res (h++nw) rfl Tryz.func75 rfl weakSub ?_;refine hK _ _ ?_;exact ⟨nw,rfl,ho⟩
theorem f89_c (m:Md Tryz.prog B) (h:Hp) (rdp:Rp B h b pp np cp) (hp:np≤1000) (rdt:Rt B h b pt nt ct) (ht:nt≤1000) (rdk:Rk B h b pk nk ck) (hk:nk≤1000) (hv:FOk b):FnC m 89 #[fbV b pp np cp pt nt ct pk nk ck] h fun v h'=>h'=h∧IsB (boatsOf b≠[]) v:=by
 have hml:=rdp.elen (by decide)
 have hpo:=hv.pts
 refine fn_enter Tryz.func89 rfl rfl (l:=[fbV b pp np cp pt nt ct pk nk ck,undef,undef,undef,undef,undef]) rfl ?_
 intro cf cs K hK
 refine rs2 ?_;refine k_box rfl zq (fun q1=>k_hp (k_put ?_));refine k_new rfl zq (fun q2=>k_hp (k_put ?_));refine d24 ?_;refine d114 ?_;refine k_fun rfl zq ?_;refine d61 ?_
 refine run_rangeF rfl rfl (by kernel_rfl) (fun q11 q12=>?_);generalize hrec:lrec _ _ _ _ _ _ LoopState.ready=rec0
 have hY:EachF m h b (.func (.yield q12) #[] #[]) (fun dn R=>dn=[]∧R=[⟨true,q1,.cells (fbL b pp np cp pt nt ct pk nk ck).toArray 96 (0,0)⟩,⟨true,q2,.cells [.bool false].toArray 4 (0,0)⟩,⟨true,q11,.deferred (some [])⟩,⟨true,q12,rec0⟩]) (fun R=>boatsOf b≠[]∧ ∃fn9 l9 ps9 a9 c9,R=[⟨true,q1,.cells (fbL b pp np cp pt nt ct pk nk ck).toArray 96 (0,0)⟩,⟨true,q2,.cells [.bool true].toArray 4 (0,0)⟩,⟨true,q11,.deferred (some [])⟩,⟨true,q12,lrecD fn9 l9 ps9 a9 c9 q11⟩]):=?hY
 rotate_left
 intro F R dn ln hF hln hdn hR
 obtain ⟨rfl,rfl⟩:=hR
 subst hrec
 haveI hsF:SubH h F:=⟨hF⟩
 refine CallV.yield (rw:=true) (q1:=q11) (st:= .ready) (List.mem_append_right _ (List.mem_cons_of_mem _ (List.mem_cons_of_mem _ (List.mem_cons_of_mem _ List.mem_cons_self)))) rfl (by simp;rfl) ?_
 intro cf2 cs2 K2 hK2
 ·refine run_skip ?_;apply run_beginRound (F:=F++[⟨true,q1,.cells (fbL b pp np cp pt nt ct pk nk ck).toArray 96 (0,0)⟩,⟨true,q2,.cells [.bool false].toArray 4 (0,0)⟩,⟨true,q11,.deferred (some [])⟩]) (E:=[])
  case hh=>
   simp only [List.append_assoc,List.cons_append,List.nil_append]
   rfl
  generalize hbz:lrec _ _ _ _ _ _ LoopState.busy=rec1
  refine run_block ?_;refine rs1 ?_;refine d74 ?_;subst hbz
  apply run_retRound (F:=F++[⟨true,q1,.cells (fbL b pp np cp pt nt ct pk nk ck).toArray 96 (0,0)⟩,⟨true,q2,.cells [.bool true].toArray 4 (0,0)⟩,⟨true,q11,.deferred (some [])⟩]) (E:=[])
  case hh=>
   simp only [List.append_assoc,List.cons_append,List.nil_append]
   rfl
  rw [List.append_assoc];exact hK2 _ _ ⟨_,rfl,.inr ⟨rfl,(fun e=>by rw [e] at hln;cases hln),_,_,_,_,_,rfl⟩⟩
 ·have hl:=f128_c m (b:=b) rdp hp rdt ht rdk hk hv hY (R:=[⟨true,q1,.cells (fbL b pp np cp pt nt ct pk nk ck).toArray 96 (0,0)⟩,⟨true,q2,.cells [.bool false].toArray 4 (0,0)⟩,⟨true,q11,.deferred (some [])⟩,⟨true,q12,rec0⟩]) ⟨rfl,rfl⟩
  rw [show h++[⟨true,q1,.cells (fbL b pp np cp pt nt ct pk nk ck).toArray 96 (0,0)⟩,⟨true,q2,.cells [.bool false].toArray 4 (0,0)⟩,⟨true,q11,.deferred (some [])⟩,⟨true,q12,rec0⟩]=h++[⟨true,q1,.cells (fbL b pp np cp pt nt ct pk nk ck).toArray 96 (0,0)⟩,⟨true,q2,.cells [.bool false].toArray 4 (0,0)⟩]++[⟨true,q11,.deferred (some [])⟩,⟨true,q12,rec0⟩] by simp] at hl
  refine CallF.mono hl ?_
  rintro v h' ⟨rfl,R',rfl,(⟨hbo,rfl⟩|⟨hbo,fn9,l9,ps9,a9,c9,rfl⟩)⟩
  ·subst hrec
   apply run_endRange (F:=h++[⟨true,q1,.cells (fbL b pp np cp pt nt ct pk nk ck).toArray 96 (0,0)⟩,⟨true,q2,.cells [.bool false].toArray 4 (0,0)⟩,⟨true,q11,.deferred (some [])⟩]) (E:=[])
   case hh=>
    simp only [List.append_assoc,List.cons_append,List.nil_append]
    rfl
   case hst=>exact .inl rfl
   refine run_inBlock ?_;refine rs1 ?_;refine d74 ?_;refine run_ret rfl ?_;refine run_collected (F:=h++[⟨true,q1,.cells (fbL b pp np cp pt nt ct pk nk ck).toArray 96 (0,0)⟩,⟨true,q2,.cells [.bool false].toArray 4 (0,0)⟩]) (E:=[]) (by simp) ?_;refine run_res (h) rfl Tryz.func89 rfl weakSub ?_;refine hK _ _ ?_;first|exact ⟨rfl,IsB.yes hbo⟩|exact ⟨rfl,IsB.no fun e=>e hbo⟩
  ·apply run_endRangeR (F:=h++[⟨true,q1,.cells (fbL b pp np cp pt nt ct pk nk ck).toArray 96 (0,0)⟩,⟨true,q2,.cells [.bool true].toArray 4 (0,0)⟩,⟨true,q11,.deferred (some [])⟩]) (E:=[])
   case hh=>
    simp only [List.append_assoc,List.cons_append,List.nil_append]
    rfl
   refine run_ret rfl ?_;refine run_collected (F:=h++[⟨true,q1,.cells (fbL b pp np cp pt nt ct pk nk ck).toArray 96 (0,0)⟩,⟨true,q2,.cells [.bool true].toArray 4 (0,0)⟩]) (E:=[]) (by simp) ?_;refine run_res (h) rfl Tryz.func89 rfl weakSub ?_;refine hK _ _ ?_;first|exact ⟨rfl,IsB.yes hbo⟩|exact ⟨rfl,IsB.no fun e=>e hbo⟩
end Go.Proofs
