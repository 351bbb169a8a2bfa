/- A part of the proof of a law: my own separation logic over the machine, and walks of the program. Condition of each theorem: as its statement says. -/
import Derived.Test.YtnejmahckmhflaaGreatDoorWB9
set_option linter.all false
namespace Go.Proofs
open Go.Lo
open Go.Conc (G)
set_option maxRecDepth 100000
set_option synthInstance.maxHeartbeats 1000000
section
variable {P:Program} {B:Array Obj} {m:Md P B} {ops:Array Oper} {l l':List Value} {S h h' H:Hp} {C:List Value→Hp→Prop} {i:Nat} {kd:Kd} {r:List (Nat×Kd)}
 {d:Option Tmp} {ty:TypeId} {pos:String} {af:Array Edge} {g:Option (Nat×Bool)}
theorem reads_eqBoolK {t:TypeId} (hb:P.underlying t=some .bool) (a c:Bool):Reads P B (Op.equal t (.bool a) (.bool c)) H (a==c):=by
 show Reads P B (Op.equalIn 10000 t (.bool a) (.bool c)) H (a==c)
 unfold Op.equalIn
 exact Reads.bind (still_und hb).reads (Reads.pure _)
theorem k_eqBT {t u:TypeId} {x y:Operand} {a c:Bool} (ho:ops[i]?=some ⟨d,.binOp .eql t x y u,ty,pos,af,g⟩) (hw:Wt ops l g) (hb:P.underlying t=some .bool) [KHeap kd S h H] [ex:OpV l x (.bool a)] [ey:OpV l y (.bool c)] (e:a=c) [PutV l d (.bool true) l'] (q:RegK m S ops r l' h C):RegK m S ops ((i,kd)::r) l h C:=
 RegK.rd (v:= .bool true) ho hw (by
  subst e
  simp only [execOp,ex.eq,ey.eq]
  refine Reads.value (Reads.bind (a:=()) (Reads.pure _) ?_)
  show Reads P B (Op.equal t (.bool a) (.bool a)>>=fun b=>pure (Value.bool b)) H _
  have:=reads_eqBoolK (P:=P) (B:=B) (H:=H) hb a a
  rw [beq_self_eq_true] at this
  exact Reads.bind this (Reads.pure _)) q
end
theorem isB_bool {p:Prop} {v:Value} (h:IsB p v): ∃t,v= .bool t:=by rcases h with ⟨_,e⟩|⟨_,e⟩<;>exact ⟨_,e⟩
theorem isB_uniq {p:Prop} {v w:Value} (h:IsB p v) (k:IsB p w):v=w:=by
 rcases h with ⟨a,rfl⟩|⟨a,rfl⟩<;>rcases k with ⟨b,rfl⟩|⟨b,rfl⟩
 ·rfl
 ·exact absurd a b
 ·exact absurd b a
 ·rfl
end Go.Proofs
namespace Go.Proofs
open Go.Lo
open Go.Conc (G)
set_option maxRecDepth 100000
set_option synthInstance.maxSize 100000
set_option synthInstance.maxHeartbeats 1000000
set_option maxHeartbeats 4000000
variable {b:Fb} {pp:Option Addr} {np cp:Nat} {pt:Option Addr} {nt ct:Nat} {pk:Option Addr} {nk ck:Nat}
variable {B:Array Obj}
theorem root_step {n k s:Nat} (h1:k*k≤n) (h2:n<(k+2*s)*(k+2*s)):(((k+s)*(k+s)≤n)→(k+s)*(k+s)≤n∧n<(k+s+s)*(k+s+s))∧(¬(k+s)*(k+s)≤n→k*k≤n∧n<(k+s)*(k+s)):=
 ⟨fun h=>⟨h,by rw [show k+s+s=k+2*s by omega];exact h2⟩,fun h=>⟨h1,by omega⟩⟩
theorem sum_cast (k s:Nat):((k:Int)+(s:Int))*((k:Int)+(s:Int))=(((k+s)*(k+s):Nat):Int):=by rw [Int.natCast_mul];rfl
theorem half_pow {s e:Nat} (hs:s=2^(e-1)) (h1:1≤e) (h2:e≤21):(s/2=0∧s=1∧e-1=0)∨(s=2*(s/2)∧s/2=2^(e-1-1)∧1≤e-1∧e-1≤21):=by
 by_cases he:e=1
 ·subst he
  subst hs
  exact .inl (by decide)
 ·obtain ⟨d,rfl⟩: ∃d,e=d+2:=⟨e-2,by omega⟩
  have:2^(d+2-1)=2*2^d:=by rw [show d+2-1=d+1 by omega,Nat.pow_succ,Nat.mul_comm]
  rw [hs,this];exact .inr ⟨by omega,by rw [show d+2-1-1=d by omega];omega,by omega,by omega⟩
theorem f85_c (m:Md Tryz.prog B) (h:Hp) (n:Nat) (hn:n≤4000000):FnC m 85 #[.int .i64 (n:Int)] h fun v h'=>h'=h∧v= .int .i64 (rootI n):=by
 refine fn_enter Tryz.func85 rfl rfl (l:=(.int .i64 (n:Int))::uu21) rfl ?_
 intro cf cs K hK
 refine d82 ?_;refine d93 ?_;refine d142 ?_
 refine run_loop (fun nn l h'=> ∃(k s w:Nat) (e:Nat),nn=e*1∧(k*k≤n)∧(n<(k+w)*(k+w))∧(k≤2000)∧((s=0∧w=1∧e=0)∨(w=2*s∧s=2^(e-1)∧1≤e∧e≤21))∧(∃U:Nat→Value,l=((.int .i64 (n:Int))::(U 1)::(U 2)::(.int .i64 (k:Int))::(.int .i64 (s:Int))::vw17 U 5 []))∧h=h') _ ⟨0,1048576,2097152,21,rfl,by omega,by omega,by omega,.inr (by decide),exU rfl,rfl⟩ ?_;rintro nn l h' ⟨k,s,w,e,rfl,hk,hkw,hk2,hse,⟨U,rfl⟩,rfl⟩ hnext;have hs20:s≤1048576:=by
  rcases hse with ⟨rfl,_⟩|⟨_,rfl,_,he⟩
  ·omega
  ·exact Nat.pow_le_pow_right (n:=2) (by omega) (show e-1≤20 by omega)
 have hsq:(k+s)*(k+s)≤1100000*1100000:=sq_le (by omega)
 have hkc:=sum_cast k s
 refine run_seq ?_;refine d18 ?_;refine k_gtrS rfl zq (fun hc=>?_) (fun hc=>?_)
 ·refine d98 ?_;refine rs9 ?_;refine d3 ?_;refine k_add rfl zq (by unfold In64;omega) ?_;refine d3 ?_;refine k_add rfl zq (by unfold In64;omega) ?_;refine k_mul rfl zq (by unfold In64;omega) ?_;refine mq rfl ?_
  refine k_leqS rfl zq (fun hc=>?_) (fun hc=>?_)
  ·refine d7 ?_;refine rr4 ?_;refine d3 ?_;refine k_add rfl zq (by unfold In64;omega) ?_;refine d45 ?_;refine rr3 ?_;refine mq rfl ?_
   refine k_quo s 2 rfl zq rfl rfl (by omega) (by omega) ?_;refine aq rfl ?_
   obtain ⟨rfl,hs,he1,he2⟩:=hse.resolve_left (by omega)
   have hrs:=(root_step hk hkw).1 (by omega)
   have hk2000:k+s≤2000:=by
    rcases Nat.lt_or_ge 2000 (k+s) with h3|h3
    ·have:=sq_le (show 2001≤k+s by omega);omega
    ·exact h3
   exact m.weak weakSub (hnext _ _ _ (by rcases hse with ⟨_,_,_⟩|⟨_,_,_,_⟩<;>omega) ⟨k+s,s/2,s,e-1,rfl,hrs.1,hrs.2,hk2000,half_pow hs he1 he2,exU rfl,rfl⟩)
  ·refine d13 ?_;refine d62 ?_;refine mq rfl ?_
   refine k_quo s 2 rfl zq rfl rfl (by omega) (by omega) ?_;refine aq rfl ?_
   obtain ⟨rfl,hs,he1,he2⟩:=hse.resolve_left (by omega)
   have hrs:=(root_step hk hkw).2 (by omega)
   exact m.weak weakSub (hnext _ _ _ (by rcases hse with ⟨_,_,_⟩|⟨_,_,_,_⟩<;>omega) ⟨k,s/2,s,e-1,rfl,hrs.1,hrs.2,hk2,half_pow hs he1 he2,exU rfl,rfl⟩)
 ·refine d75 ?_;refine d99 ?_
  refine run_res (h) rfl Tryz.func85 rfl weakSub ?_;refine hK _ _ ?_;obtain rfl:s=0:=by omega
  obtain ⟨_,rfl,_⟩:=hse.resolve_right (by rintro ⟨h1,h2,h3,_⟩;have:=Nat.pow_pos (n:=e-1) (show 0<2 by omega);omega)
  refine ⟨rfl,?_⟩
  rw [show rootI (n:Int)=(k:Int) by rw [rootI,Int.toNat_natCast,rootN_eq hk hkw]]
theorem f97_c (m:Md Tryz.prog B) (h:Hp) (f t:Int) (hp:np≤1000):FnC m 97 #[fbV b pp np cp pt nt ct pk nk ck,.int .i64 f,.int .i64 t] h fun v h'=>h'=h∧v= .int .i64 (ordS np f t):=by
 refine fn_enter Tryz.func97 rfl rfl (l:=(fbV b pp np cp pt nt ct pk nk ck)::(.int .i64 f)::(.int .i64 t)::uu17) rfl ?_
 intro cf cs K hK
 refine rs2 ?_;refine k_box rfl zq (fun q3=>k_hp (k_put ?_));refine d12 ?_;refine rs10 ?_;refine d69 ?_
 refine k_calP (Post:=fun v=>IsB _ v) rfl zq (by kernel_rfl) (fun H' hH=>f115_c m H' _ hp) ?_;rintro v (⟨hc,rfl⟩|⟨hc,rfl⟩)
 ·refine d43 ?_;refine mq rfl ?_;refine k_ldA rfl rfl ?_;refine k_mv rfl rfl ?_
  refine k_calP (Post:=fun v=>IsB _ v) rfl rfl (by kernel_rfl) (fun H' hH=>f115_c m H' _ hp) ?_;rintro v (⟨hc,rfl⟩|⟨hc,rfl⟩)
  ·refine d84 ?_;refine k_pickF rfl zq ?_;refine d37 ?_;refine rs3 ?_;refine d3 ?_
   refine k_geqS rfl zq (fun hc=>?_) (fun hc=>?_)
   ·refine d58 ?_
    refine run_res (h) rfl Tryz.func97 rfl weakSub ?_;refine hK _ _ ?_;refine ⟨rfl,?_⟩
    unfold ordS
    first|rw [if_pos (by first|exact .inl (by assumption)|exact .inr (by assumption))]|rw [if_neg (by rintro (e|e)<;>contradiction),if_pos (by omega)]|rw [if_neg (by rintro (e|e)<;>contradiction),if_neg (by omega)]
   ·refine d13 ?_;refine d38 ?_
    refine run_res (h) rfl Tryz.func97 rfl weakSub ?_;refine hK _ _ ?_;refine ⟨rfl,?_⟩
    unfold ordS
    first|rw [if_pos (by first|exact .inl (by assumption)|exact .inr (by assumption))]|rw [if_neg (by rintro (e|e)<;>contradiction),if_pos (by omega)]|rw [if_neg (by rintro (e|e)<;>contradiction),if_neg (by omega)]
  ·refine d100 ?_;refine k_pickF rfl zq ?_;refine d58 ?_
   refine run_res (h) rfl Tryz.func97 rfl weakSub ?_;refine hK _ _ ?_;refine ⟨rfl,?_⟩
   unfold ordS
   first|rw [if_pos (by first|exact .inl (by assumption)|exact .inr (by assumption))]|rw [if_neg (by rintro (e|e)<;>contradiction),if_pos (by omega)]|rw [if_neg (by rintro (e|e)<;>contradiction),if_neg (by omega)]
 ·refine d44 ?_;refine d66 ?_;refine d138 ?_
  refine run_res (h) rfl Tryz.func97 rfl weakSub ?_;refine hK _ _ ?_;refine ⟨rfl,?_⟩
  unfold ordS
  first|rw [if_pos (by first|exact .inl (by assumption)|exact .inr (by assumption))]|rw [if_neg (by rintro (e|e)<;>contradiction),if_pos (by omega)]|rw [if_neg (by rintro (e|e)<;>contradiction),if_neg (by omega)]
section
variable {P:Program} {B:Array Obj} {m:Md P B} {ops:Array Oper} {l l':List Value} {S h h' H:Hp} {C:List Value→Hp→Prop} {i:Nat} {kd:Kd} {r:List (Nat×Kd)}
 {d:Option Tmp} {ty:TypeId} {pos:String} {af:Array Edge} {g:Option (Nat×Bool)}
end
theorem f155_c (m:Md Tryz.prog B) (h:Hp) (x y:Int) (hx: -10000000≤x∧x≤10000000) (hy:0<y∧y≤1000):FnC m 155 #[.int .i64 x,.int .i64 y] h fun v h'=>h'=h∧v= .int .i64 (downI x y):=by
 refine fn_enter Tryz.func155 rfl rfl (l:=(.int .i64 x)::(.int .i64 y)::uu15) rfl ?_
 intro cf cs K hK
 refine d82 ?_;refine d64 ?_
 have hds:=divs (x:=x) hy.1
 have hdb:=div_small (x:=x) hy.1 hx
 have hq: -10000001≤x.tdiv y∧x.tdiv y≤10000001:=by omega
 refine k_quoZ rfl zq (by omega) (by unfold In64;omega) ?_;refine d12 ?_;refine rs5 ?_;refine d3 ?_
 have hmb:=mulB hq (show-1000≤y∧y≤1000 by omega)
 have hme:(x.tdiv y)*y=x-x.tmod y:=by have:=Int.mul_tdiv_add_tmod x y;rw [Int.mul_comm] at this;omega
 refine k_mul rfl zq (by unfold In64;omega) ?_;refine mq rfl ?_;refine k_gtrS rfl zq (fun hc=>?_) (fun hc=>?_)
 ·refine d7 ?_;refine rr3 ?_;refine d36 ?_;refine aq rfl ?_;refine d99 ?_
  refine run_res (h) rfl Tryz.func155 rfl weakSub ?_;refine hK _ _ ?_;refine ⟨rfl,?_⟩
  unfold downI
  congr 2
  omega
 ·refine d13 ?_;refine d99 ?_
  refine run_res (h) rfl Tryz.func155 rfl weakSub ?_;refine hK _ _ ?_;refine ⟨rfl,?_⟩
  unfold downI
  congr 2
  omega
theorem f94_c (m:Md Tryz.prog B) (h:Hp) (rdp:Rp B h b pp np cp) (hp:np≤1000) {p:Option Addr} {n c:Nat} {xs:List Int} (rd:RdS B h 1 (.slice p n c) n (ints xs)) (hn:n≤1000) (hln:np≤n) (hpo:PtsOk b.pts) (hs:SmL xs) (x:Int) (hx:(b.pts.getD 0 default).h≤x∧x≤(b.pts.getD (np-1) default).h):FnC m 94 #[fbV b pp np cp pt nt ct pk nk ck,.slice p n c,.int .i64 x] h fun v h'=>h'=h∧v= .int .i64 (atI b.pts xs x):=by
 have hml:=rdp.elen (by decide)
 have hll:=rd.ilen
 have hnp2:=hpo.two
 have hnp5:=hpo.five
 refine fn_enter Tryz.func94 rfl rfl (l:=(fbV b pp np cp pt nt ct pk nk ck)::(.slice p n c)::(.int .i64 x)::uu54) rfl ?_
 intro cf cs K hK
 refine rs2 ?_;refine k_box rfl zq (fun q3=>k_hp (k_put ?_));refine aq rfl ?_;refine d93 ?_;refine run_block ?_
 refine run_loop (fun nn l h'=> ∃(i:Nat),nn=np-i∧(i+1<np)∧(∀k,k<i→(b.pts.getD (k+1) default).h<x)∧(∃U:Nat→Value,l=((fbV b pp np cp pt nt ct pk nk ck)::(.slice p n c)::(.int .i64 x)::(.pointer (some ⟨q3,0,none⟩))::(U 4)::(U 5)::(U 6)::(.int .i64 (i:Int))::(U 8)::vw48 U 9 []))∧h++[⟨true,q3,.cells (fbL b pp np cp pt nt ct pk nk ck).toArray 26 (0,0)⟩]=h') _ ⟨0,rfl,by omega,fun k hk=>by omega,exU rfl,rfl⟩ ?_;rintro nn l h' ⟨i,rfl,hi,hlow,⟨U,rfl⟩,rfl⟩ hnext;refine run_seq ?_;refine rs9 ?_;refine d2 ?_;refine d4 ?_;obtain ⟨rdp_b,rdp_o,rfl⟩:=rdp.ptr (by omega)
 refine d20 ?_
 refine k_ld rfl zq (rdp.fat (v:= .int .i64 (b.pts.getD (i+1) default).h) (i+1) 0 (by omega) (by omega) rfl) ?_;refine mq rfl ?_
 refine k_lssS rfl zq (fun hc=>?_) (fun hc=>?_)
 ·refine d7 ?_;refine d103 ?_;refine rr3 ?_;refine d4 ?_;refine d45 ?_
  exact m.weak weakSub (hnext _ _ _ (by omega) ⟨i+1,rfl,by
   rcases Nat.lt_or_ge (i+1+1) np with h3|h3
   ·exact h3
   ·have:np-1=i+1:=by omega
    rw [this] at hx
    omega,fun k hk=>by
   rcases Nat.lt_or_ge k i with h3|h3
   ·exact hlow k h3
   ·obtain rfl:k=i:=by omega
    assumption,exU rfl,rfl⟩)
 ·refine d75 ?_;refine run_seq ?_
  have hseg:segN b.pts x=i:=segN_eq (by omega) hlow (by omega)
  have ha:=hpo.at (show i<b.pts.length by omega)
  have hb:=hpo.at (show i+1<b.pts.length by omega)
  have hup:=hpo.up i (by omega)
  have hl0:=hs i
  have hl1:=hs (i+1)
  have hxi:(b.pts.getD i default).h≤x:=by
   rcases Nat.eq_zero_or_pos i with h3|h3
   ·rw [h3];exact hx.1
   ·have:=hlow (i-1) (by omega);rw [show i-1+1=i by omega] at this;omega
  have hmul:=mulB (x:=xs.getD (i+1) 0-xs.getD i 0) (y:=x-(b.pts.getD i default).h) (a:=959) (b:=959) (by omega) (by omega)
  refine run_draw [(0,.pure),(2,.pure),(6,.pure),(8,.pure),(9,.pure),(1,.read),(3,.pure),(4,.pure),(5,.read),(13,.pure),(7,.read),(10,.pure),(11,.pure),(12,.read),(14,.pure)] (by kernel_rfl) (by kernel_rfl) (List.Sublist.refl _) ?_;(first|refine k_fa0 rfl zq ?_|refine k_fa rfl zq ?_);refine mq rfl ?_;(first|refine k_fa0 rfl zq ?_|refine k_fa rfl zq ?_);refine d4 ?_;refine k_ldh rfl zq ?_;refine d20 ?_
  refine k_ld rfl zq (rdp.fat (v:= .int .i64 (b.pts.getD i default).h) i 0 (by omega) (by omega) rfl) ?_;refine k_as rfl zq ?_;refine k_ldh rfl zq ?_;refine d20 ?_;refine k_ld rfl zq (rdp.fat (v:= .int .i64 (b.pts.getD (i+1) default).h) (i+1) 0 (by omega) (by omega) rfl) ?_;refine d12 ?_
  refine run_draw [(0,.pure),(1,.pure),(2,.pure),(4,.pure),(5,.pure),(6,.pure),(7,.pure),(9,.pure),(10,.pure),(11,.pure),(14,.pure),(15,.pure),(16,.pure),(18,.pure),(19,.pure),(20,.pure),(3,.read),(8,.read),(12,.read),(13,.pure),(17,.pure),(21,.keep),(22,.pure),(23,.pure)] (by kernel_rfl) (by kernel_rfl) (List.Sublist.refl _) ?_;refine d3 ?_
  obtain ⟨rd_b,rd_o,rfl⟩:=rd.ptr (by omega)
  refine k_ixs rfl zq (by first|rfl|assumption) (by omega) (by omega) ?_;refine d3 ?_;refine k_add rfl zq (by unfold In64;omega) ?_;refine k_ixs rfl zq (by first|rfl|assumption) (by omega) (by omega) ?_;refine d11 ?_;refine d26 ?_;refine d26 ?_;refine k_ld rfl zq (rd.iat i (by omega) (by omega)) ?_;refine k_ld rfl zq (rd.iat (i+1) (by omega) (by omega)) ?_;refine k_ld rfl zq (rd.iat i (by omega) (by omega)) ?_;refine k_sub rfl zq (by unfold In64;omega) ?_;refine k_mul rfl zq (by unfold In64;omega) ?_;refine k_calP (Post:=fun v=>v=_) rfl zq (by kernel_rfl) (fun H' hH=>f155_c m H' _ _ (by omega) (by omega)) ?_;rintro v rfl;refine k_put ?_;have hdn:=div_small (x:=(xs.getD (i+1) 0-xs.getD i 0)*(x-(b.pts.getD i default).h)) (y:=(b.pts.getD (i+1) default).h-(b.pts.getD i default).h) (by omega) (b:=959*959) hmul
  unfold downI
  refine d121 ?_
  refine run_res (h) rfl Tryz.func94 rfl weakSub ?_;refine hK _ _ ?_;refine ⟨rfl,?_⟩
  unfold atI
  rw [hseg];rfl
theorem f100_c (m:Md Tryz.prog B) (h:Hp) (rdp:Rp B h b pp np cp) (hp:np≤1000) {p:Option Addr} {n c:Nat} {xs:List Int} (rd:RdS B h 1 (.slice p n c) n (ints xs)) (hn:n≤1000) (hln:n=np) (hpo:PtsOk b.pts) (hs:SmL xs):FnC m 100 #[fbV b pp np cp pt nt ct pk nk ck,.slice p n c] h fun v h'=>h'=h∧v= .int .i64 (areaI b.pts xs):=by
 have hml:=rdp.elen (by decide)
 have hll:=rd.ilen
 have hnp2:=hpo.two
 have hnp5:=hpo.five
 refine fn_enter Tryz.func100 rfl rfl (l:=[fbV b pp np cp pt nt ct pk nk ck,.slice p n c,undef,undef,undef,undef,undef,undef,undef,undef,undef,undef,undef,undef,undef,undef,undef,undef,undef,undef,undef,undef,undef,undef,undef,undef,undef,undef,undef,undef,undef,undef,undef,undef,undef,undef,undef,undef,undef,undef,undef,undef]) rfl ?_
 intro cf cs K hK
 refine rs2 ?_;refine k_box rfl zq (fun q2=>k_hp (k_put ?_));refine aq rfl ?_;refine d93 ?_;refine d142 ?_
 refine run_loop (fun nn l h'=> ∃(k:Nat) (s:Int),nn=np-k∧(k+1≤np)∧(s=areaF b.pts xs k)∧(0≤s)∧(s≤k*2000000)∧(∃U:Nat→Value,l=((fbV b pp np cp pt nt ct pk nk ck)::(.slice p n c)::(.pointer (some ⟨q2,0,none⟩))::(U 3)::(U 4)::(.int .i64 s)::(.int .i64 (k:Int))::(U 7)::vw34 U 8 []))∧h++[⟨true,q2,.cells (fbL b pp np cp pt nt ct pk nk ck).toArray 26 (0,0)⟩]=h') _ ⟨0,0,rfl,by omega,rfl,by omega,by omega,exU rfl,rfl⟩ ?_;rintro nn l h' ⟨k,s,rfl,hk,hsum,hs0,hs1,⟨U,rfl⟩,rfl⟩ hnext;refine run_seq ?_;refine rs5 ?_;refine d4 ?_;refine mq rfl ?_;refine k_len rfl zq ?_;refine k_lssS rfl zq (fun hc=>?_) (fun hc=>?_)
 ·refine d98 ?_
  have ha:=hpo.at (show k<b.pts.length by omega)
  have hb:=hpo.at (show k+1<b.pts.length by omega)
  have hup:=hpo.up k (by omega)
  have hl0:=hs k
  have hl1:=hs (k+1)
  have hmul:=mulB (x:=xs.getD k 0+xs.getD (k+1) 0) (y:=(b.pts.getD (k+1) default).h-(b.pts.getD k default).h) (a:=1918) (b:=959) (by omega) (by omega)
  have hpos:=Int.mul_nonneg (show 0≤xs.getD k 0+xs.getD (k+1) 0 by omega) (show 0≤(b.pts.getD (k+1) default).h-(b.pts.getD k default).h by omega)
  refine run_draw [(0,.pure),(1,.pure),(2,.pure),(3,.pure),(5,.pure),(6,.pure),(7,.pure),(8,.pure),(11,.pure),(13,.pure),(14,.pure),(18,.pure),(20,.pure),(4,.read),(9,.read),(10,.pure),(12,.read),(15,.pure),(16,.pure),(17,.read),(19,.read),(21,.pure),(22,.pure),(23,.read),(24,.pure),(25,.pure),(26,.pure),(27,.pure)] (by kernel_rfl) (by kernel_rfl) (List.Sublist.refl _) ?_
  
  refine d3 ?_;refine mq rfl ?_
  obtain ⟨rd_b,rd_o,rfl⟩:=rd.ptr (by omega)
  refine k_ixs rfl zq (by first|rfl|assumption) (by omega) (by omega) ?_;refine d3 ?_;refine k_add rfl zq (by unfold In64;omega) ?_;refine d20 ?_;refine d4 ?_;(first|refine k_fa0 rfl zq ?_|refine k_fa rfl zq ?_);refine mq rfl ?_;refine k_ld rfl zq (rd.iat k (by omega) (by omega)) ?_;refine k_ld rfl zq (rd.iat (k+1) (by omega) (by omega)) ?_;refine k_add rfl zq (by unfold In64;omega) ?_;refine k_ldh rfl zq ?_;obtain ⟨rdp_b,rdp_o,rfl⟩:=rdp.ptr (by omega)
  refine d20 ?_
  refine k_ld rfl zq (rdp.fat (v:= .int .i64 (b.pts.getD (k+1) default).h) (k+1) 0 (by omega) (by omega) rfl) ?_;refine k_ldh rfl zq ?_;refine d20 ?_;refine k_ld rfl zq (rdp.fat (v:= .int .i64 (b.pts.getD k default).h) k 0 (by omega) (by omega) rfl) ?_;refine k_sub rfl zq (by unfold In64;omega) ?_;refine d53 ?_;refine d45 ?_;refine rr3 ?_;refine d61 ?_;exact m.weak weakSub (hnext _ _ _ (by omega) ⟨k+1,_,rfl,by omega,by rw [areaF,←hsum],by omega,by push_cast;omega,exU rfl,rfl⟩)
 ·refine d75 ?_;refine d99 ?_
  refine run_res (h) rfl Tryz.func100 rfl weakSub ?_;refine hK _ _ ?_;obtain rfl:k=np-1:=by omega
  exact ⟨rfl,by rw [hsum,areaI,hml]⟩
theorem f98_c (m:Md Tryz.prog B) (h:Hp) (rdp:Rp B h b pp np cp) (hp:np≤1000) {p:Option Addr} {n c:Nat} {xs:List Int} (rd:RdS B h 1 (.slice p n c) n (ints xs)) (hn:n≤1000) (hln:np≤n) (hpo:PtsOk b.pts) (hs:SmL xs) (f t:Nat) (hft:f≤t) (ht:t<np):FnC m 98 #[fbV b pp np cp pt nt ct pk nk ck,.slice p n c,.int .i64 (f:Int),.int .i64 (t:Int)] h fun v h'=>h'=h∧v= .int .i64 (girthI b.pts xs f t):=by
 have hml:=rdp.elen (by decide)
 have hll:=rd.ilen
 have hnp2:=hpo.two
 have hnp5:=hpo.five
 refine fn_enter Tryz.func98 rfl rfl (l:=[fbV b pp np cp pt nt ct pk nk ck,.slice p n c,.int .i64 (f:Int),.int .i64 (t:Int),undef,undef,undef,undef,undef,undef,undef,undef,undef,undef,undef,undef,undef,undef,undef,undef,undef,undef,undef,undef,undef,undef,undef,undef,undef,undef,undef,undef,undef,undef,undef,undef,undef,undef,undef,undef,undef,undef,undef,undef,undef,undef,undef,undef,undef,undef,undef,undef,undef,undef]) rfl ?_
 intro cf cs K hK
 refine rs2 ?_;refine k_box rfl zq (fun q4=>k_hp (k_put ?_));refine aq rfl ?_;refine rs1 ?_;refine d68 ?_;refine d54 ?_
 refine run_loop (fun nn l h'=> ∃(k:Nat) (s:Int),nn=t-(f+k)∧(f+k≤t)∧(s=girthF b.pts xs f k)∧(0≤s)∧(s≤k*1400)∧(∃U:Nat→Value,l=((fbV b pp np cp pt nt ct pk nk ck)::(.slice p n c)::(.int .i64 (f:Int))::(.int .i64 (t:Int))::(.pointer (some ⟨q4,0,none⟩))::vw4 U 5 ((.int .i64 s)::(.int .i64 ((f+k:Nat):Int))::(U 11)::vw42 U 12 [])))∧h++[⟨true,q4,.cells (fbL b pp np cp pt nt ct pk nk ck).toArray 26 (0,0)⟩]=h') _ ⟨0,0,rfl,by omega,rfl,by omega,by omega,exU rfl,rfl⟩ ?_;rintro nn l h' ⟨k,s,rfl,hk,hsum,hs0,hs1,⟨U,rfl⟩,rfl⟩ hnext;refine run_seq ?_;refine rs3 ?_;refine d3 ?_;refine k_lssS rfl zq (fun hc=>?_) (fun hc=>?_)
 ·refine d98 ?_;refine run_seq ?_
  have ha:=hpo.at (show f+k<b.pts.length by omega)
  have hb:=hpo.at (show f+k+1<b.pts.length by omega)
  have hup:=hpo.up (f+k) (by omega)
  have hl0:=hs (f+k)
  have hl1:=hs (f+k+1)
  obtain ⟨N,hN,hN2⟩:=side_nat (x:=(b.pts.getD (f+k+1) default).h-(b.pts.getD (f+k) default).h) (y:=xs.getD (f+k+1) 0-xs.getD (f+k) 0) (by omega) (by omega)
  have hrs:=root_small hN2
  have hro:sideI b.pts xs (f+k)=(rootN N:Int):=by rw [sideI,hN];rfl
  have hrI:rootI (N:Int)=(rootN N:Int):=rfl
  refine run_draw [(0,.pure),(2,.pure),(3,.pure),(7,.pure),(9,.pure),(14,.pure),(15,.pure),(16,.pure),(17,.pure),(19,.pure),(20,.pure),(21,.pure),(1,.read),(4,.pure),(5,.pure),(6,.read),(8,.read),(10,.pure),(11,.pure),(12,.read),(13,.pure),(24,.pure),(18,.read),(22,.read),(23,.pure),(25,.pure)] (by kernel_rfl) (by kernel_rfl) (List.Sublist.refl _) ?_;(first|refine k_fa0 rfl zq ?_|refine k_fa rfl zq ?_);refine d4 ?_;(first|refine k_fa0 rfl zq ?_|refine k_fa rfl zq ?_);refine d3 ?_;refine d4 ?_
  obtain ⟨rd_b,rd_o,rfl⟩:=rd.ptr (by omega)
  refine k_ixs rfl zq (by first|rfl|assumption) (by omega) (by omega) ?_;refine d11 ?_;refine k_ldh rfl zq ?_;obtain ⟨rdp_b,rdp_o,rfl⟩:=rdp.ptr (by omega)
  refine d20 ?_
  refine k_ld rfl zq (rdp.fat (v:= .int .i64 (b.pts.getD ((f+k)+1) default).h) ((f+k)+1) 0 (by omega) (by omega) rfl) ?_;refine k_ldh rfl zq ?_;refine d20 ?_;refine k_ld rfl zq (rdp.fat (v:= .int .i64 (b.pts.getD (f+k) default).h) (f+k) 0 (by omega) (by omega) rfl) ?_;refine k_sub rfl zq (by unfold In64;omega) ?_;refine k_as rfl zq ?_;refine k_ld rfl zq (rd.iat ((f+k)+1) (by omega) (by omega)) ?_;refine k_ld rfl zq (rd.iat (f+k) (by omega) (by omega)) ?_;refine k_sub rfl zq (by unfold In64;omega) ?_;refine aq rfl ?_;refine rr11 ?_;have hq1:=mulB (x:=(b.pts.getD (f+k+1) default).h-(b.pts.getD (f+k) default).h) (y:=(b.pts.getD (f+k+1) default).h-(b.pts.getD (f+k) default).h) (a:=959) (b:=959) (by omega) (by omega)
  have hq2:=mulB (x:=xs.getD (f+k+1) 0-xs.getD (f+k) 0) (y:=xs.getD (f+k+1) 0-xs.getD (f+k) 0) (a:=959) (b:=959) (by omega) (by omega)
  refine d3 ?_;refine mq rfl ?_;refine k_mul rfl zq (by unfold In64;omega) ?_;refine d3 ?_;refine d53 ?_
  rw [hN];refine k_calP (Post:=fun v=>v=_) rfl zq (by kernel_rfl) (fun H' hH=>f85_c m H' N (by omega)) ?_;rintro v rfl;refine k_put ?_;rw [hrI];refine k_add rfl zq (by unfold In64;omega) ?_;refine d45 ?_;refine rr3 ?_;refine d61 ?_;exact m.weak weakSub (hnext _ _ _ (by omega) ⟨k+1,_,rfl,by omega,by rw [girthF,←hsum,hro],by omega,by push_cast;omega,exU rfl,rfl⟩)
 ·refine d75 ?_;refine d99 ?_
  refine run_res (h) rfl Tryz.func98 rfl weakSub ?_;refine hK _ _ ?_;obtain rfl:k=t-f:=by omega
  exact ⟨rfl,by rw [hsum,girthI,Int.toNat_natCast,show ((t:Int)-(f:Int)).toNat=t-f by omega]⟩
end Go.Proofs
namespace Go.Proofs
open Go.Lo
open Go.Conc (G)
set_option maxRecDepth 100000
set_option synthInstance.maxSize 100000
set_option synthInstance.maxHeartbeats 1000000
set_option maxHeartbeats 4000000
variable {B:Array Obj}
section
variable {P:Program} {B:Array Obj} {m:Md P B} {ops:Array Oper} {l l':List Value} {S h h' H:Hp} {C:List Value→Hp→Prop} {i:Nat} {kd:Kd} {r:List (Nat×Kd)}
 {d:Option Tmp} {ty:TypeId} {pos:String} {af:Array Edge} {g:Option (Nat×Bool)}
theorem k_eqBV {t u:TypeId} {x y:Operand} {a c:Bool} (ho:ops[i]?=some ⟨d,.binOp .eql t x y u,ty,pos,af,g⟩) (hw:Wt ops l g) (hb:P.underlying t=some .bool) [KHeap kd S h H] [ex:OpV l x (.bool a)] [ey:OpV l y (.bool c)] [PutV l d (.bool (a==c)) l'] (q:RegK m S ops r l' h C):RegK m S ops ((i,kd)::r) l h C:=
 RegK.rd (v:= .bool (a==c)) ho hw (by
  simp only [execOp,ex.eq,ey.eq]
  refine Reads.value (Reads.bind (a:=()) (Reads.pure _) ?_)
  show Reads P B (Op.equal t (.bool a) (.bool c)>>=fun b=>pure (Value.bool b)) H _
  exact Reads.bind (reads_eqBool hb a c) (Reads.pure _)) q
end
end Go.Proofs
namespace Go.Proofs
open Go.Lo
open Go.Conc (G)
set_option maxRecDepth 100000
set_option synthInstance.maxSize 100000
set_option synthInstance.maxHeartbeats 1000000
set_option maxHeartbeats 4000000
variable {b:Fb} {pp:Option Addr} {np cp:Nat} {pt:Option Addr} {nt ct:Nat} {pk:Option Addr} {nk ck:Nat}
variable {B:Array Obj}
theorem f159_c (m:Md Tryz.prog B) (h:Hp) (rdp:Rp B h b pp np cp) (hp:np≤1000) {p:Option Addr} {n c:Nat} {xs:List Int} (rd:RdS B h 1 (.slice p n c) n (ints xs)) (hn:n≤1000) (hln:n=np) (hpo:PtsOk b.pts) (hs:SmL xs) (t:Tp) (f e:Nat) (hf:t.f=f) (he:t.t=e) (hfe:f≤e) (hen:e<np):FnC m 159 #[fbV b pp np cp pt nt ct pk nk ck,.slice p n c,tpV t] h fun v h'=>h'=h∧IsB (tapeOk b xs t) v:=by
 have hml:=rdp.elen (by decide)
 refine fn_enter Tryz.func159 rfl rfl (l:=(fbV b pp np cp pt nt ct pk nk ck)::(.slice p n c)::(tpV t)::uu18) rfl ?_
 intro cf cs K hK
 refine rs3 ?_;refine k_box rfl zq (fun q3=>k_hp (k_put ?_));refine k_box rfl zq (fun q5=>k_hp (k_put ?_));refine d12 ?_
 refine run_draw [(1,.pure),(2,.pure),(4,.pure),(7,.pure),(8,.pure),(10,.pure),(11,.pure),(0,.read),(3,.read),(5,.read),(9,.read),(12,.read),(6,.keep),(13,.keep),(14,.pure)] (by kernel_rfl) (by kernel_rfl) (List.Sublist.refl _) ?_;refine mq rfl ?_;refine d8 ?_;refine d8 ?_;refine d8 ?_;refine d63 ?_;refine d81 ?_;refine k_ldh rfl zq ?_
 rw [hf,he];refine k_calP (Post:=fun v=>v=_) rfl zq (by kernel_rfl) (fun H' hH=>f98_c m H' (rdp.keeps (sq hH)) hp (rd.keeps (sq hH)) hn (by omega) hpo hs f e hfe hen) ?_;rintro v rfl;refine k_put ?_;refine k_calP (Post:=fun v=>IsB _ v) rfl zq (by kernel_rfl) (fun H' hH=>f55_c m H' _ _ _) ?_;rintro v hv;refine d110 ?_
 refine run_res (h) rfl Tryz.func159 rfl weakSub ?_;refine hK _ _ ?_;exact ⟨rfl,hv.iff (by unfold tapeOk;rw [hf,he])⟩
theorem f160_c (m:Md Tryz.prog B) (h:Hp) (rdp:Rp B h b pp np cp) (hp:np≤1000) {p:Option Addr} {n c:Nat} {xs:List Int} (rd:RdS B h 1 (.slice p n c) n (ints xs)) (hn:n≤1000) (hln:n=np) (hpo:PtsOk b.pts) (hs:SmL xs) (k:Sk) (hk:(b.pts.getD 0 default).h≤k.h∧k.h≤(b.pts.getD (np-1) default).h):FnC m 160 #[fbV b pp np cp pt nt ct pk nk ck,.slice p n c,skV k] h fun v h'=>h'=h∧IsB (stickOk b xs k) v:=by
 have hml:=rdp.elen (by decide)
 refine fn_enter Tryz.func160 rfl rfl (l:=(fbV b pp np cp pt nt ct pk nk ck)::(.slice p n c)::(skV k)::uu15) rfl ?_
 intro cf cs K hK
 refine rs3 ?_;refine k_box rfl zq (fun q3=>k_hp (k_put ?_));refine k_box rfl zq (fun q5=>k_hp (k_put ?_));refine d12 ?_
 refine run_draw [(1,.pure),(2,.pure),(5,.pure),(8,.pure),(0,.read),(3,.read),(6,.read),(9,.read),(4,.keep),(7,.pure),(10,.pure),(11,.pure)] (by kernel_rfl) (by kernel_rfl) (List.Sublist.refl _) ?_;refine mq rfl ?_;refine d8 ?_;refine d59 ?_;refine d81 ?_;refine k_ldh rfl zq ?_
 refine k_calP (Post:=fun v=>v=_) rfl zq (by kernel_rfl) (fun H' hH=>f94_c m H' (rdp.keeps (sq hH)) hp (rd.keeps (sq hH)) hn (by omega) hpo hs k.h hk) ?_;rintro v rfl;refine k_put ?_;refine k_geq rfl zq ?_;refine k_eqBV rfl zq bool3 ?_;refine d0 ?_
 refine run_res (h) rfl Tryz.func160 rfl weakSub ?_;refine hK _ _ ?_;refine ⟨rfl,?_⟩
 unfold stickOk
 by_cases he:decide (k.long≤atI b.pts xs k.h)=k.fits
 ·exact .inl ⟨he,by rw [←he];simp⟩
 ·exact .inr ⟨he,by simpa using he⟩
theorem f104_c (m:Md Tryz.prog B) (h:Hp) (rdp:Rp B h b pp np cp) (hp:np≤1000) (rdt:Rt B h b pt nt ct) (ht:nt≤1000) (rdk:Rk B h b pk nk ck) (hk:nk≤1000) {p:Option Addr} {n c:Nat} {xs:List Int} (rd:RdS B h 1 (.slice p n c) n (ints xs)) (hn:n≤1000) (hln:n=np) (hv:FOk b) (hs:SmL xs):FnC m 104 #[fbV b pp np cp pt nt ct pk nk ck,.slice p n c] h fun v h'=>h'=h∧IsB (rightF b xs) v:=by
 have hml:=rdp.elen (by decide)
 have htl:=rdt.elen (by decide)
 have hkl:=rdk.elen (by decide)
 have hll:=rd.ilen
 refine fn_enter Tryz.func104 rfl rfl (l:=[fbV b pp np cp pt nt ct pk nk ck,.slice p n c,undef,undef,undef,undef,undef,undef,undef,undef,undef,undef,undef,undef,undef,undef,undef,undef,undef,undef,undef,undef,undef,undef,undef,undef,undef,undef,undef,undef,undef,undef,undef,undef,undef,undef,undef,undef,undef]) rfl ?_
 intro cf cs K hK
 refine rs2 ?_;refine k_box rfl zq (fun q2=>k_hp (k_put ?_));refine d12 ?_;refine d142 ?_
 refine run_loop (fun nn l h'=> ∃(j:Nat),nn=nt-j∧(j≤nt)∧(∀i,i<j→tapeOk b xs (b.tapes.getD i default))∧(∃U:Nat→Value,l=((fbV b pp np cp pt nt ct pk nk ck)::(.slice p n c)::(.pointer (some ⟨q2,0,none⟩))::(U 3)::(U 4)::(.int .i64 (j:Int))::(U 6)::vw32 U 7 []))∧h++[⟨true,q2,.cells (fbL b pp np cp pt nt ct pk nk ck).toArray 26 (0,0)⟩]=h') _ ⟨0,rfl,by omega,fun i hi=>by omega,exU rfl,rfl⟩ ?_;rintro nn l h' ⟨j,rfl,hj,hall1,⟨U,rfl⟩,rfl⟩ hnext1;refine run_seq ?_;refine rs5 ?_;refine mq rfl ?_;refine d114 ?_;refine k_lssS rfl zq (fun hc=>?_) (fun hc=>?_)
 ·refine d98 ?_;refine run_seq ?_
  obtain ⟨f,e,hf,he,hfe,hen⟩:=hv.tape (mem_getDR.2 ⟨j,by omega,rfl⟩:b.tapes.getD j default∈b.tapes)
  refine run_draw [(1,.pure),(2,.pure),(4,.pure),(0,.read),(3,.read),(5,.pure),(6,.read),(7,.keep),(8,.pure)] (by kernel_rfl) (by kernel_rfl) (List.Sublist.refl _) ?_;refine mq rfl ?_;(first|refine k_fa0 rfl zq ?_|refine k_fa rfl zq ?_);refine mq rfl ?_;refine d63 ?_
  obtain ⟨rdt_b,rdt_o,rfl⟩:=rdt.ptr (by omega)
  refine k_ixs rfl zq (by first|rfl|assumption) (by omega) (by omega) ?_;refine k_ldN (vs:=[.int .i64 (b.tapes.getD j default).f,.int .i64 (b.tapes.getD j default).t,.int .i64 (b.tapes.getD j default).lo,.int .i64 (b.tapes.getD j default).hi]) rfl zq rfl (rdt.eat j (by omega) (by omega)) ?_;refine k_calP (Post:=fun v=>IsB _ v) rfl zq (by kernel_rfl) (fun H' hH=>f159_c m H' (rdp.keeps (sq hH)) hp (rd.keeps (sq hH)) hn hln hv.pts hs (b.tapes.getD j default) f e hf he hfe (by omega)) ?_;rintro v (⟨hc,rfl⟩|⟨hc,rfl⟩)
  ·refine d43 ?_;refine d13 ?_;refine d109 ?_
   exact m.weak weakSub (hnext1 _ _ _ (by omega) ⟨j+1,rfl,by omega,all_snoc hall1 (by assumption),exU rfl,rfl⟩)
  ·refine d44 ?_;refine d58 ?_
   refine run_res (h) rfl Tryz.func104 rfl weakSub ?_;refine hK _ _ ?_;exact ⟨rfl,IsB.no fun e=>hc (e.1 _ (mem_getDR.2 ⟨j,by omega,rfl⟩))⟩
 ·refine d75 ?_;refine run_seq ?_;refine d142 ?_
  refine run_loop (fun nn l h'=> ∃(j:Nat),nn=nk-j∧(j≤nk)∧(∀i,i<j→stickOk b xs (b.sticks.getD i default))∧(∃U:Nat→Value,l=((fbV b pp np cp pt nt ct pk nk ck)::(.slice p n c)::(.pointer (some ⟨q2,0,none⟩))::(U 3)::(U 4)::(U 5)::(.int .i64 (j:Int))::vw32 U 7 []))∧h++[⟨true,q2,.cells (fbL b pp np cp pt nt ct pk nk ck).toArray 26 (0,0)⟩]=h') _ ⟨0,rfl,by omega,fun i hi=>by omega,exU rfl,rfl⟩ ?_;rintro nn l h' ⟨j,rfl,hj2,hall2,⟨U,rfl⟩,rfl⟩ hnext2;refine run_seq ?_;refine rs5 ?_;refine mq rfl ?_;refine d114 ?_;refine k_lssS rfl zq (fun hc=>?_) (fun hc=>?_)
  ·refine d98 ?_;refine run_seq ?_
   have hsk:=hv.sticks (b.sticks.getD j default) (mem_getDR.2 ⟨j,by omega,rfl⟩)
   rw [okSk,hml] at hsk
   refine run_draw [(1,.pure),(2,.pure),(4,.pure),(0,.read),(3,.read),(5,.pure),(6,.read),(7,.keep),(8,.pure)] (by kernel_rfl) (by kernel_rfl) (List.Sublist.refl _) ?_;refine mq rfl ?_;(first|refine k_fa0 rfl zq ?_|refine k_fa rfl zq ?_);refine mq rfl ?_;refine d63 ?_
   obtain ⟨rdk_b,rdk_o,rfl⟩:=rdk.ptr (by omega)
   refine k_ixs rfl zq (by first|rfl|assumption) (by omega) (by omega) ?_;refine k_ldN (vs:=[.int .i64 (b.sticks.getD j default).h,.int .i64 (b.sticks.getD j default).long,.bool (b.sticks.getD j default).fits]) rfl zq rfl (rdk.eat j (by omega) (by omega)) ?_;refine k_calP (Post:=fun v=>IsB _ v) rfl zq (by kernel_rfl) (fun H' hH=>f160_c m H' (rdp.keeps (sq hH)) hp (rd.keeps (sq hH)) hn hln hv.pts hs (b.sticks.getD j default) hsk.1) ?_;rintro v (⟨hc,rfl⟩|⟨hc,rfl⟩)
   ·refine d43 ?_;refine d13 ?_;refine d109 ?_
    exact m.weak weakSub (hnext2 _ _ _ (by omega) ⟨j+1,rfl,by omega,all_snoc hall2 (by assumption),exU rfl,rfl⟩)
   ·refine d44 ?_;refine d58 ?_
    refine run_res (h) rfl Tryz.func104 rfl weakSub ?_;refine hK _ _ ?_;exact ⟨rfl,IsB.no fun e=>hc (e.2 _ (mem_getDR.2 ⟨j,by omega,rfl⟩))⟩
  ·refine d75 ?_;refine d38 ?_
   refine run_res (h) rfl Tryz.func104 rfl weakSub ?_;refine hK _ _ ?_;refine ⟨rfl,IsB.yes ⟨fun t ht=>?_,fun k hk=>?_⟩⟩
   ·obtain ⟨i,hi,rfl⟩:=mem_getDR.1 ht
    exact hall1 i (by omega)
   ·obtain ⟨i,hi,rfl⟩:=mem_getDR.1 hk
    exact hall2 i (by omega)
theorem f103_c (m:Md Tryz.prog B) (h:Hp) (rdp:Rp B h b pp np cp) (hp:np≤1000) {p:Option Addr} {n c:Nat} {xs:List Int} (rd:RdS B h 1 (.slice p n c) n (ints xs)) (hn:n≤1000) (hln:n=np):FnC m 103 #[fbV b pp np cp pt nt ct pk nk ck,.slice p n c] h fun v h'=>h'=h∧IsB (spansF b xs) v:=by
 have hml:=rdp.elen (by decide)
 have hll:=rd.ilen
 refine fn_enter Tryz.func103 rfl rfl (l:=[fbV b pp np cp pt nt ct pk nk ck,.slice p n c,undef,undef,undef,undef,undef,undef,undef,undef,undef,undef,undef,undef,undef,undef,undef,undef,undef,undef,undef,undef,undef,undef,undef,undef,undef,undef,undef,undef,undef,undef]) rfl ?_
 intro cf cs K hK
 refine rs2 ?_;refine k_box rfl zq (fun q2=>k_hp (k_put ?_));refine d12 ?_;refine d142 ?_
 refine run_loop (fun nn l h'=> ∃(j:Nat),nn=n-j∧(j≤n)∧(∀i,i<j→(b.pts.getD i default).lo≤xs.getD i 0∧xs.getD i 0≤(b.pts.getD i default).hi)∧(∃U:Nat→Value,l=((fbV b pp np cp pt nt ct pk nk ck)::(.slice p n c)::(.pointer (some ⟨q2,0,none⟩))::(U 3)::(U 4)::(.int .i64 (j:Int))::vw26 U 6 []))∧h++[⟨true,q2,.cells (fbL b pp np cp pt nt ct pk nk ck).toArray 26 (0,0)⟩]=h') _ ⟨0,rfl,by omega,fun i hi=>by omega,exU rfl,rfl⟩ ?_;rintro nn l h' ⟨j,rfl,hj,hall,⟨U,rfl⟩,rfl⟩ hnext;refine run_seq ?_;refine d120 ?_;refine k_lssS rfl zq (fun hc=>?_) (fun hc=>?_)
 ·refine d98 ?_;refine run_seq ?_
  refine run_draw [(0,.pure),(1,.pure),(2,.pure),(4,.pure),(6,.pure),(11,.pure),(13,.pure),(3,.read),(5,.read),(7,.pure),(8,.pure),(9,.pure),(10,.read),(12,.read),(14,.pure),(15,.pure),(16,.pure),(17,.read),(18,.keep),(19,.pure)] (by kernel_rfl) (by kernel_rfl) (List.Sublist.refl _) ?_;refine d3 ?_
  obtain ⟨rd_b,rd_o,rfl⟩:=rd.ptr (by omega)
  refine d20 ?_;refine mq rfl ?_;(first|refine k_fa0 rfl zq ?_|refine k_fa rfl zq ?_);refine mq rfl ?_
  refine k_ld rfl zq (rd.iat j (by omega) (by omega)) ?_;refine k_ldh rfl zq ?_;obtain ⟨rdp_b,rdp_o,rfl⟩:=rdp.ptr (by omega)
  refine k_ixs rfl zq (by first|rfl|assumption) (by omega) (by omega) ?_;refine d8 ?_;refine k_ld rfl zq (rdp.fat (v:= .int .i64 (b.pts.getD j default).lo) j 1 (by omega) (by omega) rfl) ?_;refine k_ldh rfl zq ?_;refine k_ixs rfl zq (by first|rfl|assumption) (by omega) (by omega) ?_;refine d8 ?_;refine k_ld rfl zq (rdp.fat (v:= .int .i64 (b.pts.getD j default).hi) j 2 (by omega) (by omega) rfl) ?_;refine k_calP (Post:=fun v=>IsB _ v) rfl zq (by kernel_rfl) (fun H' hH=>f55_c m H' _ _ _) ?_;rintro v (⟨hc,rfl⟩|⟨hc,rfl⟩)
  ·refine d43 ?_;refine d13 ?_;refine d109 ?_
   exact m.weak weakSub (hnext _ _ _ (by omega) ⟨j+1,rfl,by omega,fun i hi=>by
    rcases Nat.lt_or_ge i j with h3|h3
    ·exact hall i h3
    ·obtain rfl:i=j:=by omega
     assumption,exU rfl,rfl⟩)
  ·refine d44 ?_;refine d58 ?_
   refine run_res (h) rfl Tryz.func103 rfl weakSub ?_;refine hK _ _ ?_;exact ⟨rfl,IsB.no fun e=>hc (e j (by omega))⟩
 ·refine d75 ?_;refine d38 ?_
  refine run_res (h) rfl Tryz.func103 rfl weakSub ?_;refine hK _ _ ?_;exact ⟨rfl,IsB.yes fun i hi=>hall i (by omega)⟩
theorem f154_c (m:Md Tryz.prog B) (h:Hp) (rdp:Rp B h b pp np cp) (hp:np≤1000) {p:Option Addr} {n c:Nat} {xs:List Int} (rd:RdS B h 1 (.slice p n c) n (ints xs)) (hn:n≤1000):FnC m 154 #[fbV b pp np cp pt nt ct pk nk ck,.slice p n c] h fun v h'=>h'=h∧v= .int .i64 (brS b.pts.length xs):=by
 have hml:=rdp.elen (by decide)
 have hl:=rd.ilen
 refine fn_enter Tryz.func154 rfl rfl (l:=(fbV b pp np cp pt nt ct pk nk ck)::(.slice p n c)::uu22) rfl ?_
 intro cf cs K hK
 refine rs2 ?_;refine k_box rfl zq (fun q2=>k_hp (k_put ?_));refine d12 ?_;refine rs6 ?_;refine mq rfl ?_;refine k_len rfl zq ?_;refine d114 ?_
 refine k_neqS rfl zq (fun hc=>?_) (fun hc=>?_)
 ·refine d58 ?_
  refine run_res (h) rfl Tryz.func154 rfl weakSub ?_;refine hK _ _ ?_;refine ⟨rfl,int_eq ?_⟩
  first
   |(rw [brS,if_pos (by omega)];done)
   |(rw [brS,if_neg (by omega),if_neg (fun e=>by obtain ⟨i,h1,h2⟩:=e;exact h2 (hall i (by omega)))];done)
   |(rw [brS,if_neg (by omega),if_pos ⟨j,by omega,by assumption⟩];done)
 ·refine d37 ?_;refine d142 ?_
  refine run_loop (fun nn l h'=> ∃(j:Nat),nn=n-j∧(j≤n)∧(∀i,i<j→0≤xs.getD i 0∧xs.getD i 0≤959)∧(∃U:Nat→Value,l=((fbV b pp np cp pt nt ct pk nk ck)::(.slice p n c)::(.pointer (some ⟨q2,0,none⟩))::(U 3)::(U 4)::(.int .i64 (j:Int))::vw18 U 6 []))∧h++[⟨true,q2,.cells (fbL b pp np cp pt nt ct pk nk ck).toArray 26 (0,0)⟩]=h') _ ⟨0,rfl,by omega,fun i hi=>by omega,exU rfl,rfl⟩ ?_;rintro nn l h' ⟨j,rfl,hj,hall,⟨U,rfl⟩,rfl⟩ hnext;refine run_seq ?_;refine d120 ?_;refine k_lssS rfl zq (fun hc=>?_) (fun hc=>?_)
  ·refine d98 ?_;refine rs6 ?_;refine d3 ?_
   obtain ⟨rd_b,rd_o,rfl⟩:=rd.ptr (by omega)
   refine k_ixs rfl zq (by first|rfl|assumption) (by omega) (by omega) ?_;refine k_ld rfl zq (rd.iat j (by omega) (by omega)) ?_;refine k_calP (Post:=fun v=>IsB _ v) rfl zq (by kernel_rfl) (fun H' hH=>f55_c m H' _ _ _) ?_;rintro v (⟨hc,rfl⟩|⟨hc,rfl⟩)
   ·refine d43 ?_;refine d13 ?_;refine d109 ?_
    exact m.weak weakSub (hnext _ _ _ (by omega) ⟨j+1,rfl,by omega,fun i hi=>by
     rcases Nat.lt_or_ge i j with h3|h3
     ·exact hall i h3
     ·obtain rfl:i=j:=by omega
      assumption,exU rfl,rfl⟩)
   ·refine d44 ?_;refine d58 ?_
    refine run_res (h) rfl Tryz.func154 rfl weakSub ?_;refine hK _ _ ?_;refine ⟨rfl,int_eq ?_⟩
    first
     |(rw [brS,if_pos (by omega)];done)
     |(rw [brS,if_neg (by omega),if_neg (fun e=>by obtain ⟨i,h1,h2⟩:=e;exact h2 (hall i (by omega)))];done)
     |(rw [brS,if_neg (by omega),if_pos ⟨j,by omega,by assumption⟩];done)
  ·refine d75 ?_;refine d38 ?_
   refine run_res (h) rfl Tryz.func154 rfl weakSub ?_;refine hK _ _ ?_;refine ⟨rfl,int_eq ?_⟩
   first
    |(rw [brS,if_pos (by omega)];done)
    |(rw [brS,if_neg (by omega),if_neg (fun e=>by obtain ⟨i,h1,h2⟩:=e;exact h2 (hall i (by omega)))];done)
    |(rw [brS,if_neg (by omega),if_pos ⟨j,by omega,by assumption⟩];done)
theorem f92_c (m:Md Tryz.prog B) (h:Hp) (rdp:Rp B h b pp np cp) (hp:np≤1000) (rdt:Rt B h b pt nt ct) (ht:nt≤1000) (rdk:Rk B h b pk nk ck) (hk:nk≤1000) {p:Option Addr} {n c:Nat} {xs:List Int} (rd:RdS B h 1 (.slice p n c) n (ints xs)) (hn:n≤1000):FnC m 92 #[fbV b pp np cp pt nt ct pk nk ck,.slice p n c] h fun v h'=>h'=h∧v= .int .i64 (fhandS b xs):=by
 refine fn_enter Tryz.func92 rfl rfl (l:=(fbV b pp np cp pt nt ct pk nk ck)::(.slice p n c)::uu12) rfl ?_
 intro cf cs K hK
 refine rs2 ?_;refine k_box rfl zq (fun q2=>k_hp (k_put ?_));refine d12 ?_;refine d94 ?_
 refine k_calP (Post:=fun v=>v=_) rfl zq (by kernel_rfl) (fun H' hH=>f22_c m H' (rdp.keeps (sq hH)) hp (rdt.keeps (sq hH)) ht (rdk.keeps (sq hH)) hk) ?_;rintro v rfl;refine d135 ?_
 refine k_neqS rfl zq (fun hc=>?_) (fun hc=>?_)
 ·refine d7 ?_;refine d99 ?_
  refine run_res (h) rfl Tryz.func92 rfl weakSub ?_;refine hK _ _ ?_;refine ⟨rfl,int_eq ?_⟩
  first
   |(rw [fhandS,if_pos (by assumption)];done)
   |(rw [fhandS,if_neg (by omega)];done)
 ·refine d13 ?_;refine rs4 ?_;refine d69 ?_
  refine k_calP (Post:=fun v=>v=_) rfl zq (by kernel_rfl) (fun H' hH=>f154_c m H' (rdp.keeps (sq hH)) hp (rd.keeps (sq hH)) hn) ?_;rintro v rfl;refine d110 ?_
  refine run_res (h) rfl Tryz.func92 rfl weakSub ?_;refine hK _ _ ?_;refine ⟨rfl,int_eq ?_⟩
  first
   |(rw [fhandS,if_pos (by assumption)];done)
   |(rw [fhandS,if_neg (by omega)];done)
variable [LaidF B]
end Go.Proofs
namespace Go.Proofs
open Go.Lo
open Go.Conc (G)
set_option maxRecDepth 100000
set_option synthInstance.maxSize 100000
set_option synthInstance.maxHeartbeats 1000000
set_option maxHeartbeats 4000000
variable {b:Fb} {pp:Option Addr} {np cp:Nat} {pt:Option Addr} {nt ct:Nat} {pk:Option Addr} {nk ck:Nat}
variable {B:Array Obj}
variable [LaidF B]
theorem f20_c (m:Md Tryz.prog B) (h:Hp) (x:Int):FnC m 20 #[.int .i64 x] h fun v h'=>h'=h∧v= .tuple [.int .i64 (if 0≤x∧x≤999999 then rootI x else 0),.int .i64 (if 0≤x∧x≤999999 then 0 else 1)].toArray:=by
 refine fn_enter Tryz.func20 rfl rfl (l:=(.int .i64 x)::uu8) rfl ?_
 intro cf cs K hK
 refine rs2 ?_;refine d97 ?_;refine d42 ?_;refine k_calP (Post:=fun v=>IsB _ v) rfl zq (by kernel_rfl) (fun H' hH=>f55_c m H' _ _ _) ?_;rintro v (⟨hc,rfl⟩|⟨hc,rfl⟩)
 ·refine d43 ?_;refine d13 ?_;refine rs4 ?_
  obtain ⟨k,rfl⟩: ∃k:Nat,x=k:=Int.eq_ofNat_of_zero_le (by omega)
  refine mq rfl ?_
  refine k_calP (Post:=fun v=>v=_) rfl zq (by kernel_rfl) (fun H' hH=>f85_c m H' k (by omega)) ?_;rintro v rfl;refine k_put ?_;refine d27 ?_;refine run_res (h) rfl Tryz.func20 rfl weakSub ?_;refine hK _ _ ?_;refine ⟨rfl,?_⟩
  first|(rw [if_pos (by omega),if_pos (by omega)];done)|(rw [if_neg (by omega),if_neg (by omega)];done)
 ·refine d44 ?_;refine d7 ?_;refine d144 ?_
  refine run_res (h) rfl Tryz.func20 rfl weakSub ?_;refine hK _ _ ?_;refine ⟨rfl,?_⟩
  first|(rw [if_pos (by omega),if_pos (by omega)];done)|(rw [if_neg (by omega),if_neg (by omega)];done)
theorem f24_c (m:Md Tryz.prog B) (h:Hp) (rdp:Rp B h b pp np cp) (hp:np≤1000) (rdt:Rt B h b pt nt ct) (ht:nt≤1000) (rdk:Rk B h b pk nk ck) (hk:nk≤1000) {p:Option Addr} {n c:Nat} {xs:List Int} (rd:RdS B h 1 (.slice p n c) n (ints xs)) (hn:n≤1000) (x:Int):FnC m 24 #[fbV b pp np cp pt nt ct pk nk ck,.slice p n c,.int .i64 x] h fun v h'=>h'=h∧v=orNo (atS b xs x) (atI b.pts xs x):=by
 have hml:=rdp.elen (by decide)
 have hl:=rd.ilen
 refine fn_enter Tryz.func24 rfl rfl (l:=(fbV b pp np cp pt nt ct pk nk ck)::(.slice p n c)::(.int .i64 x)::uu20) rfl ?_
 intro cf cs K hK
 refine rs3 ?_;refine k_box rfl zq (fun q3=>k_hp (k_put ?_));refine d97 ?_;refine rs4 ?_;refine d69 ?_
 refine k_calP (Post:=fun v=>v=_) rfl zq (by kernel_rfl) (fun H' hH=>f92_c m H' (rdp.keeps (sq hH)) hp (rdt.keeps (sq hH)) ht (rdk.keeps (sq hH)) hk (rd.keeps (sq hH)) hn) ?_;rintro v rfl;refine d135 ?_
 refine k_neqS rfl zq (fun hc=>?_) (fun hc=>?_)
 ·refine d132 ?_
  refine run_res (h) rfl Tryz.func24 rfl weakSub ?_;refine hK _ _ ?_;exact ⟨rfl,by rw [atS_h (by assumption),orNo_no (by assumption)]⟩
 ·refine d37 ?_;refine rs4 ?_
  have hz0:fhandS b xs=0:=by omega
  obtain ⟨hzb,hzl⟩:=fhandS_zero hz0
  have hv:=fbS_zero hzb
  obtain ⟨hln,hs⟩:=brS_zero hzl
  have hpo:=hv.pts
  have h1:=hpo.two
  have h5:=hpo.five
  refine d69 ?_
  refine k_calP (Post:=fun v=>IsB _ v) rfl zq (by kernel_rfl) (fun H' hH=>f93_c m H' _ (rdp.keeps (sq hH)) hp (by omega)) ?_;rintro v (⟨hc,rfl⟩|⟨hc,rfl⟩)
  ·refine d43 ?_;refine d13 ?_;refine rs6 ?_;refine k_ldA rfl zq ?_;refine d3 ?_
   refine k_calP (Post:=fun v=>v=_) rfl zq (by kernel_rfl) (fun H' hH=>f94_c m H' (rdp.keeps (sq hH)) hp (rd.keeps (sq hH)) hn (by omega) hpo hs _ (by assumption)) ?_;rintro v rfl;refine k_put ?_;refine d27 ?_;refine run_res (h) rfl Tryz.func24 rfl weakSub ?_;refine hK _ _ ?_;first|exact ⟨rfl,by rw [atS_1 hz0 (by rw [hml];assumption),orNo_no (by decide)]⟩|exact ⟨rfl,by rw [atS_0 hz0 (by rw [hml];assumption),orNo_yes rfl]⟩
  ·refine d44 ?_;refine d7 ?_;refine d144 ?_
   refine run_res (h) rfl Tryz.func24 rfl weakSub ?_;refine hK _ _ ?_;first|exact ⟨rfl,by rw [atS_1 hz0 (by rw [hml];assumption),orNo_no (by decide)]⟩|exact ⟨rfl,by rw [atS_0 hz0 (by rw [hml];assumption),orNo_yes rfl]⟩
theorem f28_c (m:Md Tryz.prog B) (h:Hp) (rdp:Rp B h b pp np cp) (hp:np≤1000) (rdt:Rt B h b pt nt ct) (ht:nt≤1000) (rdk:Rk B h b pk nk ck) (hk:nk≤1000) {p:Option Addr} {n c:Nat} {xs:List Int} (rd:RdS B h 1 (.slice p n c) n (ints xs)) (hn:n≤1000):FnC m 28 #[fbV b pp np cp pt nt ct pk nk ck,.slice p n c] h fun v h'=>h'=h∧v=orNo (fhandS b xs) (areaI b.pts xs):=by
 have hml:=rdp.elen (by decide)
 have hl:=rd.ilen
 refine fn_enter Tryz.func28 rfl rfl (l:=(fbV b pp np cp pt nt ct pk nk ck)::(.slice p n c)::uu14) rfl ?_
 intro cf cs K hK
 refine rs3 ?_;refine k_box rfl zq (fun q2=>k_hp (k_put ?_));refine d97 ?_;refine rs4 ?_;refine d69 ?_
 refine k_calP (Post:=fun v=>v=_) rfl zq (by kernel_rfl) (fun H' hH=>f92_c m H' (rdp.keeps (sq hH)) hp (rdt.keeps (sq hH)) ht (rdk.keeps (sq hH)) hk (rd.keeps (sq hH)) hn) ?_;rintro v rfl;refine d135 ?_
 refine k_neqS rfl zq (fun hc=>?_) (fun hc=>?_)
 ·refine d132 ?_
  refine run_res (h) rfl Tryz.func28 rfl weakSub ?_;refine hK _ _ ?_;exact ⟨rfl,by rw [orNo_no (by assumption)]⟩
 ·refine d13 ?_;refine rs5 ?_
  have hz0:fhandS b xs=0:=by omega
  obtain ⟨hzb,hzl⟩:=fhandS_zero hz0
  have hv:=fbS_zero hzb
  obtain ⟨hln,hs⟩:=brS_zero hzl
  have hpo:=hv.pts
  have h1:=hpo.two
  have h5:=hpo.five
  refine d69 ?_
  refine k_calP (Post:=fun v=>v=_) rfl zq (by kernel_rfl) (fun H' hH=>f100_c m H' (rdp.keeps (sq hH)) hp (rd.keeps (sq hH)) hn (by omega) hpo hs) ?_;rintro v rfl;refine k_put ?_;refine d27 ?_;refine run_res (h) rfl Tryz.func28 rfl weakSub ?_;refine hK _ _ ?_;exact ⟨rfl,by rw [orNo_yes hz0]⟩
theorem f26_c (m:Md Tryz.prog B) (h:Hp) (rdp:Rp B h b pp np cp) (hp:np≤1000) (rdt:Rt B h b pt nt ct) (ht:nt≤1000) (rdk:Rk B h b pk nk ck) (hk:nk≤1000) {p:Option Addr} {n c:Nat} {xs:List Int} (rd:RdS B h 1 (.slice p n c) n (ints xs)) (hn:n≤1000) (f t:Int):FnC m 26 #[fbV b pp np cp pt nt ct pk nk ck,.slice p n c,.int .i64 f,.int .i64 t] h fun v h'=>h'=h∧v=orNo (girthS b xs f t) (girthI b.pts xs f t):=by
 have hml:=rdp.elen (by decide)
 have hl:=rd.ilen
 refine fn_enter Tryz.func26 rfl rfl (l:=(fbV b pp np cp pt nt ct pk nk ck)::(.slice p n c)::(.int .i64 f)::(.int .i64 t)::uu26) rfl ?_
 intro cf cs K hK
 refine rs3 ?_;refine k_box rfl zq (fun q4=>k_hp (k_put ?_));refine d97 ?_;refine rs4 ?_;refine d69 ?_
 refine k_calP (Post:=fun v=>v=_) rfl zq (by kernel_rfl) (fun H' hH=>f92_c m H' (rdp.keeps (sq hH)) hp (rdt.keeps (sq hH)) ht (rdk.keeps (sq hH)) hk (rd.keeps (sq hH)) hn) ?_;rintro v rfl;refine d135 ?_
 refine k_neqS rfl zq (fun hc=>?_) (fun hc=>?_)
 ·refine d132 ?_
  refine run_res (h) rfl Tryz.func26 rfl weakSub ?_;refine hK _ _ ?_;exact ⟨rfl,by rw [girthS_h (by assumption),orNo_no (by assumption)]⟩
 ·refine d37 ?_;refine rs5 ?_
  have hz0:fhandS b xs=0:=by omega
  obtain ⟨hzb,hzl⟩:=fhandS_zero hz0
  have hv:=fbS_zero hzb
  obtain ⟨hln,hs⟩:=brS_zero hzl
  have hpo:=hv.pts
  have h1:=hpo.two
  have h5:=hpo.five
  refine k_ldA rfl zq ?_;refine d3 ?_;refine k_calP (Post:=fun v=>v=_) rfl zq (by kernel_rfl) (fun H' hH=>f97_c m H' _ _ hp) ?_;rintro v rfl;refine d135 ?_
  refine k_neqS rfl zq (fun hc=>?_) (fun hc=>?_)
  ·refine d132 ?_
   refine run_res (h) rfl Tryz.func26 rfl weakSub ?_;refine hK _ _ ?_;exact ⟨rfl,by rw [girthS_o hz0,hml,orNo_no (by assumption)]⟩
  ·refine d13 ?_;refine rs7 ?_
   have hod:ordS b.pts.length f t=0:=by rw [hml];omega
   obtain ⟨hf0,hft,htn⟩:=ordS_zero hod
   obtain ⟨f,rfl⟩: ∃k:Nat,f=k:=Int.eq_ofNat_of_zero_le (by omega)
   obtain ⟨t,rfl⟩: ∃k:Nat,t=k:=Int.eq_ofNat_of_zero_le (by omega)
   refine k_ldA rfl zq ?_;refine d3 ?_;refine mq rfl ?_;refine k_calP (Post:=fun v=>v=_) rfl zq (by kernel_rfl) (fun H' hH=>f98_c m H' (rdp.keeps (sq hH)) hp (rd.keeps (sq hH)) hn (by omega) hpo hs f t (by omega) (by omega)) ?_;rintro v rfl;refine k_put ?_;refine d27 ?_;refine run_res (h) rfl Tryz.func26 rfl weakSub ?_;refine hK _ _ ?_;exact ⟨rfl,by rw [girthS_o hz0,hod,orNo_yes rfl]⟩
theorem innerL_length (b:Fb) (xs:List Int):(innerL b xs).length=xs.length:=by simp [innerL]
theorem innerL_take (b:Fb) (xs:List Int) {k:Nat} (h:k<xs.length):innerL b (xs.take (k+1))=innerL b (xs.take k)++[max 0 (xs.getD k 0-b.plank)]:=by
 unfold innerL
 rw [List.take_add_one,List.getElem?_eq_getElem h,List.map_append,List.getD_eq_getElem?_getD,List.getElem?_eq_getElem h];rfl
theorem f30_c (m:Md Tryz.prog B) (h:Hp) (rdp:Rp B h b pp np cp) (hp:np≤1000) (rdt:Rt B h b pt nt ct) (ht:nt≤1000) (rdk:Rk B h b pk nk ck) (hk:nk≤1000) {p:Option Addr} {n c:Nat} {xs:List Int} (rd:RdS B h 1 (.slice p n c) n (ints xs)) (hn:n≤1000):FnC m 30 #[fbV b pp np cp pt nt ct pk nk ck,.slice p n c] h fun v h'=> ∃new,h'=h++new∧ ∃w,v= .tuple [w,.int .i64 (fhandS b xs)].toArray∧RdI B new w (if fhandS b xs≠0 then [] else innerL b xs):=by
 have hml:=rdp.elen (by decide)
 have hl:=rd.ilen
 refine fn_enter Tryz.func30 rfl rfl (l:=(fbV b pp np cp pt nt ct pk nk ck)::(.slice p n c)::uu31) rfl ?_
 intro cf cs K hK
 refine rs3 ?_;refine k_box rfl zq (fun q2=>k_hp (k_put ?_));refine d97 ?_;refine rs4 ?_;refine d69 ?_
 refine k_calP (Post:=fun v=>v=_) rfl zq (by kernel_rfl) (fun H' hH=>f92_c m H' (rdp.keeps (sq hH)) hp (rdt.keeps (sq hH)) ht (rdk.keeps (sq hH)) hk (rd.keeps (sq hH)) hn) ?_;rintro v rfl;refine d135 ?_
 refine k_neqS rfl zq (fun hc=>?_) (fun hc=>?_)
 ·refine d132 ?_
  refine run_res (h) rfl Tryz.func30 rfl weakSub ?_;refine hK _ _ ?_;exact ⟨[],by simp,_,rfl,by rw [if_pos (by assumption)];exact RdI.nil⟩
 ·refine d13 ?_;refine rs1 ?_
  have hz0:fhandS b xs=0:=by omega
  obtain ⟨hzb,hzl⟩:=fhandS_zero hz0
  have hv:=fbS_zero hzb
  obtain ⟨hln,hs⟩:=brS_zero hzl
  have hpo:=hv.pts
  have h1:=hpo.two
  have h5:=hpo.five
  refine d12 ?_;refine d142 ?_
  refine run_loop (fun nn l h'=> ∃(j:Nat) (w7:Value) (W:Hp),nn=n-j∧(j≤n)∧(OwnS 3 1 w7 j (ints (innerL b (xs.take j))) W)∧(∃U:Nat→Value,l=((fbV b pp np cp pt nt ct pk nk ck)::(.slice p n c)::(.pointer (some ⟨q2,0,none⟩))::vw4 U 3 (w7::(.int .i64 (j:Int))::vw24 U 9 [])))∧h++[⟨true,q2,.cells (fbL b pp np cp pt nt ct pk nk ck).toArray 26 (0,0)⟩]++W=h') _ ⟨0,_,[],rfl,by omega,OwnS.nil,exU rfl,(by simp)⟩ ?_;rintro nn l h' ⟨j,w7,W,rfl,hj,ho,⟨U,rfl⟩,rfl⟩ hnext;have hsj:=hs j
  have hpk:=hv.plank
  refine run_seq ?_;refine d120 ?_;refine k_lssS rfl zq (fun hc=>?_) (fun hc=>?_)
  ·refine d98 ?_
   refine run_draw [(0,.pure),(1,.pure),(2,.pure),(3,.pure),(5,.pure),(4,.read),(6,.read),(7,.pure),(8,.pure),(9,.keep),(10,.free),(11,.pure)] (by kernel_rfl) (by kernel_rfl) (List.Sublist.refl _) ?_;refine d3 ?_;refine mq rfl ?_
   obtain ⟨rd_b,rd_o,rfl⟩:=rd.ptr (by omega)
   refine d20 ?_
   refine k_ld rfl zq (rd.iat j (by omega) (by omega)) ?_;refine k_ldh rfl zq ?_;refine k_sub rfl zq (by unfold In64;omega) ?_;refine k_max rfl zq ?_;refine k_bs kdq rfl zq (by decide) (by decide) rfl (fun qa=>k_hp (k_put ?_));refine k_app1 (F:=h++[⟨true,q2,.cells (fbL b pp np cp pt nt ct pk nk ck).toArray 26 (0,0)⟩]) rfl zq rfl ho kdq (by omega) (by omega) (fun w9 n9 o9=>k_put ?_);refine d45 ?_;refine rr3 ?_;refine d61 ?_
   exact m.weak weakSub (hnext _ _ _ (by omega) ⟨j+1,_,n9,rfl,by omega,by rw [innerL_take b xs (by omega),ints_append];exact o9,exU rfl,rfl⟩)
  ·refine d75 ?_;refine d86 ?_
   refine run_res (h++W) rfl Tryz.func30 rfl weakSub ?_;refine hK _ _ ?_;obtain rfl:j=xs.length:=by omega
   rw [List.take_length] at ho
   exact ⟨W,rfl,_,by rw [hz0],by rw [if_neg (fun e=>e hz0)];exact OwnS.rdI ho⟩
section
variable {P:Program} {B:Array Obj} {m:Md P B} {ops:Array Oper} {l l':List Value} {S h h' H:Hp} {C:List Value→Hp→Prop} {i:Nat} {kd:Kd} {r:List (Nat×Kd)}
 {d:Option Tmp} {ty:TypeId} {pos:String} {af:Array Edge} {g:Option (Nat×Bool)}
end
theorem f33_c (m:Md Tryz.prog B) (h:Hp) (rdp:Rp B h b pp np cp) (hp:np≤1000) (rdt:Rt B h b pt nt ct) (ht:nt≤1000) (rdk:Rk B h b pk nk ck) (hk:nk≤1000) {p:Option Addr} {n c:Nat} {xs:List Int} (rd:RdS B h 1 (.slice p n c) n (ints xs)) (hn:n≤1000):FnC m 33 #[fbV b pp np cp pt nt ct pk nk ck,.slice p n c] h fun v h'=>h'=h∧ ∃w,v= .tuple [w,.int .i64 (fhandS b xs)].toArray∧IsB (fhandS b xs=0∧spansF b xs∧rightF b xs) w:=by
 have hml:=rdp.elen (by decide)
 have hl:=rd.ilen
 refine fn_enter Tryz.func33 rfl rfl (l:=(fbV b pp np cp pt nt ct pk nk ck)::(.slice p n c)::uu19) rfl ?_
 intro cf cs K hK
 refine rs3 ?_;refine k_box rfl zq (fun q2=>k_hp (k_put ?_));refine d97 ?_;refine rs4 ?_;refine d69 ?_
 refine k_calP (Post:=fun v=>v=_) rfl zq (by kernel_rfl) (fun H' hH=>f92_c m H' (rdp.keeps (sq hH)) hp (rdt.keeps (sq hH)) ht (rdk.keeps (sq hH)) hk (rd.keeps (sq hH)) hn) ?_;rintro v rfl;refine d135 ?_
 refine k_neqS rfl zq (fun hc=>?_) (fun hc=>?_)
 ·refine d132 ?_
  refine run_res (h) rfl Tryz.func33 rfl weakSub ?_;refine hK _ _ ?_;first
   |exact ⟨rfl,_,rfl,IsB.no (fun e=>absurd e.1 (by assumption))⟩
   |exact ⟨rfl,_,by rw [hz0],IsB.yes ⟨hz0,by assumption,by assumption⟩⟩
   |exact ⟨rfl,_,by rw [hz0],IsB.no (fun e=>absurd e.2.2 (by assumption))⟩
   |exact ⟨rfl,_,by rw [hz0],IsB.no (fun e=>absurd e.2.1 (by assumption))⟩
 ·refine d13 ?_;refine rs10 ?_
  have hz0:fhandS b xs=0:=by omega
  obtain ⟨hzb,hzl⟩:=fhandS_zero hz0
  have hv:=fbS_zero hzb
  obtain ⟨hln,hs⟩:=brS_zero hzl
  have hpo:=hv.pts
  have h1:=hpo.two
  have h5:=hpo.five
  refine d69 ?_
  refine k_calP (Post:=fun v=>IsB _ v) rfl zq (by kernel_rfl) (fun H' hH=>f103_c m H' (rdp.keeps (sq hH)) hp (rd.keeps (sq hH)) hn (by omega)) ?_;rintro v (⟨hc,rfl⟩|⟨hc,rfl⟩)
  ·refine k_put ?_;refine mq rfl ?_;refine k_ldA rfl rfl ?_;refine k_mv rfl rfl ?_;refine k_calP (Post:=fun v=>IsB _ v) rfl rfl (by kernel_rfl) (fun H' hH=>f104_c m H' (rdp.keeps (sq hH)) hp (rdt.keeps (sq hH)) ht (rdk.keeps (sq hH)) hk (rd.keeps (sq hH)) hn (by omega) hv hs) ?_;rintro v (⟨hc,rfl⟩|⟨hc,rfl⟩)
   ·refine k_put ?_;refine k_pickT rfl zq ?_;refine d27 ?_;refine run_res (h) rfl Tryz.func33 rfl weakSub ?_;refine hK _ _ ?_;first
     |exact ⟨rfl,_,rfl,IsB.no (fun e=>absurd e.1 (by assumption))⟩
     |exact ⟨rfl,_,by rw [hz0],IsB.yes ⟨hz0,by assumption,by assumption⟩⟩
     |exact ⟨rfl,_,by rw [hz0],IsB.no (fun e=>absurd e.2.2 (by assumption))⟩
     |exact ⟨rfl,_,by rw [hz0],IsB.no (fun e=>absurd e.2.1 (by assumption))⟩
   ·refine k_put ?_;refine k_pickT rfl zq ?_;refine d27 ?_;refine run_res (h) rfl Tryz.func33 rfl weakSub ?_;refine hK _ _ ?_;first
     |exact ⟨rfl,_,rfl,IsB.no (fun e=>absurd e.1 (by assumption))⟩
     |exact ⟨rfl,_,by rw [hz0],IsB.yes ⟨hz0,by assumption,by assumption⟩⟩
     |exact ⟨rfl,_,by rw [hz0],IsB.no (fun e=>absurd e.2.2 (by assumption))⟩
     |exact ⟨rfl,_,by rw [hz0],IsB.no (fun e=>absurd e.2.1 (by assumption))⟩
  ·refine k_put ?_;refine d52 ?_;refine d72 ?_;refine d27 ?_;refine run_res (h) rfl Tryz.func33 rfl weakSub ?_;refine hK _ _ ?_;first
    |exact ⟨rfl,_,rfl,IsB.no (fun e=>absurd e.1 (by assumption))⟩
    |exact ⟨rfl,_,by rw [hz0],IsB.yes ⟨hz0,by assumption,by assumption⟩⟩
    |exact ⟨rfl,_,by rw [hz0],IsB.no (fun e=>absurd e.2.2 (by assumption))⟩
    |exact ⟨rfl,_,by rw [hz0],IsB.no (fun e=>absurd e.2.1 (by assumption))⟩
theorem f3_t (h:Hp) (rdp:Rp B h b pp np cp) (rdt:Rt B h b pt nt ct) (rdk:Rk B h b pk nk ck) {p:Option Addr} {n c:Nat} {xs:List Int} (rd:RdS B h 1 (.slice p n c) n (ints xs)) (x y f t:Int):(Md.starS Tryz.prog B).R (AtEnd Tryz.prog B fun v _=>v= .bool true) (G (Frame.enter Tryz.prog 3 #[fbV b pp np cp pt nt ct pk nk ck,.slice p n c,.int .i64 x,.int .i64 y,.int .i64 f,.int .i64 t] .normal) []) h:=by
 refine top_enter Tryz.func3 rfl rfl (l:=[fbV b pp np cp pt nt ct pk nk ck,.slice p n c,.int .i64 x,.int .i64 y,.int .i64 f,.int .i64 t,undef,undef,undef,undef,undef,undef,undef,undef,undef,undef,undef,undef,undef,undef,undef,undef,undef,undef,undef,undef,undef,undef,undef,undef,undef,undef,undef,undef,undef,undef,undef,undef,undef,undef,undef,undef,undef,undef,undef,undef,undef,undef,undef,undef,undef,undef,undef,undef,undef,undef,undef,undef,undef,undef,undef,undef,undef,undef,undef,undef,undef,undef,undef,undef,undef,undef,undef,undef,undef,undef,undef,undef,undef,undef,undef,undef,undef,undef,undef,undef,undef,undef,undef,undef,undef,undef,undef,undef,undef,undef,undef,undef,undef,undef,undef,undef,undef,undef,undef,undef,undef,undef,undef,undef,undef,undef,undef,undef,undef,undef,undef,undef,undef,undef,undef,undef,undef,undef,undef,undef,undef,undef,undef,undef,undef,undef,undef,undef,undef,undef,undef,undef,undef,undef,undef,undef,undef,undef,undef,undef,undef,undef,undef,undef,undef,undef,undef,undef,undef,undef,undef,undef,undef,undef,undef,undef,undef,undef]) rfl ?_
 refine rs2 ?_;refine k_box rfl zq (fun q6=>k_hp (k_put ?_));refine d12 ?_;refine rs7 ?_;refine k_ldA rfl zq ?_
 refine k_calP (Post:=fun v=>IsB _ v) rfl zq (by kernel_rfl) (fun H' hH=>f17_c _ H') ?_;rintro v (⟨hc,rfl⟩|⟨hc,rfl⟩)
 ·refine k_put ?_;refine d52 ?_;refine k_off rfl rfl ?_;refine k_pickT rfl zq ?_;refine d7 ?_;refine rs2 ?_;refine k_cal rfl zq (by kernel_rfl) (f18_c _) ?_;rintro v h' ⟨nF,rfl,rfl⟩;refine d110 ?_
  refine run_top rfl Tryz.func3 (by kernel_rfl) rfl ?_;rfl
 ·refine k_put ?_;refine d23 ?_;refine k_len rfl rfl ?_;refine k_gtrS rfl rfl (fun hc=>?_) (fun hc=>?_)
  ·refine k_pickF rfl zq ?_;refine d7 ?_;refine rs2 ?_;refine k_cal rfl zq (by kernel_rfl) (f18_c _) ?_;rintro v h' ⟨nF,rfl,rfl⟩;refine d110 ?_
   refine run_top rfl Tryz.func3 (by kernel_rfl) rfl ?_;rfl
  ·refine k_pickF rfl zq ?_;refine d37 ?_;have hp:np≤1000:=by omega
   have ht:nt≤1000:=by omega
   have hk:nk≤1000:=by omega
   have hn:n≤1000:=by omega
   have hx:=rd.ilen
   have hil:(if fhandS b xs≠0 then [] else innerL b xs).length≤1000000:=by split<;>simp [innerL_length]<;>omega
   refine rr7 ?_;refine mq rfl ?_;refine k_calP (Post:=fun v=>v=_) rfl zq (by kernel_rfl) (fun H' hH=>f19_c _ H' _) ?_;rintro v rfl;refine d134 ?_;refine rs7 ?_;refine mq rfl ?_
   refine k_calP (Post:=fun v=>v=_) rfl zq (by kernel_rfl) (fun H' hH=>f20_c _ H' _) ?_;rintro v rfl;refine d78 ?_;refine d97 ?_;refine run_seq ?_
   refine run_draw [(0,.pure),(1,.pure),(2,.pure),(3,.pure),(4,.pure),(5,.pure),(6,.pure),(7,.pure),(8,.pure),(9,.read),(11,.read),(10,.keep),(12,.keep),(13,.pure),(14,.pure)] (by kernel_rfl) (by kernel_rfl) (List.Sublist.refl _) ?_;refine d3 ?_;refine k_neqF rfl zq rfl ?_;refine d23 ?_;refine k_mv rfl rfl ?_;refine k_neqF rfl rfl rfl ?_;refine k_pickF rfl zq ?_;refine mq rfl ?_;refine k_ldA rfl rfl ?_;refine k_ldA rfl rfl ?_
   refine k_calP (Post:=fun v=>v=_) rfl rfl (by kernel_rfl) (fun H' hH=>f21_c _ H' (rdp.keeps (sq hH)) hp (rdt.keeps (sq hH)) ht (rdk.keeps (sq hH)) hk) ?_;rintro v rfl;refine k_put ?_;refine k_calP (Post:=fun v=>v=_) rfl rfl (by kernel_rfl) (fun H' hH=>f22_c _ H' (rdp.keeps (sq hH)) hp (rdt.keeps (sq hH)) ht (rdk.keeps (sq hH)) hk) ?_;rintro v rfl;refine k_put ?_;refine k_neqF rfl rfl rfl ?_;refine d126 ?_;refine rs9 ?_;refine k_ldA rfl zq ?_;refine d3 ?_;refine k_calP (Post:=fun v=>v= .tuple [.int .i64 (if atS b xs y≠0 then 0 else atI b.pts xs y),.int .i64 (atS b xs y)].toArray) rfl zq (by kernel_rfl) (fun H' hH=>f23_c _ H' (b:=b) (xs:=xs) (rdp.keeps (sq hH)) hp (rdt.keeps (sq hH)) ht (rdk.keeps (sq hH)) hk (rd.keeps (sq hH)) hn y) ?_;rintro v rfl;refine d134 ?_;refine rs9 ?_;refine k_ldA rfl zq ?_;refine d3 ?_
   refine k_calP (Post:=fun v=>v= .tuple [.int .i64 (if atS b xs y≠0 then 0 else atI b.pts xs y),.int .i64 (atS b xs y)].toArray) rfl zq (by kernel_rfl) (fun H' hH=>f24_c _ H' (b:=b) (xs:=xs) (rdp.keeps (sq hH)) hp (rdt.keeps (sq hH)) ht (rdk.keeps (sq hH)) hk (rd.keeps (sq hH)) hn y) ?_;rintro v rfl;refine d78 ?_;refine d97 ?_;refine rs8 ?_;refine d3 ?_;refine k_neqF rfl zq rfl ?_;refine d23 ?_;refine k_mv rfl rfl ?_;refine k_neqF rfl rfl rfl ?_;refine d126 ?_;refine rs10 ?_;refine k_ldA rfl zq ?_;refine d3 ?_;refine mq rfl ?_
   refine k_calP (Post:=fun v=>v= .tuple [.int .i64 (if girthS b xs f t≠0 then 0 else girthI b.pts xs f t),.int .i64 (girthS b xs f t)].toArray) rfl zq (by kernel_rfl) (fun H' hH=>f25_c _ H' (b:=b) (xs:=xs) (rdp.keeps (sq hH)) hp (rdt.keeps (sq hH)) ht (rdk.keeps (sq hH)) hk (rd.keeps (sq hH)) hn f t) ?_;rintro v rfl;refine d134 ?_;refine rs10 ?_;refine k_ldA rfl zq ?_;refine d3 ?_;refine mq rfl ?_
   refine k_calP (Post:=fun v=>v= .tuple [.int .i64 (if girthS b xs f t≠0 then 0 else girthI b.pts xs f t),.int .i64 (girthS b xs f t)].toArray) rfl zq (by kernel_rfl) (fun H' hH=>f26_c _ H' (b:=b) (xs:=xs) (rdp.keeps (sq hH)) hp (rdt.keeps (sq hH)) ht (rdk.keeps (sq hH)) hk (rd.keeps (sq hH)) hn f t) ?_;rintro v rfl;refine d78 ?_;refine d97 ?_;refine rs8 ?_;refine d3 ?_;refine k_neqF rfl zq rfl ?_;refine d23 ?_;refine k_mv rfl rfl ?_;refine k_neqF rfl rfl rfl ?_;refine d126 ?_;refine rs8 ?_;refine d69 ?_
   refine k_calP (Post:=fun v=>v= .tuple [.int .i64 (if fhandS b xs≠0 then 0 else areaI b.pts xs),.int .i64 (fhandS b xs)].toArray) rfl zq (by kernel_rfl) (fun H' hH=>f27_c _ H' (b:=b) (xs:=xs) (rdp.keeps (sq hH)) hp (rdt.keeps (sq hH)) ht (rdk.keeps (sq hH)) hk (rd.keeps (sq hH)) hn) ?_;rintro v rfl;refine d134 ?_;refine rs8 ?_;refine d69 ?_
   refine k_calP (Post:=fun v=>v= .tuple [.int .i64 (if fhandS b xs≠0 then 0 else areaI b.pts xs),.int .i64 (fhandS b xs)].toArray) rfl zq (by kernel_rfl) (fun H' hH=>f28_c _ H' (b:=b) (xs:=xs) (rdp.keeps (sq hH)) hp (rdt.keeps (sq hH)) ht (rdk.keeps (sq hH)) hk (rd.keeps (sq hH)) hn) ?_;rintro v rfl;refine d78 ?_;refine d97 ?_;refine rs8 ?_;refine d3 ?_;refine k_neqF rfl zq rfl ?_;refine d23 ?_;refine k_mv rfl rfl ?_;refine k_neqF rfl rfl rfl ?_;refine k_pickF rfl zq ?_;refine d37 ?_;refine rr8 ?_;refine d69 ?_
   refine k_calC rfl zq (by kernel_rfl) (Post:=fun v new=> ∃w,v= .tuple [w,.int .i64 (fhandS b xs)].toArray∧RdI B new w (if fhandS b xs≠0 then [] else innerL b xs)) (fun H' hH=>f29_c _ H' (b:=b) (xs:=xs) (rdp.keeps (sq hH)) hp (rdt.keeps (sq hH)) ht (rdk.keeps (sq hH)) hk (rd.keeps (sq hH)) hn) ?_;rintro v n29 ⟨w29,rfl,p29,c29,rfl,r29⟩;refine k_hpA (k_put ?_);refine d40 ?_;refine d46 ?_;refine rs8 ?_;refine d69 ?_
   refine k_calC rfl zq (by kernel_rfl) (Post:=fun v new=> ∃w,v= .tuple [w,.int .i64 (fhandS b xs)].toArray∧RdI B new w (if fhandS b xs≠0 then [] else innerL b xs)) (fun H' hH=>f30_c _ H' (b:=b) (xs:=xs) (rdp.keeps (sq hH)) hp (rdt.keeps (sq hH)) ht (rdk.keeps (sq hH)) hk (rd.keeps (sq hH)) hn) ?_;rintro v n30 ⟨w30,rfl,p30,c30,rfl,r30⟩;refine k_hpA (k_put ?_);refine d40 ?_;refine d97 ?_;refine rs9 ?_;refine d3 ?_
   refine k_calP (Post:=fun v=>IsB _ v) rfl zq (by kernel_rfl) (fun H' hH=>f31_c _ H' (r29.keeps (sq hH)) (by assumption) (r30.keeps (sq hH))) ?_;rintro v (⟨hc,rfl⟩|⟨hc,rfl⟩)
   ·refine d43 ?_;refine d23 ?_;refine k_mv rfl rfl ?_;refine k_neqF rfl rfl rfl ?_;refine d126 ?_;refine rs8 ?_;refine d69 ?_
    refine k_calP (Post:=fun v=> ∃w,v= .tuple [w,.int .i64 (fhandS b xs)].toArray∧IsB (fhandS b xs=0∧spansF b xs∧rightF b xs) w) rfl zq (by kernel_rfl) (fun H' hH=>f32_c _ H' (b:=b) (xs:=xs) (rdp.keeps (sq hH)) hp (rdt.keeps (sq hH)) ht (rdk.keeps (sq hH)) hk (rd.keeps (sq hH)) hn) ?_;rintro v ⟨w32,rfl,hw32⟩;obtain ⟨t32,rfl⟩:=isB_bool hw32
    refine d134 ?_;refine rs8 ?_;refine d69 ?_
    refine k_calP (Post:=fun v=> ∃w,v= .tuple [w,.int .i64 (fhandS b xs)].toArray∧IsB (fhandS b xs=0∧spansF b xs∧rightF b xs) w) rfl zq (by kernel_rfl) (fun H' hH=>f33_c _ H' (b:=b) (xs:=xs) (rdp.keeps (sq hH)) hp (rdt.keeps (sq hH)) ht (rdk.keeps (sq hH)) hk (rd.keeps (sq hH)) hn) ?_;rintro v ⟨w33,rfl,hw33⟩;obtain rfl:=isB_uniq hw33 hw32
    refine d134 ?_;refine rs12 ?_;refine d3 ?_
    refine k_eqBT rfl zq (by kernel_rfl) rfl ?_;refine d23 ?_;refine k_mv rfl rfl ?_;refine k_eqlT rfl rfl rfl ?_;refine k_pickT rfl zq ?_;refine mq rfl ?_
    refine k_cal rfl rfl (by kernel_rfl) (f18_c _) ?_;rintro v h' ⟨nF,rfl,rfl⟩;refine k_put ?_;refine d92 ?_;refine run_top rfl Tryz.func3 (by kernel_rfl) rfl ?_;rfl
   ·refine k_put ?_;exact absurd rfl hc
end Go.Proofs
