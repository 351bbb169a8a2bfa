/- A part of the proof of a law: my own separation logic over the machine, and walks of the program. Condition of each theorem: as its statement says. -/
import Derived.Test.YtnejmahckmhflaaGreatDoorWB9
set_option linter.all false
namespace Go.Proofs
open Go.Lo
open Go.Conc (G)
set_option maxRecDepth 100000
set_option synthInstance.maxHeartbeats 1000000
section
variable {P:Program} {B:Array Obj} {m:Md P B} {ops:Array Oper} {l l':List Value} {S h h' H:Hp} {C:List Value→Hp→Prop} {i:Nat} {kd:Kd} {r:List (Nat×Kd)}
 {d:Option Tmp} {ty:TypeId} {pos:String} {af:Array Edge} {g:Option (Nat×Bool)}
theorem k_leqT {t u:TypeId} {x y:Operand} {a b:Int} {k:IntKind} (ho:ops[i]?=some ⟨d,.binOp .leq t x y u,ty,pos,af,g⟩) (hw:Wt ops l g) [kh:KHeap kd S h H] [ex:OpV l x (.int k a)] [ey:OpV l y (.int k b)] (e:a≤b) [pt:PutV l d (.bool true) l'] (q:RegK m S ops r l' h C):RegK m S ops ((i,kd)::r) l h C:=by
 have pq:=pt;rw [←decide_eq_true e] at pq;exact k_leq (l':=l') ho hw q
theorem k_geqT {t u:TypeId} {x y:Operand} {a b:Int} {k:IntKind} (ho:ops[i]?=some ⟨d,.binOp .geq t x y u,ty,pos,af,g⟩) (hw:Wt ops l g) [kh:KHeap kd S h H] [ex:OpV l x (.int k a)] [ey:OpV l y (.int k b)] (e:b≤a) [pt:PutV l d (.bool true) l'] (q:RegK m S ops r l' h C):RegK m S ops ((i,kd)::r) l h C:=by
 have pq:=pt;rw [←decide_eq_true e] at pq;exact k_geq (l':=l') ho hw q
end
end Go.Proofs
namespace Go.Proofs
open Go.Lo
open Go.Conc (G)
set_option maxRecDepth 100000
set_option synthInstance.maxSize 100000
set_option synthInstance.maxHeartbeats 1000000
set_option maxHeartbeats 4000000
variable {B:Array Obj}
theorem f54_c (m:Md Tryz.prog B) (h:Hp) {p:Option Addr} {n c:Nat} {xs:List Int} (x:Int) (rd:RdS B h 1 (.slice p n c) n (ints xs)) (hn:n≤1000000):FnC m 54 #[.slice p n c,.int .i64 x] h fun v h'=>h'=h∧IsB (x∈xs) v:=by
 have hl:=rd.ilen
 refine fn_enter Tryz.func54 rfl rfl (l:=(.slice p n c)::(.int .i64 x)::uu16) rfl ?_
 intro cf cs K hK
 refine d93 ?_;refine d142 ?_
 refine run_loop (fun nn l h'=> ∃(k:Nat),nn=n-k∧(k≤n)∧(∀i,i<k→xs.getD i 0≠x)∧(∃U:Nat→Value,l=((.slice p n c)::(.int .i64 x)::(U 2)::(U 3)::(U 4)::(.int .i64 (k:Int))::(U 6)::vw11 U 7 []))∧h=h') _ ⟨0,rfl,by omega,by omega,exU rfl,rfl⟩ ?_;rintro nn l h' ⟨k,rfl,hk,he,⟨U,rfl⟩,rfl⟩ hnext;refine run_seq ?_;refine d120 ?_;refine k_lssS rfl zq (fun hc=>?_) (fun hc=>?_)
 ·refine d98 ?_;refine rs6 ?_;refine d3 ?_
  obtain ⟨rd_b,rd_o,rfl⟩:=rd.ptr (by omega)
  refine k_ixs rfl zq (by first|rfl|assumption) (by omega) (by omega) ?_;refine k_ld rfl zq (rd.iat k (by omega) (by omega)) ?_;refine mq rfl ?_
  refine k_eqlS rfl zq (fun hc=>?_) (fun hc=>?_)
  ·refine d58 ?_
   refine run_res (h) rfl Tryz.func54 rfl weakSub ?_;refine hK _ _ ?_;exact ⟨rfl,IsB.yes (mem_getD.2 ⟨k,by omega,by assumption⟩)⟩
  ·refine d13 ?_;refine d109 ?_
   exact m.weak weakSub (hnext _ _ _ (by omega) ⟨k+1,rfl,by omega,fun i hi=>by
    rcases Nat.lt_or_ge i k with h1|h1
    ·exact he i h1
    ·obtain rfl:i=k:=by omega
     assumption,exU rfl,rfl⟩)
 ·refine d75 ?_;refine d38 ?_
  refine run_res (h) rfl Tryz.func54 rfl weakSub ?_;refine hK _ _ ?_;exact ⟨rfl,IsB.no fun e=>by
   obtain ⟨i,h1,h2⟩:=mem_getD.1 e
   exact he i (by omega) h2⟩
theorem root_step {n k s:Nat} (h1:k*k≤n) (h2:n<(k+2*s)*(k+2*s)):(((k+s)*(k+s)≤n)→(k+s)*(k+s)≤n∧n<(k+s+s)*(k+s+s))∧(¬(k+s)*(k+s)≤n→k*k≤n∧n<(k+s)*(k+s)):=
 ⟨fun h=>⟨h,by rw [show k+s+s=k+2*s by omega];exact h2⟩,fun h=>⟨h1,by omega⟩⟩
theorem sum_cast (k s:Nat):((k:Int)+(s:Int))*((k:Int)+(s:Int))=(((k+s)*(k+s):Nat):Int):=by rw [Int.natCast_mul];rfl
theorem half_pow {s e:Nat} (hs:s=2^(e-1)) (h1:1≤e) (h2:e≤21):(s/2=0∧s=1∧e-1=0)∨(s=2*(s/2)∧s/2=2^(e-1-1)∧1≤e-1∧e-1≤21):=by
 by_cases he:e=1
 ·subst he
  subst hs
  exact .inl (by decide)
 ·obtain ⟨d,rfl⟩: ∃d,e=d+2:=⟨e-2,by omega⟩
  have:2^(d+2-1)=2*2^d:=by rw [show d+2-1=d+1 by omega,Nat.pow_succ,Nat.mul_comm]
  rw [hs,this];exact .inr ⟨by omega,by rw [show d+2-1-1=d by omega];omega,by omega,by omega⟩
theorem f85_c (m:Md Tryz.prog B) (h:Hp) (n:Nat) (hn:n≤4000000):FnC m 85 #[.int .i64 (n:Int)] h fun v h'=>h'=h∧v= .int .i64 (rootI n):=by
 refine fn_enter Tryz.func85 rfl rfl (l:=(.int .i64 (n:Int))::uu21) rfl ?_
 intro cf cs K hK
 refine d82 ?_;refine d93 ?_;refine d142 ?_
 refine run_loop (fun nn l h'=> ∃(k s w:Nat) (e:Nat),nn=e*1∧(k*k≤n)∧(n<(k+w)*(k+w))∧(k≤2000)∧((s=0∧w=1∧e=0)∨(w=2*s∧s=2^(e-1)∧1≤e∧e≤21))∧(∃U:Nat→Value,l=((.int .i64 (n:Int))::(U 1)::(U 2)::(.int .i64 (k:Int))::(.int .i64 (s:Int))::vw17 U 5 []))∧h=h') _ ⟨0,1048576,2097152,21,rfl,by omega,by omega,by omega,.inr (by decide),exU rfl,rfl⟩ ?_;rintro nn l h' ⟨k,s,w,e,rfl,hk,hkw,hk2,hse,⟨U,rfl⟩,rfl⟩ hnext;have hs20:s≤1048576:=by
  rcases hse with ⟨rfl,_⟩|⟨_,rfl,_,he⟩
  ·omega
  ·exact Nat.pow_le_pow_right (n:=2) (by omega) (show e-1≤20 by omega)
 have hsq:(k+s)*(k+s)≤1100000*1100000:=sq_le (by omega)
 have hkc:=sum_cast k s
 refine run_seq ?_;refine d18 ?_;refine k_gtrS rfl zq (fun hc=>?_) (fun hc=>?_)
 ·refine d98 ?_;refine rs9 ?_;refine d3 ?_;refine k_add rfl zq (by unfold In64;omega) ?_;refine d3 ?_;refine k_add rfl zq (by unfold In64;omega) ?_;refine k_mul rfl zq (by unfold In64;omega) ?_;refine mq rfl ?_
  refine k_leqS rfl zq (fun hc=>?_) (fun hc=>?_)
  ·refine d7 ?_;refine rr4 ?_;refine d3 ?_;refine k_add rfl zq (by unfold In64;omega) ?_;refine d45 ?_;refine rr3 ?_;refine mq rfl ?_
   refine k_quo s 2 rfl zq rfl rfl (by omega) (by omega) ?_;refine aq rfl ?_
   obtain ⟨rfl,hs,he1,he2⟩:=hse.resolve_left (by omega)
   have hrs:=(root_step hk hkw).1 (by omega)
   have hk2000:k+s≤2000:=by
    rcases Nat.lt_or_ge 2000 (k+s) with h3|h3
    ·have:=sq_le (show 2001≤k+s by omega);omega
    ·exact h3
   exact m.weak weakSub (hnext _ _ _ (by rcases hse with ⟨_,_,_⟩|⟨_,_,_,_⟩<;>omega) ⟨k+s,s/2,s,e-1,rfl,hrs.1,hrs.2,hk2000,half_pow hs he1 he2,exU rfl,rfl⟩)
  ·refine d13 ?_;refine d62 ?_;refine mq rfl ?_
   refine k_quo s 2 rfl zq rfl rfl (by omega) (by omega) ?_;refine aq rfl ?_
   obtain ⟨rfl,hs,he1,he2⟩:=hse.resolve_left (by omega)
   have hrs:=(root_step hk hkw).2 (by omega)
   exact m.weak weakSub (hnext _ _ _ (by rcases hse with ⟨_,_,_⟩|⟨_,_,_,_⟩<;>omega) ⟨k,s/2,s,e-1,rfl,hrs.1,hrs.2,hk2,half_pow hs he1 he2,exU rfl,rfl⟩)
 ·refine d75 ?_;refine d99 ?_
  refine run_res (h) rfl Tryz.func85 rfl weakSub ?_;refine hK _ _ ?_;obtain rfl:s=0:=by omega
  obtain ⟨_,rfl,_⟩:=hse.resolve_right (by rintro ⟨h1,h2,h3,_⟩;have:=Nat.pow_pos (n:=e-1) (show 0<2 by omega);omega)
  refine ⟨rfl,?_⟩
  rw [show rootI (n:Int)=(k:Int) by rw [rootI,Int.toNat_natCast,rootN_eq hk hkw]]
end Go.Proofs
namespace Go.Proofs
open Go.Lo
open Go.Conc (G)
set_option maxRecDepth 100000
set_option synthInstance.maxSize 100000
set_option synthInstance.maxHeartbeats 1000000
set_option maxHeartbeats 4000000
variable {b:Fb} {pp:Option Addr} {np cp:Nat} {pt:Option Addr} {nt ct:Nat} {pk:Option Addr} {nk ck:Nat}
variable {B:Array Obj}
section
variable {P:Program} {B:Array Obj} {m:Md P B} {ops:Array Oper} {l l':List Value} {S h h' H:Hp} {C:List Value→Hp→Prop} {i:Nat} {kd:Kd} {r:List (Nat×Kd)}
 {d:Option Tmp} {ty:TypeId} {pos:String} {af:Array Edge} {g:Option (Nat×Bool)}
end
theorem f155_c (m:Md Tryz.prog B) (h:Hp) (x y:Int) (hx: -10000000≤x∧x≤10000000) (hy:0<y∧y≤1000):FnC m 155 #[.int .i64 x,.int .i64 y] h fun v h'=>h'=h∧v= .int .i64 (downI x y):=by
 refine fn_enter Tryz.func155 rfl rfl (l:=(.int .i64 x)::(.int .i64 y)::uu15) rfl ?_
 intro cf cs K hK
 refine d82 ?_;refine d64 ?_
 have hds:=divs (x:=x) hy.1
 have hdb:=div_small (x:=x) hy.1 hx
 have hq: -10000001≤x.tdiv y∧x.tdiv y≤10000001:=by omega
 refine k_quoZ rfl zq (by omega) (by unfold In64;omega) ?_;refine d12 ?_;refine rs5 ?_;refine d3 ?_
 have hmb:=mulB hq (show-1000≤y∧y≤1000 by omega)
 have hme:(x.tdiv y)*y=x-x.tmod y:=by have:=Int.mul_tdiv_add_tmod x y;rw [Int.mul_comm] at this;omega
 refine k_mul rfl zq (by unfold In64;omega) ?_;refine mq rfl ?_;refine k_gtrS rfl zq (fun hc=>?_) (fun hc=>?_)
 ·refine d7 ?_;refine rr3 ?_;refine d36 ?_;refine aq rfl ?_;refine d99 ?_
  refine run_res (h) rfl Tryz.func155 rfl weakSub ?_;refine hK _ _ ?_;refine ⟨rfl,?_⟩
  unfold downI
  congr 2
  omega
 ·refine d13 ?_;refine d99 ?_
  refine run_res (h) rfl Tryz.func155 rfl weakSub ?_;refine hK _ _ ?_;refine ⟨rfl,?_⟩
  unfold downI
  congr 2
  omega
theorem f94_c (m:Md Tryz.prog B) (h:Hp) (rdp:Rp B h b pp np cp) (hp:np≤1000) {p:Option Addr} {n c:Nat} {xs:List Int} (rd:RdS B h 1 (.slice p n c) n (ints xs)) (hn:n≤1000) (hln:np≤n) (hpo:PtsOk b.pts) (hs:SmL xs) (x:Int) (hx:(b.pts.getD 0 default).h≤x∧x≤(b.pts.getD (np-1) default).h):FnC m 94 #[fbV b pp np cp pt nt ct pk nk ck,.slice p n c,.int .i64 x] h fun v h'=>h'=h∧v= .int .i64 (atI b.pts xs x):=by
 have hml:=rdp.elen (by decide)
 have hll:=rd.ilen
 have hnp2:=hpo.two
 have hnp5:=hpo.five
 refine fn_enter Tryz.func94 rfl rfl (l:=(fbV b pp np cp pt nt ct pk nk ck)::(.slice p n c)::(.int .i64 x)::uu54) rfl ?_
 intro cf cs K hK
 refine rs2 ?_;refine k_box rfl zq (fun q3=>k_hp (k_put ?_));refine aq rfl ?_;refine d93 ?_;refine run_block ?_
 refine run_loop (fun nn l h'=> ∃(i:Nat),nn=np-i∧(i+1<np)∧(∀k,k<i→(b.pts.getD (k+1) default).h<x)∧(∃U:Nat→Value,l=((fbV b pp np cp pt nt ct pk nk ck)::(.slice p n c)::(.int .i64 x)::(.pointer (some ⟨q3,0,none⟩))::(U 4)::(U 5)::(U 6)::(.int .i64 (i:Int))::(U 8)::vw48 U 9 []))∧h++[⟨true,q3,.cells (fbL b pp np cp pt nt ct pk nk ck).toArray 26 (0,0)⟩]=h') _ ⟨0,rfl,by omega,fun k hk=>by omega,exU rfl,rfl⟩ ?_;rintro nn l h' ⟨i,rfl,hi,hlow,⟨U,rfl⟩,rfl⟩ hnext;refine run_seq ?_;refine rs9 ?_;refine d2 ?_;refine d4 ?_;obtain ⟨rdp_b,rdp_o,rfl⟩:=rdp.ptr (by omega)
 refine d20 ?_
 refine k_ld rfl zq (rdp.fat (v:= .int .i64 (b.pts.getD (i+1) default).h) (i+1) 0 (by omega) (by omega) rfl) ?_;refine mq rfl ?_
 refine k_lssS rfl zq (fun hc=>?_) (fun hc=>?_)
 ·refine d7 ?_;refine d103 ?_;refine rr3 ?_;refine d4 ?_;refine d45 ?_
  exact m.weak weakSub (hnext _ _ _ (by omega) ⟨i+1,rfl,by
   rcases Nat.lt_or_ge (i+1+1) np with h3|h3
   ·exact h3
   ·have:np-1=i+1:=by omega
    rw [this] at hx
    omega,fun k hk=>by
   rcases Nat.lt_or_ge k i with h3|h3
   ·exact hlow k h3
   ·obtain rfl:k=i:=by omega
    assumption,exU rfl,rfl⟩)
 ·refine d75 ?_;refine run_seq ?_
  have hseg:segN b.pts x=i:=segN_eq (by omega) hlow (by omega)
  have ha:=hpo.at (show i<b.pts.length by omega)
  have hb:=hpo.at (show i+1<b.pts.length by omega)
  have hup:=hpo.up i (by omega)
  have hl0:=hs i
  have hl1:=hs (i+1)
  have hxi:(b.pts.getD i default).h≤x:=by
   rcases Nat.eq_zero_or_pos i with h3|h3
   ·rw [h3];exact hx.1
   ·have:=hlow (i-1) (by omega);rw [show i-1+1=i by omega] at this;omega
  have hmul:=mulB (x:=xs.getD (i+1) 0-xs.getD i 0) (y:=x-(b.pts.getD i default).h) (a:=959) (b:=959) (by omega) (by omega)
  refine run_draw [(0,.pure),(2,.pure),(6,.pure),(8,.pure),(9,.pure),(1,.read),(3,.pure),(4,.pure),(5,.read),(13,.pure),(7,.read),(10,.pure),(11,.pure),(12,.read),(14,.pure)] (by kernel_rfl) (by kernel_rfl) (List.Sublist.refl _) ?_;(first|refine k_fa0 rfl zq ?_|refine k_fa rfl zq ?_);refine mq rfl ?_;(first|refine k_fa0 rfl zq ?_|refine k_fa rfl zq ?_);refine d4 ?_;refine k_ldh rfl zq ?_;refine d20 ?_
  refine k_ld rfl zq (rdp.fat (v:= .int .i64 (b.pts.getD i default).h) i 0 (by omega) (by omega) rfl) ?_;refine k_as rfl zq ?_;refine k_ldh rfl zq ?_;refine d20 ?_;refine k_ld rfl zq (rdp.fat (v:= .int .i64 (b.pts.getD (i+1) default).h) (i+1) 0 (by omega) (by omega) rfl) ?_;refine d12 ?_
  refine run_draw [(0,.pure),(1,.pure),(2,.pure),(4,.pure),(5,.pure),(6,.pure),(7,.pure),(9,.pure),(10,.pure),(11,.pure),(14,.pure),(15,.pure),(16,.pure),(18,.pure),(19,.pure),(20,.pure),(3,.read),(8,.read),(12,.read),(13,.pure),(17,.pure),(21,.keep),(22,.pure),(23,.pure)] (by kernel_rfl) (by kernel_rfl) (List.Sublist.refl _) ?_;refine d3 ?_
  obtain ⟨rd_b,rd_o,rfl⟩:=rd.ptr (by omega)
  refine k_ixs rfl zq (by first|rfl|assumption) (by omega) (by omega) ?_;refine d3 ?_;refine k_add rfl zq (by unfold In64;omega) ?_;refine k_ixs rfl zq (by first|rfl|assumption) (by omega) (by omega) ?_;refine d11 ?_;refine d26 ?_;refine d26 ?_;refine k_ld rfl zq (rd.iat i (by omega) (by omega)) ?_;refine k_ld rfl zq (rd.iat (i+1) (by omega) (by omega)) ?_;refine k_ld rfl zq (rd.iat i (by omega) (by omega)) ?_;refine k_sub rfl zq (by unfold In64;omega) ?_;refine k_mul rfl zq (by unfold In64;omega) ?_;refine k_calP (Post:=fun v=>v=_) rfl zq (by kernel_rfl) (fun H' hH=>f155_c m H' _ _ (by omega) (by omega)) ?_;rintro v rfl;refine k_put ?_;have hdn:=div_small (x:=(xs.getD (i+1) 0-xs.getD i 0)*(x-(b.pts.getD i default).h)) (y:=(b.pts.getD (i+1) default).h-(b.pts.getD i default).h) (by omega) (b:=959*959) hmul
  unfold downI
  refine d121 ?_
  refine run_res (h) rfl Tryz.func94 rfl weakSub ?_;refine hK _ _ ?_;refine ⟨rfl,?_⟩
  unfold atI
  rw [hseg];rfl
theorem f98_c (m:Md Tryz.prog B) (h:Hp) (rdp:Rp B h b pp np cp) (hp:np≤1000) {p:Option Addr} {n c:Nat} {xs:List Int} (rd:RdS B h 1 (.slice p n c) n (ints xs)) (hn:n≤1000) (hln:np≤n) (hpo:PtsOk b.pts) (hs:SmL xs) (f t:Nat) (hft:f≤t) (ht:t<np):FnC m 98 #[fbV b pp np cp pt nt ct pk nk ck,.slice p n c,.int .i64 (f:Int),.int .i64 (t:Int)] h fun v h'=>h'=h∧v= .int .i64 (girthI b.pts xs f t):=by
 have hml:=rdp.elen (by decide)
 have hll:=rd.ilen
 have hnp2:=hpo.two
 have hnp5:=hpo.five
 refine fn_enter Tryz.func98 rfl rfl (l:=[fbV b pp np cp pt nt ct pk nk ck,.slice p n c,.int .i64 (f:Int),.int .i64 (t:Int),undef,undef,undef,undef,undef,undef,undef,undef,undef,undef,undef,undef,undef,undef,undef,undef,undef,undef,undef,undef,undef,undef,undef,undef,undef,undef,undef,undef,undef,undef,undef,undef,undef,undef,undef,undef,undef,undef,undef,undef,undef,undef,undef,undef,undef,undef,undef,undef,undef,undef]) rfl ?_
 intro cf cs K hK
 refine rs2 ?_;refine k_box rfl zq (fun q4=>k_hp (k_put ?_));refine aq rfl ?_;refine rs1 ?_;refine d68 ?_;refine d54 ?_
 refine run_loop (fun nn l h'=> ∃(k:Nat) (s:Int),nn=t-(f+k)∧(f+k≤t)∧(s=girthF b.pts xs f k)∧(0≤s)∧(s≤k*1400)∧(∃U:Nat→Value,l=((fbV b pp np cp pt nt ct pk nk ck)::(.slice p n c)::(.int .i64 (f:Int))::(.int .i64 (t:Int))::(.pointer (some ⟨q4,0,none⟩))::vw4 U 5 ((.int .i64 s)::(.int .i64 ((f+k:Nat):Int))::(U 11)::vw42 U 12 [])))∧h++[⟨true,q4,.cells (fbL b pp np cp pt nt ct pk nk ck).toArray 26 (0,0)⟩]=h') _ ⟨0,0,rfl,by omega,rfl,by omega,by omega,exU rfl,rfl⟩ ?_;rintro nn l h' ⟨k,s,rfl,hk,hsum,hs0,hs1,⟨U,rfl⟩,rfl⟩ hnext;refine run_seq ?_;refine rs3 ?_;refine d3 ?_;refine k_lssS rfl zq (fun hc=>?_) (fun hc=>?_)
 ·refine d98 ?_;refine run_seq ?_
  have ha:=hpo.at (show f+k<b.pts.length by omega)
  have hb:=hpo.at (show f+k+1<b.pts.length by omega)
  have hup:=hpo.up (f+k) (by omega)
  have hl0:=hs (f+k)
  have hl1:=hs (f+k+1)
  obtain ⟨N,hN,hN2⟩:=side_nat (x:=(b.pts.getD (f+k+1) default).h-(b.pts.getD (f+k) default).h) (y:=xs.getD (f+k+1) 0-xs.getD (f+k) 0) (by omega) (by omega)
  have hrs:=root_small hN2
  have hro:sideI b.pts xs (f+k)=(rootN N:Int):=by rw [sideI,hN];rfl
  have hrI:rootI (N:Int)=(rootN N:Int):=rfl
  refine run_draw [(0,.pure),(2,.pure),(3,.pure),(7,.pure),(9,.pure),(14,.pure),(15,.pure),(16,.pure),(17,.pure),(19,.pure),(20,.pure),(21,.pure),(1,.read),(4,.pure),(5,.pure),(6,.read),(8,.read),(10,.pure),(11,.pure),(12,.read),(13,.pure),(24,.pure),(18,.read),(22,.read),(23,.pure),(25,.pure)] (by kernel_rfl) (by kernel_rfl) (List.Sublist.refl _) ?_;(first|refine k_fa0 rfl zq ?_|refine k_fa rfl zq ?_);refine d4 ?_;(first|refine k_fa0 rfl zq ?_|refine k_fa rfl zq ?_);refine d3 ?_;refine d4 ?_
  obtain ⟨rd_b,rd_o,rfl⟩:=rd.ptr (by omega)
  refine k_ixs rfl zq (by first|rfl|assumption) (by omega) (by omega) ?_;refine d11 ?_;refine k_ldh rfl zq ?_;obtain ⟨rdp_b,rdp_o,rfl⟩:=rdp.ptr (by omega)
  refine d20 ?_
  refine k_ld rfl zq (rdp.fat (v:= .int .i64 (b.pts.getD ((f+k)+1) default).h) ((f+k)+1) 0 (by omega) (by omega) rfl) ?_;refine k_ldh rfl zq ?_;refine d20 ?_;refine k_ld rfl zq (rdp.fat (v:= .int .i64 (b.pts.getD (f+k) default).h) (f+k) 0 (by omega) (by omega) rfl) ?_;refine k_sub rfl zq (by unfold In64;omega) ?_;refine k_as rfl zq ?_;refine k_ld rfl zq (rd.iat ((f+k)+1) (by omega) (by omega)) ?_;refine k_ld rfl zq (rd.iat (f+k) (by omega) (by omega)) ?_;refine k_sub rfl zq (by unfold In64;omega) ?_;refine aq rfl ?_;refine rr11 ?_;have hq1:=mulB (x:=(b.pts.getD (f+k+1) default).h-(b.pts.getD (f+k) default).h) (y:=(b.pts.getD (f+k+1) default).h-(b.pts.getD (f+k) default).h) (a:=959) (b:=959) (by omega) (by omega)
  have hq2:=mulB (x:=xs.getD (f+k+1) 0-xs.getD (f+k) 0) (y:=xs.getD (f+k+1) 0-xs.getD (f+k) 0) (a:=959) (b:=959) (by omega) (by omega)
  refine d3 ?_;refine mq rfl ?_;refine k_mul rfl zq (by unfold In64;omega) ?_;refine d3 ?_;refine d53 ?_
  rw [hN];refine k_calP (Post:=fun v=>v=_) rfl zq (by kernel_rfl) (fun H' hH=>f85_c m H' N (by omega)) ?_;rintro v rfl;refine k_put ?_;rw [hrI];refine k_add rfl zq (by unfold In64;omega) ?_;refine d45 ?_;refine rr3 ?_;refine d61 ?_;exact m.weak weakSub (hnext _ _ _ (by omega) ⟨k+1,_,rfl,by omega,by rw [girthF,←hsum,hro],by omega,by push_cast;omega,exU rfl,rfl⟩)
 ·refine d75 ?_;refine d99 ?_
  refine run_res (h) rfl Tryz.func98 rfl weakSub ?_;refine hK _ _ ?_;obtain rfl:k=t-f:=by omega
  exact ⟨rfl,by rw [hsum,girthI,Int.toNat_natCast,show ((t:Int)-(f:Int)).toNat=t-f by omega]⟩
end Go.Proofs
namespace Go.Proofs
open Go.Lo
open Go.Conc (G)
set_option maxRecDepth 100000
set_option synthInstance.maxSize 100000
set_option synthInstance.maxHeartbeats 1000000
set_option maxHeartbeats 4000000
variable {B:Array Obj}
variable [LaidF B]
theorem fold_min (a:Int) (l:List Int) (y:Int):y≤l.foldl min a↔y≤a∧ ∀z∈l,y≤z:=by
 induction l generalizing a with
 |nil=>simp
 |cons c r ih=>
  have e:y≤min a c↔y≤a∧y≤c:=by omega
  rw [List.foldl_cons,ih,e,and_assoc];simp only [List.mem_cons,forall_eq_or_imp]
theorem fold_max (a:Int) (l:List Int) (y:Int):l.foldl max a<y↔a<y∧ ∀z∈l,z<y:=by
 induction l generalizing a with
 |nil=>simp
 |cons c r ih=>
  have e:max a c<y↔a<y∧c<y:=by omega
  rw [List.foldl_cons,ih,e,and_assoc];simp only [List.mem_cons,forall_eq_or_imp]
theorem le_minL {ys:List Int} (h:ys≠[]) (y:Int):y≤minL ys↔ ∀z∈ys,y≤z:=by
 cases ys with
 |nil=>exact absurd rfl h
 |cons a r=>
  show y≤(List.drop 1 (a::r)).foldl min a↔_
  rw [fold_min];simp
theorem maxL_lt {ys:List Int} (h:ys≠[]) (y:Int):maxL ys<y↔ ∀z∈ys,z<y:=by
 cases ys with
 |nil=>exact absurd rfl h
 |cons a r=>
  show (List.drop 1 (a::r)).foldl max a<y↔_
  rw [fold_max];simp
theorem breadths_le {b:Fb} {s:Int} {k:Nat} {ys:List Int} (h: ∀z,z∈ys↔z∈breadthsAt (openL b (openS b s)) k) (ha:Asc ys):ys.length≤1000000:=by
 have h1:=List.Nodup.length_le_of_subset (l₂:=breadthsAt (openL b (openS b s)) k) (asc_nodup ha) fun z hz=>(h z).1 hz
 have h2:(openL b (openS b s)).length≤243:=by
  unfold openL
  split
  ·simp
  ·rename_i h
   exact boatsOf_le (fbS_zero (openS_zero (Classical.not_not.1 h)).1).pts
 rw [breadthsAt,List.length_map] at h1
 omega
end Go.Proofs
namespace Go.Proofs
open Go.Lo
open Go.Conc (G)
set_option maxRecDepth 100000
set_option synthInstance.maxSize 100000
set_option synthInstance.maxHeartbeats 1000000
set_option maxHeartbeats 4000000
variable {b:Fb} {pp:Option Addr} {np cp:Nat} {pt:Option Addr} {nt ct:Nat} {pk:Option Addr} {nk ck:Nat}
variable {B:Array Obj}
variable [LaidF B]
abbrev u16s (zs:List Int):List Value:=zs.map (Value.int .u16)
theorem u16_at {zs:List Int} {k:Nat} (h:k<zs.length):(u16s zs).getD k undef= .int .u16 (zs.getD k 0):=by
 rw [List.getD_eq_getElem?_getD,List.getD_eq_getElem?_getD,List.getElem?_map,List.getElem?_eq_getElem h];rfl
theorem getD_sn (l:List Int) (x:Int) (i:Nat):(l++[x]).getD i 0=if i<l.length then l.getD i 0 else if i=l.length then x else 0:=by
 rw [List.getD_eq_getElem?_getD,List.getD_eq_getElem?_getD,List.getElem?_append];split
 ·rfl
 ·split
  ·rename_i h1 h2
   subst h2
   simp
  ·rename_i h1 h2
   rw [List.getElem?_eq_none (by simp;omega)];rfl
theorem _root_.Go.Lo.PtsOk.span {pts:List Pt} (k:PtsOk pts) {i:Nat} (hi:i<pts.length):0≤(pts.getD i default).lo∧(pts.getD i default).lo≤(pts.getD i default).hi∧(pts.getD i default).hi≤959:=(k.ok _ (mem_getDR.2 ⟨i,hi,rfl⟩)).2.1
theorem _root_.Go.Lo.PtsOk.lt {pts:List Pt} (k:PtsOk pts): ∀(d i:Nat),i+d+1<pts.length→(pts.getD i default).h<(pts.getD (i+d+1) default).h
 |0,i,h=>k.up i (by omega)
 |d+1,i,h=>by
  have h1:=k.lt d i (by omega)
  have h2:=k.up (i+d+1) (by omega)
  rw [show i+(d+1)+1=i+d+1+1 by omega];omega
theorem _root_.Go.Lo.PtsOk.ends {pts:List Pt} (k:PtsOk pts):(pts.getD 0 default).h<(pts.getD (pts.length-1) default).h:=by
 have h2:=k.two
 have:=k.lt (pts.length-2) 0 (by omega)
 rw [show 0+(pts.length-2)+1=pts.length-1 by omega] at this
 exact this
theorem f48_c (m:Md Tryz.prog B) (h:Hp) (rdp:Rp B h b pp np cp) (rdt:Rt B h b pt nt ct) (rdk:Rk B h b pk nk ck):FnC m 48 #[fbV b pp np cp pt nt ct pk nk ck] h fun v h'=>h'=h∧IsB (np≤20∧nt≤20∧nk≤20∧fbS b=0) v:=by
 refine fn_enter Tryz.func48 rfl rfl (l:=(fbV b pp np cp pt nt ct pk nk ck)::uu10) rfl ?_
 intro cf cs K hK
 refine rs2 ?_;refine k_box rfl zq (fun q1=>k_hp (k_put ?_));refine aq rfl ?_;refine rs9 ?_;refine k_ldA rfl zq ?_
 refine k_calP (Post:=fun v=>IsB _ v) rfl zq (by kernel_rfl) (fun H' hH=>f17_c m H') ?_;rintro v (⟨hc,rfl⟩|⟨hc,rfl⟩)
 ·refine d43 ?_;refine d52 ?_;refine d72 ?_;refine d0 ?_
  refine run_res (h) rfl Tryz.func48 rfl weakSub ?_;refine hK _ _ ?_;first|exact ⟨rfl,IsB.yes ⟨by omega,by omega,by omega,by omega⟩⟩|exact ⟨rfl,IsB.no (by omega)⟩
 ·refine d44 ?_;refine mq rfl ?_;refine k_ldA rfl rfl ?_
  refine k_calP (Post:=fun v=>v=_) rfl rfl (by kernel_rfl) (fun H' hH=>f22_c m H' (rdp.keeps (sq hH)) (by omega) (rdt.keeps (sq hH)) (by omega) (rdk.keeps (sq hH)) (by omega)) ?_;rintro v rfl;refine k_put ?_;refine k_eqlS rfl rfl (fun hc=>?_) (fun hc=>?_)
  ·refine d92 ?_
   refine run_res (h) rfl Tryz.func48 rfl weakSub ?_;refine hK _ _ ?_;first|exact ⟨rfl,IsB.yes ⟨by omega,by omega,by omega,by omega⟩⟩|exact ⟨rfl,IsB.no (by omega)⟩
  ·refine d92 ?_
   refine run_res (h) rfl Tryz.func48 rfl weakSub ?_;refine hK _ _ ?_;first|exact ⟨rfl,IsB.yes ⟨by omega,by omega,by omega,by omega⟩⟩|exact ⟨rfl,IsB.no (by omega)⟩
theorem f128_c (m:Md Tryz.prog B) (h:Hp) {p:Option Addr} {n c:Nat} {zs:List Int} (rd:RdS B h 1 (.slice p n c) n (u16s zs)) (hz: ∀z∈zs,0≤z∧z≤65535) (k:Nat):FnC m 128 #[.slice p n c,.int .i64 (k:Int)] h fun v h'=>h'=h∧ ∃z:Nat,z≤65535∧v= .int .i64 (z:Int):=by
 refine fn_enter Tryz.func128 rfl rfl (l:=(.slice p n c)::(.int .i64 (k:Int))::uu16) rfl ?_
 intro cf cs K hK
 refine d93 ?_;refine rs8 ?_;refine mq rfl ?_
 refine k_geqS rfl zq (fun hc=>?_) (fun hc=>?_)
 ·refine d23 ?_;refine k_mv rfl rfl ?_;refine k_len rfl rfl ?_
  refine k_lssS rfl rfl (fun hc=>?_) (fun hc=>?_)
  ·refine k_pickT rfl zq ?_;refine d7 ?_;refine rs6 ?_;refine d3 ?_;have hzl:zs.length=n:=by have:=rd.len;simpa using this
   obtain ⟨pb,po,rfl⟩:=rd.ptr (by omega)
   refine k_ixs rfl zq (by first|rfl|assumption) (by omega) (by omega) ?_;have hzk:=getD_all hz (k:=k) (by omega)
   refine k_ld rfl zq (u16_at (zs:=zs) (k:=k) (by omega)▸rd.vat k (by omega) (by omega)) ?_;refine k_conv rfl zq (by kernel_rfl) (n':=zs.getD k 0) (by generalize zs.getD k 0=gz at hzk⊢;unfold IntKind.wrap;simp [IntKind.bits,IntKind.signed];omega) ?_;refine d0 ?_
   refine run_res (h) rfl Tryz.func128 rfl weakSub ?_;refine hK _ _ ?_;exact ⟨rfl,(zs.getD k 0).toNat,by omega,by rw [Int.toNat_of_nonneg (by omega)]⟩
  ·refine k_pickT rfl zq ?_;refine d13 ?_;refine d38 ?_;refine run_res (h) rfl Tryz.func128 rfl weakSub ?_;refine hK _ _ ?_;exact ⟨rfl,0,by omega,rfl⟩
 ·exact absurd hc (by omega)
theorem f49_c (m:Md Tryz.prog B) (h:Hp) (rdp:Rp B h b pp np cp) (hp:np≤1000) (hv:FOk b) {p:Option Addr} {n c:Nat} {zs:List Int} (rd:RdS B h 1 (.slice p n c) n (u16s zs)) (hz: ∀z∈zs,0≤z∧z≤65535):FnC m 49 #[fbV b pp np cp pt nt ct pk nk ck,.slice p n c] h fun v h'=> ∃new,h'=h++new∧ ∃ln,OwnS 3 1 v ln.length (ints ln) new∧ln.length=b.pts.length∧spansF b ln:=by
 have hml:=rdp.elen (by decide)
 refine fn_enter Tryz.func49 rfl rfl (l:=(fbV b pp np cp pt nt ct pk nk ck)::(.slice p n c)::uu26) rfl ?_
 intro cf cs K hK
 refine rs2 ?_;refine k_box rfl zq (fun q2=>k_hp (k_put ?_));refine aq rfl ?_;refine d93 ?_;refine d142 ?_
 refine run_loop (fun nn l h'=> ∃(k:Nat) (w:Value) (new:Hp) (ln:List Int),nn=np-k∧(k≤np)∧(ln.length=k)∧(OwnS 3 1 w k (ints ln) new)∧(∀i,i<k→(b.pts.getD i default).lo≤ln.getD i 0∧ln.getD i 0≤(b.pts.getD i default).hi)∧(∃U:Nat→Value,l=((fbV b pp np cp pt nt ct pk nk ck)::(.slice p n c)::(.pointer (some ⟨q2,0,none⟩))::(U 3)::(U 4)::w::(.int .i64 (k:Int))::(U 7)::vw20 U 8 []))∧h++[⟨true,q2,.cells ((fbL b pp np cp pt nt ct pk nk ck).toArray) 26 (0,0)⟩]++new=h') _ ⟨0,_,[],[],rfl,by omega,rfl,OwnS.nil,fun i hi=>by omega,exU rfl,(by simp)⟩ ?_;rintro nn l h' ⟨k,w,new,ln,rfl,hk,hll,ho,hla,⟨U,rfl⟩,rfl⟩ hnext;refine run_seq ?_;refine rs5 ?_;refine mq rfl ?_;refine d114 ?_;refine k_lssS rfl zq (fun hc=>?_) (fun hc=>?_)
 ·refine d98 ?_
  refine run_draw [(0,.pure),(1,.pure),(3,.pure),(7,.pure),(8,.pure),(2,.read),(4,.pure),(5,.pure),(6,.read),(9,.keep),(10,.keep),(11,.keep),(12,.free),(13,.pure)] (by kernel_rfl) (by kernel_rfl) (List.Sublist.refl _) ?_;refine mq rfl ?_;(first|refine k_fa0 rfl zq ?_|refine k_fa rfl zq ?_);refine d3 ?_;refine mq rfl ?_;refine k_ldh rfl zq ?_
  obtain ⟨rdp_b,rdp_o,rfl⟩:=rdp.ptr (by omega)
  refine d20 ?_
  refine k_ldN (vs:=[.int .i64 (b.pts.getD k default).lo,.int .i64 (b.pts.getD k default).hi]) rfl zq rfl (rdp.eatF k 1 (by omega) (by omega) rfl) ?_;refine k_calP (Post:=fun v=> ∃z:Nat,z≤65535∧v= .int .i64 (z:Int)) rfl zq (by kernel_rfl) (fun H' hH=>f128_c m H' (rd.keeps (sq hH)) hz k) ?_;rintro v ⟨zz,hzz,rfl⟩;refine k_put ?_;have hmk:=hv.pts.span (i:=k) (by omega)
  refine k_calP (Post:=fun v=>v=_) rfl zq (by kernel_rfl) (fun H' hH=>f60_c m H' _ _ zz (by omega) (by omega)) ?_;rintro v rfl;refine k_put ?_;have hz7:=Nat.mod_lt zz (show 0<((b.pts.getD k default).hi-(b.pts.getD k default).lo+1).toNat by omega)
  refine k_bs kdq rfl zq (by decide) (by decide) rfl (fun q25=>k_hp (k_put ?_));refine k_app1 (F:=h++[⟨true,q2,.cells ((fbL b (some ⟨rdp_b,rdp_o,none⟩) np cp pt nt ct pk nk ck).toArray) 26 (0,0)⟩]) rfl zq rfl ho kdq (by omega) (by omega) (fun w2 new2 ho2=>k_put ?_);rw [show ints ln++[Value.int .i64 ((b.pts.getD k default).lo+((zz%((b.pts.getD k default).hi-(b.pts.getD k default).lo+1).toNat:Nat):Int))]=ints (ln++[(b.pts.getD k default).lo+((zz%((b.pts.getD k default).hi-(b.pts.getD k default).lo+1).toNat:Nat):Int)]) by simp] at ho2
  refine d45 ?_;refine rr3 ?_;refine d61 ?_
  exact m.weak weakSub (hnext _ _ _ (by omega) ⟨k+1,_,_,_,rfl,by omega,by simp;omega,ho2,fun i hi=>by
   rw [getD_sn,hll];by_cases e:i<k
   ·rw [if_pos e];exact hla i e
   ·rw [if_neg e,if_pos (by omega),show i=k by omega];omega,exU rfl,rfl⟩)
 ·refine d75 ?_;refine d99 ?_
  refine run_res (h++new) rfl Tryz.func49 rfl weakSub ?_;refine hK _ _ ?_;have hkk:k=ln.length:=hll.symm
  subst hkk
  exact ⟨_,rfl,ln,ho,by omega,hla⟩
theorem f51_c (m:Md Tryz.prog B) (h:Hp) (rdp:Rp B h b pp np cp) (hp:np≤1000) (hv:FOk b) (z:Nat) (hz:z≤65535):FnC m 51 #[fbV b pp np cp pt nt ct pk nk ck,.int .u16 (z:Int)] h fun v h'=>h'=h∧ ∃x:Int,v= .int .i64 x∧(b.pts.getD 0 default).h≤x∧x≤(b.pts.getD (np-1) default).h:=by
 have hml:=rdp.elen (by decide)
 have h2:=hv.pts.two
 have he:=hv.pts.ends
 rw [hml] at he
 have h0:=hv.pts.at (i:=0) (by omega)
 have h1:=hv.pts.at (i:=np-1) (by omega)
 refine fn_enter Tryz.func51 rfl rfl (l:=(fbV b pp np cp pt nt ct pk nk ck)::(.int .u16 (z:Int))::uu21) rfl ?_
 intro cf cs K hK
 refine rs2 ?_;refine k_box rfl zq (fun q2=>k_hp (k_put ?_));refine d12 ?_
 refine run_draw [(0,.pure),(5,.pure),(7,.pure),(15,.pure),(16,.pure),(1,.read),(2,.pure),(3,.pure),(4,.read),(6,.read),(8,.read),(9,.pure),(10,.pure),(11,.pure),(12,.pure),(13,.read),(14,.keep),(17,.keep),(18,.pure)] (by kernel_rfl) (by kernel_rfl) (List.Sublist.refl _) ?_;refine d8 ?_;(first|refine k_fa0 rfl zq ?_|refine k_fa rfl zq ?_);refine mq rfl ?_
 refine k_conv rfl zq (by kernel_rfl) (n':=(z:Int)) (by unfold IntKind.wrap;simp [IntKind.bits,IntKind.signed];omega) ?_;refine k_ldh rfl zq ?_;obtain ⟨rdp_b,rdp_o,rfl⟩:=rdp.ptr (by omega)
 refine d20 ?_
 refine k_ld rfl zq (rdp.fat (v:= .int .i64 (b.pts.getD 0 default).h) 0 0 (by omega) (by omega) rfl) ?_;refine d81 ?_;refine d71 ?_;refine d20 ?_
 refine k_ld rfl zq (rdp.fat (v:= .int .i64 (b.pts.getD (np-1) default).h) (np-1) 0 (by omega) (by omega) rfl) ?_;refine k_calP (Post:=fun v=>v=_) rfl zq (by kernel_rfl) (fun H' hH=>f61_c m H' _ _) ?_;rintro v rfl;refine k_put ?_;refine k_calP (Post:=fun v=>v=_) rfl zq (by kernel_rfl) (fun H' hH=>f60_c m H' _ _ z (by omega) (by omega)) ?_;rintro v rfl;refine k_put ?_;have hz7:=Nat.mod_lt z (show 0<((b.pts.getD (np-1) default).h-(b.pts.getD 0 default).h+1).toNat by omega)
 refine d0 ?_
 refine run_res (h) rfl Tryz.func51 rfl weakSub ?_;refine hK _ _ ?_;exact ⟨rfl,_,rfl,by omega,by omega⟩
theorem f52_c (m:Md Tryz.prog B) (h:Hp) (hn:2≤np) (hp:np≤1000) (z:Nat) (hz:z≤255):FnC m 52 #[fbV b pp np cp pt nt ct pk nk ck,.int .u8 (z:Int)] h fun v h'=>h'=h∧ ∃f t:Nat,v= .tuple [.int .i64 (f:Int),.int .i64 (t:Int)].toArray∧f<t∧t<np:=by
 refine fn_enter Tryz.func52 rfl rfl (l:=(fbV b pp np cp pt nt ct pk nk ck)::(.int .u8 (z:Int))::uu19) rfl ?_
 intro cf cs K hK
 refine rs3 ?_;refine k_box rfl zq (fun q2=>k_hp (k_put ?_));refine d46 ?_;refine rs9 ?_;refine mq rfl ?_
 refine k_conv rfl zq (by kernel_rfl) (n':=(z:Int)) (by unfold IntKind.wrap;simp [IntKind.bits,IntKind.signed];omega) ?_;refine d2 ?_;refine d71 ?_;refine k_remT rfl zq (by omega) ?_
 obtain ⟨w,hw⟩: ∃w,w=np-1:=⟨_,rfl⟩
 rw [show (z:Int).tmod ((np:Int)-1)=((z%w:Nat):Int) by rw [show (np:Int)-1=(w:Int) by omega];exact (Int.ofNat_tmod z w).symm];have hzw:=Nat.mod_lt z (show 0<w by omega)
 generalize z%w=t at hzw⊢
 refine k_add rfl zq (by unfold In64;omega) ?_;refine aq rfl ?_;refine rs8 ?_;refine mq rfl ?_;refine k_conv rfl zq (by kernel_rfl) (n':=(z:Int)) (by unfold IntKind.wrap;simp [IntKind.bits,IntKind.signed];omega) ?_;refine k_quo z 8 rfl zq rfl rfl (by omega) (by omega) ?_;refine mq rfl ?_;refine k_remT rfl zq (by omega) ?_
 rw [show ((z/8:Nat):Int).tmod (1+(t:Int))=((z/8%(1+t):Nat):Int) from (Int.ofNat_tmod (z/8) (1+t)).symm];have hft:=Nat.mod_lt (z/8) (show 0<1+t by omega)
 refine mq rfl ?_;refine d27 ?_
 refine run_res (h) rfl Tryz.func52 rfl weakSub ?_;refine hK _ _ ?_;exact ⟨rfl,_,1+t,rfl,hft,by omega⟩
end Go.Proofs
namespace Go.Proofs
open Go.Lo
open Go.Conc (G)
set_option maxRecDepth 100000
set_option synthInstance.maxSize 100000
set_option synthInstance.maxHeartbeats 1000000
set_option maxHeartbeats 4000000
variable {B:Array Obj}
variable [LaidF B]
theorem row_small {b:Fb} {ln:List Int} (hv:FOk b) (hl:ln.length=b.pts.length) (hs:spansF b ln):SmL ln:=fun j=>by
 by_cases h:j<ln.length
 ·have h1:=hs j h
  have h2:=hv.pts.span (i:=j) (by omega)
  omega
 ·rw [List.getD_eq_getElem?_getD,List.getElem?_eq_none (by omega)];simp
theorem row_hand {b:Fb} {ln:List Int} (h0:fbS b=0) (hl:ln.length=b.pts.length) (hs:spansF b ln):fhandS b ln=0:=by
 have hm:=row_small (fbS_zero h0) hl hs
 rw [fhandS,if_neg (fun e=>e h0),brS,if_neg (by omega),if_neg];rintro ⟨i,hi,h⟩;exact h (hm i)
theorem row_girth {b:Fb} {ln:List Int} (h0:fbS b=0) (hl:ln.length=b.pts.length) (hs:spansF b ln) {f t:Nat} (hf:f<t) (ht:t<b.pts.length):girthS b ln f t=0:=by
 rw [girthS_o (row_hand h0 hl hs),ordS,if_neg (by omega),if_neg (by omega)]
theorem row_at {b:Fb} {ln:List Int} (h0:fbS b=0) (hl:ln.length=b.pts.length) (hs:spansF b ln) {x:Int} (h1:(b.pts.getD 0 default).h≤x) (h2:x≤(b.pts.getD (b.pts.length-1) default).h):atS b ln x=0:=atS_0 (row_hand h0 hl hs) ⟨h1,h2⟩
end Go.Proofs
namespace Go.Proofs
open Go.Lo
open Go.Conc (G)
set_option maxRecDepth 100000
set_option synthInstance.maxSize 100000
set_option synthInstance.maxHeartbeats 1000000
set_option maxHeartbeats 4000000
variable {b:Fb} {pp:Option Addr} {np cp:Nat} {pt:Option Addr} {nt ct:Nat} {pk:Option Addr} {nk ck:Nat}
variable {B:Array Obj}
variable [LaidF B]
def truT (b:Fb) (xs:List Int) (t:Tp):Tp:=⟨t.f,t.t,min (girthI b.pts xs t.f t.t) t.lo,max (girthI b.pts xs t.f t.t) t.hi⟩
def truK (b:Fb) (xs:List Int) (k:Sk):Sk:=⟨k.h,k.long,decide (k.long≤atI b.pts xs k.h)⟩
def truF (b:Fb) (xs:List Int):Fb:=⟨b.plank,b.pts,b.tapes.map (truT b xs),b.sticks.map (truK b xs)⟩
theorem tru_right (b:Fb) (xs:List Int):rightF (truF b xs) xs:=by
 constructor
 ·intro t ht
  obtain ⟨q,_,rfl⟩:=List.mem_map.1 ht
  show min (girthI b.pts xs q.f q.t) q.lo≤girthI b.pts xs q.f q.t∧girthI b.pts xs q.f q.t≤max (girthI b.pts xs q.f q.t) q.hi
  omega
 ·intro k hk
  obtain ⟨q,_,rfl⟩:=List.mem_map.1 hk
  exact rfl
theorem tru_boat {b:Fb} {xs:List Int} (hl:xs.length=b.pts.length) (hs:spansF b xs):xs∈boatsOf (truF b xs):=mem_boats.2 ⟨hl,hs,tru_right b xs⟩
theorem map_take1 {α β:Type} [Inhabited α] (f:α→β) (l:List α) {k:Nat} (h:k<l.length):(l.take (k+1)).map f=(l.take k).map f++[f (l.getD k default)]:=by
 rw [List.take_add_one,List.getElem?_eq_getElem h,List.map_append,List.getD_eq_getElem?_getD,List.getElem?_eq_getElem h];rfl
theorem map_take_all {α β:Type} (f:α→β) (l:List α) {k:Nat} (h:l.length≤k):(l.take k).map f=l.map f:=by rw [List.take_of_length_le h]
theorem f50_c (m:Md Tryz.prog B) (h:Hp) (rdp:Rp B h b pp np cp) (hp:np≤1000) (rdt:Rt B h b pt nt ct) (ht:nt≤1000) (rdk:Rk B h b pk nk ck) (hk:nk≤1000) (hv:FOk b) {p:Option Addr} {n c:Nat} {xs:List Int} (rd:RdS B h 1 (.slice p n c) n (ints xs)) (hn:n≤1000) (hln:np≤n) (hs:SmL xs):FnC m 50 #[fbV b pp np cp pt nt ct pk nk ck,.slice p n c] h fun v h'=> ∃new,h'=h++new∧ ∃tp tc kp kc,v=fbV (truF b xs) pp np cp tp nt tc kp nk kc∧RdS B new 4 (.slice tp nt tc) nt (encs (truF b xs).tapes)∧RdS B new 3 (.slice kp nk kc) nk (encs (truF b xs).sticks):=by
 have hml:=rdp.elen (by decide)
 have hmt:=rdt.elen (by decide)
 have hmk:=rdk.elen (by decide)
 have hf3:=hv.few
 have hf4:=hv.few'
 refine fn_enter Tryz.func50 rfl rfl (l:=[fbV b pp np cp pt nt ct pk nk ck,.slice p n c,undef,undef,undef,undef,undef,undef,undef,undef,undef,undef,undef,undef,undef,undef,undef,undef,undef,undef,undef,undef,undef,undef,undef,undef,undef,undef,undef,undef,undef,undef,undef,undef,undef,undef,undef,undef,undef,undef,undef,undef,undef,undef,undef,undef,undef,undef,undef,undef,undef,undef,undef,undef,undef,undef,undef,undef,undef,undef,undef,undef,undef,undef,undef,undef,undef,undef,undef,undef,undef,undef,undef,undef,undef,undef,undef,undef,undef]) rfl ?_
 intro cf cs K hK
 refine rs2 ?_;refine k_box rfl zq (fun q2=>k_hp (k_put ?_));refine k_new rfl zq (fun q4=>k_hp (k_put ?_));refine k_nil ?_;refine d94 ?_;refine k_new rfl zq (fun q5=>k_hp (k_put ?_));refine d48 ?_;refine rs4 ?_;refine d50 ?_;refine d50 ?_;refine d24 ?_;refine d142 ?_
 refine run_loop (fun nn l h'=> ∃(k:Nat) (w:Value) (new:Hp),nn=nt-k∧(k≤nt)∧(OwnS 99 4 w k (encs ((b.tapes.take k).map (truT b xs))) new)∧(∃U:Nat→Value,l=((fbV b pp np cp pt nt ct pk nk ck)::(.slice p n c)::(.pointer (some ⟨q2,0,none⟩))::(U 3)::(.pointer (some ⟨q4,0,none⟩))::(.pointer (some ⟨q5,0,none⟩))::(.int .i64 (k:Int))::(U 7)::(U 8)::(U 9)::(U 10)::vw68 U 11 []))∧h++[⟨true,q2,.cells ((fbL b pp np cp pt nt ct pk nk ck).toArray) 26 (0,0)⟩,⟨true,q4,.cells [.int .i64 0,.slice none 0 0,.slice none 0 0,.slice none 0 0].toArray 26 (0,0)⟩,⟨true,q5,.cells [.int .i64 b.plank,.slice pp np cp,w,.slice none 0 0].toArray 26 (0,0)⟩]++new=h') _ ⟨0,_,[],rfl,by omega,by rw [List.take_zero,List.map_nil];exact OwnS.nil,exU rfl,(by simp)⟩ ?_;rintro nn l h' ⟨k,w,new,rfl,hkk,ho,⟨U,rfl⟩,rfl⟩ hnext;refine run_seq ?_;refine rs5 ?_;refine mq rfl ?_;refine d114 ?_;refine k_lssS rfl zq (fun hc=>?_) (fun hc=>?_)
 ·refine d98 ?_;refine rs7 ?_;refine d2 ?_;refine mq rfl ?_
  obtain ⟨rdt_b,rdt_o,rfl⟩:=rdt.ptr (by omega)
  refine k_ixs rfl zq (by first|rfl|assumption) (by omega) (by omega) ?_;refine k_ldN (vs:=[.int .i64 (b.tapes.getD k default).f,.int .i64 (b.tapes.getD k default).t,.int .i64 (b.tapes.getD k default).lo,.int .i64 (b.tapes.getD k default).hi]) rfl zq rfl (rdt.eat k (by omega) (by omega)) ?_;refine k_new rfl zq (fun q7=>k_hp (k_put ?_));refine d129 ?_
  obtain ⟨f,e,hf,he,hfe,hen⟩:=hv.tape (t:=b.tapes.getD k default) (mem_getDR.2 ⟨k,by omega,rfl⟩)
  refine rr8 ?_;refine d69 ?_;refine d2 ?_;refine d2 ?_;refine k_calP (Post:=fun v=>v= .int .i64 (girthI b.pts xs (b.tapes.getD k default).f (b.tapes.getD k default).t)) rfl zq (by kernel_rfl) (fun H' hH=>by have:=f98_c m H' (b:=b) (pt:=(some ⟨rdt_b,rdt_o,none⟩)) (nt:=nt) (ct:=ct) (pk:=pk) (nk:=nk) (ck:=ck) (rdp.keeps (sq hH)) hp (rd.keeps (sq hH)) hn (by omega) hv.pts hs f e hfe (by omega);rw [←hf,←he] at this;exact this) ?_;rintro v rfl;refine k_put ?_;refine d12 ?_;refine run_region [(0,.free),(1,.free),(2,.free),(3,.free),(4,.free),(5,.free),(6,.free),(7,.free),(8,.free),(9,.free),(10,.free),(11,.free),(12,.free)] (by kernel_rfl) (by kernel_rfl) ?_;refine mq rfl ?_;refine d28 ?_;refine k_min rfl zq ?_;refine mq rfl ?_;refine d28 ?_;refine k_max rfl zq ?_
  refine k_calP (Post:=fun v=>v=_) rfl zq (by kernel_rfl) (fun H' hH=>f61_c m H' _ _) ?_;rintro v rfl;refine k_put ?_;(first|refine k_fa0 rfl zq ?_|refine k_fa rfl zq ?_);refine d48 ?_;refine rr7 ?_;refine d136 ?_;refine k_bs kdq rfl zq (by decide) (by decide) rfl (fun q48=>k_hp (k_put ?_));refine k_app1O rfl zq rfl ho kdq (by omega) (by omega) (fun w2 n2 ho2=>k_put ?_);replace ho2:OwnS 99 4 w2 (k+1) (encs ((b.tapes.take k).map (truT b xs)++[truT b xs (b.tapes.getD k default)])) n2:=by rw [encs_append,encs_tp];exact ho2
  obtain ⟨bp2,bc2,rfl,_⟩:=ho2.len
  refine d141 ?_;refine d109 ?_
  exact m.weak weakSub (hnext _ _ _ (by omega) ⟨k+1,_,_,rfl,by omega,by rw [map_take1 _ _ (by omega)];exact ho2,exU rfl,rfl⟩)
 ·refine d75 ?_;refine run_seq ?_;refine d142 ?_
  obtain rfl:nt=k:=by omega
  obtain ⟨pT,cT,rfl,hcT,rT⟩:=own_rdA (B:=B) ho
  rw [map_take_all _ _ (by omega)] at rT
  obtain ⟨newT,hnT⟩: ∃newT,newT=new:=⟨_,rfl⟩
  subst hnT
  refine run_loop (fun nn l h'=> ∃(k:Nat) (w:Value) (new:Hp),nn=nk-k∧(k≤nk)∧(OwnS 73 3 w k (encs ((b.sticks.take k).map (truK b xs))) new)∧(∃U:Nat→Value,l=((fbV b pp np cp pt nt ct pk nk ck)::(.slice p n c)::(.pointer (some ⟨q2,0,none⟩))::(U 3)::(.pointer (some ⟨q4,0,none⟩))::(.pointer (some ⟨q5,0,none⟩))::(U 6)::(U 7)::(U 8)::(.int .i64 (k:Int))::(U 10)::vw68 U 11 []))∧h++[⟨true,q2,.cells ((fbL b pp np cp pt nt ct pk nk ck).toArray) 26 (0,0)⟩,⟨true,q4,.cells [.int .i64 0,.slice none 0 0,.slice none 0 0,.slice none 0 0].toArray 26 (0,0)⟩,⟨true,q5,.cells [.int .i64 b.plank,.slice pp np cp,.slice pT nt cT,w].toArray 26 (0,0)⟩]++newT++new=h') _ ⟨0,_,[],rfl,by omega,by rw [List.take_zero,List.map_nil];exact OwnS.nil,exU rfl,(by simp)⟩ ?_;rintro nn l h' ⟨k,w,new,rfl,hk2,ho3,⟨U,rfl⟩,rfl⟩ hnext2;refine run_seq ?_;refine rs5 ?_;refine mq rfl ?_;refine d114 ?_;refine k_lssS rfl zq (fun hc=>?_) (fun hc=>?_)
  ·refine d98 ?_;refine rs7 ?_;refine d2 ?_;refine mq rfl ?_
   obtain ⟨rdk_b,rdk_o,rfl⟩:=rdk.ptr (by omega)
   refine k_ixs rfl zq (by first|rfl|assumption) (by omega) (by omega) ?_;refine k_ldN (vs:=[.int .i64 (b.sticks.getD k default).h,.int .i64 (b.sticks.getD k default).long,.bool (b.sticks.getD k default).fits]) rfl zq rfl (rdk.eat k (by omega) (by omega)) ?_;refine k_new rfl zq (fun q10=>k_hp (k_put ?_));refine d129 ?_
   refine run_draw [(1,.pure),(2,.pure),(5,.pure),(0,.read),(3,.read),(6,.read),(4,.keep),(7,.pure),(8,.pure),(9,.free)] (by kernel_rfl) (by kernel_rfl) (List.Sublist.refl _) ?_;refine mq rfl ?_;refine d8 ?_;refine d63 ?_;refine k_ldh rfl zq ?_
   refine k_calP (Post:=fun v=>v= .int .i64 (atI b.pts xs (b.sticks.getD k default).h)) rfl zq (by kernel_rfl) (fun H' hH=>f94_c m H' (b:=b) (pt:=pt) (nt:=nt) (ct:=ct) (pk:=(some ⟨rdk_b,rdk_o,none⟩)) (nk:=nk) (ck:=ck) (rdp.keeps (sq hH)) hp (rd.keeps (sq hH)) hn (by omega) hv.pts hs _ (by have:=(hv.sticks (b.sticks.getD k default) (mem_getDR.2 ⟨k,by omega,rfl⟩)).1;rw [hml] at this;exact this)) ?_;rintro v rfl;refine k_put ?_;refine k_geq rfl zq ?_;refine d141 ?_;refine rr7 ?_;refine d136 ?_;refine k_bs kdq rfl zq (by decide) (by decide) rfl (fun q75=>k_hp (k_put ?_));refine k_app1O rfl zq rfl ho3 kdq (by omega) (by omega) (fun w4 n4 ho4=>k_put ?_);replace ho4:OwnS 73 3 w4 (k+1) (encs ((b.sticks.take k).map (truK b xs)++[truK b xs (b.sticks.getD k default)])) n4:=by rw [encs_append,encs_sk];exact ho4
   obtain ⟨bp4,bc4,rfl,_⟩:=ho4.len
   refine d141 ?_;refine d109 ?_
   exact m.weak weakSub (hnext2 _ _ _ (by omega) ⟨k+1,_,_,rfl,by omega,by rw [map_take1 _ _ (by omega)];exact ho4,exU rfl,rfl⟩)
  ·refine d75 ?_;refine run_seq ?_
   obtain rfl:nk=k:=by omega
   obtain ⟨pK,cK,rfl,hcK,rK⟩:=own_rdA (B:=B) ho3
   rw [map_take_all _ _ (by omega)] at rK
   refine rr2 ?_;refine k_ldA rfl zq ?_;refine d91 ?_;refine run_res (h++newT++new) rfl Tryz.func50 rfl weakSub ?_;refine hK _ _ ?_;exact ⟨newT++new,by simp only [List.append_assoc],pT,cT,pK,cK,rfl,rT.up,rK.up⟩
theorem mem_min {ys:List Int} {z:Int} (h:z∈ys):minL ys≤z:=(le_minL (fun e=>by rw [e] at h;simp at h) (minL ys)).1 (Int.le_refl _) z h
theorem mem_max {ys:List Int} {z:Int} (h:z∈ys):z≤maxL ys:=Classical.byContradiction fun e=>by
 have:=(maxL_lt (ys:=ys) (fun e=>by rw [e] at h;simp at h) z).1 (by omega) z h
 omega
theorem lean_take (b:Fb) (ll:List (List Int)): ∀k,0<k→k≤ll.length→ ∀i,i<k→areaI b.pts (bestBy (ltArea b) (ll.take k))≤areaI b.pts (ll.getD i [])
 |0,h,_,_,_=>by omega
 |k+1,_,hk,i,hi=>by
  rcases Nat.eq_zero_or_pos k with e|e
  ·subst e
   rw [bestBy_one,show i=0 by omega];exact Int.le_refl _
  ·have ih:=lean_take b ll k e (by omega)
   rw [bestBy_succ (ltArea b) ll k e (by omega)];by_cases h:ltArea b (ll.getD k []) (bestBy (ltArea b) (ll.take k))=true
   ·rw [if_pos h];have h2:areaI b.pts (ll.getD k [])<areaI b.pts (bestBy (ltArea b) (ll.take k)):=of_decide_eq_true h
    rcases Nat.lt_or_ge i k with h3|h3
    ·have:=ih i h3;omega
    ·rw [show i=k by omega];exact Int.le_refl _
   ·rw [if_neg h];have h2: ¬areaI b.pts (ll.getD k [])<areaI b.pts (bestBy (ltArea b) (ll.take k)):=fun x=>h (decide_eq_true x)
    rcases Nat.lt_or_ge i k with h3|h3
    ·exact ih i h3
    ·rw [show i=k by omega];omega
theorem lean_min {b:Fb} {ll:List (List Int)} (h:ll≠[]):areaI b.pts (leanL b ll)=minL (ll.map fun l=>areaI b.pts l):=by
 have hl:=List.length_pos_iff.2 h
 have hm:=bestBy_mem (ltArea b) ll hl
 have h1:minL (ll.map fun l=>areaI b.pts l)≤areaI b.pts (leanL b ll):=mem_min (List.mem_map.2 ⟨_,hm,rfl⟩)
 have h2:areaI b.pts (leanL b ll)≤minL (ll.map fun l=>areaI b.pts l):=(le_minL (by simpa using h) _).2 fun z hz=>by
  obtain ⟨l,hl2,rfl⟩:=List.mem_map.1 hz
  obtain ⟨i,hi,rfl⟩:=List.getElem_of_mem hl2
  have:=lean_take b ll ll.length hl (Nat.le_refl _) i hi
  rw [List.take_length,List.getD_eq_getElem?_getD,List.getElem?_eq_getElem hi] at this
  exact this
 omega
theorem f56_c (m:Md Tryz.prog B) (h:Hp) (c:Int) (o:Bool):FnC m 56 #[.int .i64 c,.bool o] h fun v h'=>h'=h∧IsB ((c≠1∨o=true)∧(c≠2∨o=false)) v:=by
 refine fn_enter Tryz.func56 rfl rfl (l:=(.int .i64 c)::(.bool o)::uu16) rfl ?_
 intro cf cs K hK
 refine d93 ?_
 cases o
 ·refine run_region [(0,.free),(1,.free),(2,.free),(3,.free),(4,.free),(5,.free),(6,.free),(7,.free),(8,.free),(9,.free),(10,.free),(11,.free),(12,.free),(13,.free)] (by kernel_rfl) (by kernel_rfl) ?_;refine mq rfl ?_
  refine k_neqS rfl zq (fun hc=>?_) (fun hc=>?_)
  ·refine mq rfl ?_;refine k_off rfl rfl ?_;refine k_pickT rfl zq ?_;refine d23 ?_
   refine k_neqS rfl rfl (fun hc=>?_) (fun hc=>?_)
   ·refine k_mv rfl rfl ?_;refine d5 ?_;refine k_pickT rfl rfl ?_;refine d92 ?_;refine run_res (h) rfl Tryz.func56 rfl weakSub ?_;refine hK _ _ ?_;first|exact ⟨rfl,IsB.yes ⟨by simp;try omega,by simp;try omega⟩⟩|exact ⟨rfl,IsB.no (by simp;omega)⟩|exact ⟨rfl,IsB.no (by simp;try omega)⟩
   ·refine k_mv rfl rfl ?_;refine k_mv rfl rfl ?_;refine k_notF rfl rfl ?_;refine k_pickF rfl rfl ?_;refine d92 ?_;refine run_res (h) rfl Tryz.func56 rfl weakSub ?_;refine hK _ _ ?_;first|exact ⟨rfl,IsB.yes ⟨by simp;try omega,by simp;try omega⟩⟩|exact ⟨rfl,IsB.no (by simp;omega)⟩|exact ⟨rfl,IsB.no (by simp;try omega)⟩
  ·refine d23 ?_;refine k_pickF rfl zq ?_;refine d111 ?_;refine d108 ?_
   refine run_res (h) rfl Tryz.func56 rfl weakSub ?_;refine hK _ _ ?_;first|exact ⟨rfl,IsB.yes ⟨by simp;try omega,by simp;try omega⟩⟩|exact ⟨rfl,IsB.no (by simp;omega)⟩|exact ⟨rfl,IsB.no (by simp;try omega)⟩
 ·refine run_region [(0,.free),(1,.free),(2,.free),(3,.free),(4,.free),(5,.free),(6,.free),(7,.free),(8,.free),(9,.free),(10,.free),(11,.free),(12,.free),(13,.free)] (by kernel_rfl) (by kernel_rfl) ?_;refine mq rfl ?_
  refine k_neqS rfl zq (fun hc=>?_) (fun hc=>?_)
  ·refine mq rfl ?_;refine k_off rfl rfl ?_;refine k_pickT rfl zq ?_;refine d23 ?_
   refine k_neqS rfl rfl (fun hc=>?_) (fun hc=>?_)
   ·refine k_mv rfl rfl ?_;refine d5 ?_;refine k_pickT rfl rfl ?_;refine d92 ?_;refine run_res (h) rfl Tryz.func56 rfl weakSub ?_;refine hK _ _ ?_;first|exact ⟨rfl,IsB.yes ⟨by simp;try omega,by simp;try omega⟩⟩|exact ⟨rfl,IsB.no (by simp;omega)⟩|exact ⟨rfl,IsB.no (by simp;try omega)⟩
   ·refine k_mv rfl rfl ?_;refine k_mv rfl rfl ?_;refine k_notT rfl rfl ?_;refine k_pickF rfl rfl ?_;refine d92 ?_;refine run_res (h) rfl Tryz.func56 rfl weakSub ?_;refine hK _ _ ?_;first|exact ⟨rfl,IsB.yes ⟨by simp;try omega,by simp;try omega⟩⟩|exact ⟨rfl,IsB.no (by simp;omega)⟩|exact ⟨rfl,IsB.no (by simp;try omega)⟩
  ·refine d23 ?_;refine k_pickF rfl zq ?_;refine d23 ?_
   refine k_neqS rfl rfl (fun hc=>?_) (fun hc=>?_)
   ·refine k_mv rfl rfl ?_;refine d5 ?_;refine k_pickT rfl rfl ?_;refine d92 ?_;refine run_res (h) rfl Tryz.func56 rfl weakSub ?_;refine hK _ _ ?_;first|exact ⟨rfl,IsB.yes ⟨by simp;try omega,by simp;try omega⟩⟩|exact ⟨rfl,IsB.no (by simp;omega)⟩|exact ⟨rfl,IsB.no (by simp;try omega)⟩
   ·refine k_mv rfl rfl ?_;refine k_mv rfl rfl ?_;refine k_notT rfl rfl ?_;refine k_pickF rfl rfl ?_;refine d92 ?_;refine run_res (h) rfl Tryz.func56 rfl weakSub ?_;refine hK _ _ ?_;first|exact ⟨rfl,IsB.yes ⟨by simp;try omega,by simp;try omega⟩⟩|exact ⟨rfl,IsB.no (by simp;omega)⟩|exact ⟨rfl,IsB.no (by simp;try omega)⟩
theorem f5_t (h:Hp) (rdp:Rp B h b pp np cp) (rdt:Rt B h b pt nt ct) (rdk:Rk B h b pk nk ck) {p:Option Addr} {n c:Nat} {zs:List Int} (rd:RdS B h 1 (.slice p n c) n (u16s zs)) (hz: ∀z∈zs,0≤z∧z≤65535) (z x0 y0:Nat) (hzz:z≤65535) (hx0:x0≤255) (hyy:y0≤65535):(Md.starS Tryz.prog B).R (AtEnd Tryz.prog B fun v _=>v= .bool true) (G (Frame.enter Tryz.prog 5 #[fbV b pp np cp pt nt ct pk nk ck,.slice p n c,.int .u16 (z:Int),.int .u8 (x0:Int),.int .u16 (y0:Int)] .normal) []) h:=by
 refine top_enter Tryz.func5 rfl rfl (l:=[fbV b pp np cp pt nt ct pk nk ck,.slice p n c,.int .u16 (z:Int),.int .u8 (x0:Int),.int .u16 (y0:Int),undef,undef,undef,undef,undef,undef,undef,undef,undef,undef,undef,undef,undef,undef,undef,undef,undef,undef,undef,undef,undef,undef,undef,undef,undef,undef,undef,undef,undef,undef,undef,undef,undef,undef,undef,undef,undef,undef,undef,undef,undef,undef,undef,undef,undef,undef,undef,undef,undef,undef,undef,undef,undef,undef,undef,undef,undef,undef,undef,undef,undef,undef,undef,undef,undef,undef,undef,undef,undef,undef,undef,undef,undef,undef,undef,undef,undef,undef,undef,undef,undef,undef,undef,undef,undef,undef,undef,undef,undef,undef,undef,undef,undef,undef,undef,undef,undef,undef,undef,undef,undef,undef,undef,undef,undef,undef,undef,undef,undef,undef,undef,undef,undef,undef,undef,undef,undef,undef,undef,undef,undef,undef,undef,undef,undef,undef,undef,undef,undef,undef,undef,undef,undef,undef,undef,undef,undef,undef,undef,undef,undef,undef,undef,undef,undef,undef,undef,undef,undef,undef,undef,undef,undef,undef,undef,undef,undef,undef,undef,undef,undef,undef,undef,undef,undef,undef,undef,undef,undef,undef,undef,undef,undef,undef,undef,undef,undef,undef,undef,undef,undef,undef,undef,undef,undef,undef,undef,undef,undef,undef,undef,undef,undef,undef,undef,undef,undef,undef,undef,undef,undef,undef,undef,undef,undef,undef,undef,undef,undef,undef,undef,undef,undef,undef,undef,undef,undef,undef,undef,undef,undef,undef,undef,undef,undef,undef,undef,undef,undef,undef,undef,undef,undef,undef,undef,undef,undef,undef,undef,undef,undef,undef,undef,undef,undef,undef,undef,undef,undef,undef]) rfl ?_
 refine rs2 ?_;refine k_box rfl zq (fun q5=>k_hp (k_put ?_));refine d12 ?_;refine d94 ?_
 refine k_calP (Post:=fun v=>IsB _ v) rfl zq (by kernel_rfl) (fun H' hH=>f48_c _ H' (rdp.keeps (sq hH)) (rdt.keeps (sq hH)) (rdk.keeps (sq hH))) ?_;rintro v (⟨hc,rfl⟩|⟨hc,rfl⟩)
 ·refine d43 ?_;refine d37 ?_
  have hp:np≤1000:=by omega
  have ht:nt≤1000:=by omega
  have hk:nk≤1000:=by omega
  have h0:fbS b=0:=by omega
  have hv:=fbS_zero h0
  have hv1:=hv.pts.five
  have hv2:=hv.pts.two
  have hml:=rdp.elen (by decide)
  refine rr4 ?_;refine d69 ?_;refine k_calC rfl zq (by kernel_rfl) (Post:=fun v new=> ∃ln,OwnS 3 1 v ln.length (ints ln) new∧ln.length=b.pts.length∧spansF b ln) (fun H' hH=>f49_c _ H' (rdp.keeps (sq hH)) hp hv (rd.keeps (sq hH)) hz) ?_;rintro v n49 ⟨ln,o49,hll,hsp⟩;refine k_hpA (k_put ?_);obtain ⟨pl,cl,rfl,hcl,rl⟩:=own_rdA (B:=B) o49
  have hln:ln.length≤1000:=by omega
  have hm:=row_small hv hll hsp
  refine aq rfl ?_;refine rs4 ?_;refine d69 ?_
  refine k_calC rfl zq (by kernel_rfl) (fun H' hH=>f50_c _ H' (b:=b) (xs:=ln) (rdp.keeps (sq hH)) hp (rdt.keeps (sq hH)) ht (rdk.keeps (sq hH)) hk hv (rl.keeps (sq hH)) hln (by omega) hm) ?_;rintro v n50 ⟨pT,cT,pK,cK,rfl,rtT,rkT⟩;refine k_hpA (k_put ?_);refine d129 ?_;refine d94 ?_
  refine k_calP (Post:=fun v=>v= .int .i64 (fbS (truF b ln))) rfl zq (by kernel_rfl) (fun H' hH=>f22_c _ H' (b:=truF b ln) (rdp.keeps (sq hH)) hp (rtT.keeps (sq hH)) ht (rkT.keeps (sq hH)) hk) ?_;rintro v rfl;refine k_put ?_;refine k_neqS rfl zq (fun hc=>?_) (fun hc=>?_)
  ·refine d7 ?_;refine rs2 ?_
   refine k_cal rfl zq (by kernel_rfl) (f18_c _) ?_;rintro v h' ⟨nF,rfl,rfl⟩;refine d110 ?_
   refine run_top rfl Tryz.func5 (by kernel_rfl) rfl ?_;rfl
  ·refine d37 ?_
   have hz2:fbS (truF b ln)=0:=by omega
   have hv2:=fbS_zero hz2
   have hmem:=tru_boat hll hsp
   have hne:boatsOf (truF b ln)≠[]:=List.ne_nil_of_mem hmem
   have ho:=openS_0 (own:=0) hz2 rfl hne
   have hh0:=row_hand (b:=truF b ln) hz2 hll hsp
   have hcount:=List.length_pos_iff.2 hne
   have hbn:=boatsOf_le hv2.pts
   refine rr8 ?_;refine d69 ?_;refine k_calP (Post:=fun v=> ∃x:Int,v= .int .i64 x∧(b.pts.getD 0 default).h≤x∧x≤(b.pts.getD (np-1) default).h) rfl zq (by kernel_rfl) (fun H' hH=>f51_c _ H' (b:=truF b ln) (rdp.keeps (sq hH)) hp hv2 z hzz) ?_;rintro v ⟨x,rfl,hx1,hx2'⟩;refine k_put ?_;have hx2:=hx2'
   rw [←hml] at hx2
   refine mq rfl ?_
   refine k_conv rfl zq (by kernel_rfl) (n':=(y0:Int)) (by unfold IntKind.wrap;simp [IntKind.bits,IntKind.signed];omega) ?_;refine k_remT rfl zq (by decide) ?_;rw [show (y0:Int).tmod 960=((y0%960:Nat):Int) from (Int.ofNat_tmod y0 960).symm];have hy960:=Nat.mod_lt y0 (show 0<960 by omega)
   generalize y0%960=y at hy960⊢
   refine d46 ?_;refine rs8 ?_;refine d69 ?_
   refine k_calP (Post:=fun v=> ∃f t:Nat,v= .tuple [.int .i64 (f:Int),.int .i64 (t:Int)].toArray∧f<t∧t<np) rfl zq (by kernel_rfl) (fun H' hH=>f52_c _ H' (b:=truF b ln) (by omega) hp x0 hx0) ?_;rintro v ⟨f,t,rfl,hft,htn⟩;refine d134 ?_;refine rs8 ?_;refine d69 ?_
   refine k_calP (Post:=fun v=>v= .tuple [.bool true,.int .i64 0].toArray) rfl zq (by kernel_rfl) (fun H' hH=>(f32_c _ H' (b:=truF b ln) (xs:=ln) (rdp.keeps (sq hH)) hp (rtT.keeps (sq hH)) ht (rkT.keeps (sq hH)) hk (rl.keeps (sq hH)) hln).mono fun v h' e=>⟨e.1,by obtain ⟨w,e2,e3⟩:=e.2;rw [e2,hh0,isB_true e3 ⟨hh0,hsp,tru_right b ln⟩]⟩) ?_;rintro v rfl;refine d134 ?_;refine rs7 ?_;refine k_ldA rfl zq ?_
   refine k_calP (Post:=fun v=>v= .tuple [.int .i64 (((boatsOf (truF b ln)).length:Nat)),.int .i64 0].toArray) rfl zq (by kernel_rfl) (fun H' hH=>by have:=f34_c (Md.starS Tryz.prog B) H' (b:=truF b ln) (rdp.keeps (sq hH)) hp (rtT.keeps (sq hH)) ht (rkT.keeps (sq hH)) hk;rw [orNo_yes hz2] at this;exact this) ?_;rintro v rfl;refine d134 ?_;refine rs9 ?_;refine k_ldA rfl zq ?_
   refine k_cal rfl zq (by kernel_rfl) (f53_c _ (b:=truF b ln) (rdp.keeps SubH.sub) hp (rtT.keeps SubH.sub) ht (rkT.keeps SubH.sub) hk) ?_;rintro v h' ⟨nC,rfl,wT,wK,gg,rfl,⟨pC,cC,rfl,rdT⟩,⟨pD,cD,rfl,rdK⟩,okC⟩;refine k_put ?_;obtain rfl:gg=[]:=by rw [ClashOk,if_pos (.inr hne)] at okC;exact okC
   rw [hz2];refine d40 ?_;refine k_ext2 rfl zq ?_;refine k_as rfl zq ?_;refine d46 ?_;refine rs8 ?_;refine d69 ?_
   refine k_calC rfl zq (by kernel_rfl) (Post:=fun v new=> ∃w ys,v= .tuple [w,.int .i64 (openS (truF b ln) (if 0≤(t:Int)∧(t:Int)≤(np:Int)-1 then 0 else 6))].toArray∧OwnS 3 1 w ys.length (ints ys) new∧Asc ys∧ ∀z,z∈ys↔z∈breadthsAt (openL (truF b ln) (openS (truF b ln) (if 0≤(t:Int)∧(t:Int)≤(np:Int)-1 then 0 else 6))) (t:Int).toNat) (fun H' hH=>f36_c _ H' (b:=truF b ln) (rdp.ro.keeps (sq hH)) hp (rtT.ro.keeps (sq hH)) ht (rkT.ro.keeps (sq hH)) hk (t:Int)) ?_;rintro v n36 ⟨w36,ys,rfl,o36,ha36,hm36⟩;refine k_hpA (k_put ?_);obtain ⟨p36,c36,rfl,_,r36⟩:=own_rdA (B:=B) o36
   have hyl:=breadths_le hm36 ha36
   rw [if_pos (by omega),ho,openL,if_neg (fun e=>e rfl)] at hm36
   rw [if_pos (by omega),ho];have hin:ln.getD t 0∈ys:=(hm36 _).2 (by rw [Int.toNat_natCast];exact List.mem_map.2 ⟨ln,hmem,rfl⟩)
   refine d40 ?_;refine d46 ?_;refine rs9 ?_;refine d69 ?_
   refine k_calP (Post:=fun v=>v= .tuple [.agg [.int .i64 (minL ((boatsOf (truF b ln)).map fun l=>atI (truF b ln).pts l x)),.int .i64 (maxL ((boatsOf (truF b ln)).map fun l=>atI (truF b ln).pts l x))].toArray,.int .i64 0].toArray) rfl zq (by kernel_rfl) (fun H' hH=>by have:=f38_c (Md.starS Tryz.prog B) H' (b:=truF b ln) (rdp.ro.keeps (sq hH)) hp (rtT.ro.keeps (sq hH)) ht (rkT.ro.keeps (sq hH)) hk x;rw [if_pos ⟨hx1,hx2'⟩,spanT_yes ho] at this;exact this) ?_;rintro v rfl;refine d78 ?_
   refine k_new rfl zq (fun q25=>k_hp (k_put ?_));refine k_stA rfl zq rfl ?_;refine aq rfl ?_;refine rs10 ?_;refine k_ldA rfl zq ?_;refine d3 ?_;refine k_calP (Post:=fun v=>v= .tuple [.agg [.int .i64 (minL ((boatsOf (truF b ln)).map fun l=>girthI (truF b ln).pts l (f:Int) (t:Int))),.int .i64 (maxL ((boatsOf (truF b ln)).map fun l=>girthI (truF b ln).pts l (f:Int) (t:Int)))].toArray,.int .i64 0].toArray) rfl zq (by kernel_rfl) (fun H' hH=>by have:=f40_c (Md.starS Tryz.prog B) H' (b:=truF b ln) (rdp.ro.keeps (sq hH)) hp (rtT.ro.keeps (sq hH)) ht (rkT.ro.keeps (sq hH)) hk (f:Int) (t:Int);rw [show ordS np (f:Int) (t:Int)=0 by rw [ordS,if_neg (by omega),if_neg (by omega)],spanT_yes ho] at this;exact this) ?_;rintro v rfl;refine d78 ?_
   refine k_new rfl zq (fun q27=>k_hp (k_put ?_));refine k_stA rfl zq rfl ?_;refine aq rfl ?_;refine d147 ?_;refine k_calP (Post:=fun v=>v= .tuple [.agg [.int .i64 (minL ((boatsOf (truF b ln)).map fun l=>areaI (truF b ln).pts l)),.int .i64 (maxL ((boatsOf (truF b ln)).map fun l=>areaI (truF b ln).pts l))].toArray,.int .i64 0].toArray) rfl zq (by kernel_rfl) (fun H' hH=>by have:=f42_c (Md.starS Tryz.prog B) H' (b:=truF b ln) (rdp.ro.keeps (sq hH)) hp (rtT.ro.keeps (sq hH)) ht (rkT.ro.keeps (sq hH)) hk;rw [spanT_yes ho] at this;exact this) ?_;rintro v rfl;refine d78 ?_
   refine k_new rfl zq (fun q29=>k_hp (k_put ?_));refine k_stA rfl zq rfl ?_;refine aq rfl ?_;refine rs9 ?_;refine k_ldA rfl zq ?_;refine d3 ?_;refine k_calP (Post:=fun v=>v= .tuple [.int .i64 (clearsI (truF b ln) x (y:Int)),.int .i64 0].toArray) rfl zq (by kernel_rfl) (fun H' hH=>by have:=f44_c (Md.starS Tryz.prog B) H' (b:=truF b ln) (rdp.ro.keeps (sq hH)) hp (rtT.ro.keeps (sq hH)) ht (rkT.ro.keeps (sq hH)) hk x (y:Int);rw [if_pos ⟨⟨hx1,hx2'⟩,by omega,by omega⟩,orNo_yes ho] at this;exact this) ?_;rintro v rfl;refine d134 ?_;refine rs9 ?_;refine k_ldA rfl zq ?_;refine d3 ?_
   refine k_calP (Post:=fun v=>v= .tuple [.int .i64 (atI (truF b ln).pts ln x),.int .i64 0].toArray) rfl zq (by kernel_rfl) (fun H' hH=>by have:=f23_c (Md.starS Tryz.prog B) H' (b:=truF b ln) (xs:=ln) (rdp.ro.keeps (sq hH)) hp (rtT.ro.keeps (sq hH)) ht (rkT.ro.keeps (sq hH)) hk (rl.ro.keeps (sq hH)) hln x;rw [orNo_yes (row_at (b:=truF b ln) hz2 hll hsp hx1 hx2)] at this;exact this) ?_;rintro v rfl;refine d134 ?_;refine rs10 ?_;refine k_ldA rfl zq ?_;refine d3 ?_;refine mq rfl ?_
   refine k_calP (Post:=fun v=>v= .tuple [.int .i64 (girthI (truF b ln).pts ln (f:Int) (t:Int)),.int .i64 0].toArray) rfl zq (by kernel_rfl) (fun H' hH=>by have:=f25_c (Md.starS Tryz.prog B) H' (b:=truF b ln) (xs:=ln) (rdp.ro.keeps (sq hH)) hp (rtT.ro.keeps (sq hH)) ht (rkT.ro.keeps (sq hH)) hk (rl.ro.keeps (sq hH)) hln (f:Int) (t:Int);rw [orNo_yes (row_girth (b:=truF b ln) hz2 hll hsp hft (by show t<b.pts.length;omega))] at this;exact this) ?_;rintro v rfl;refine d134 ?_;refine rs8 ?_;refine d69 ?_
   refine k_calP (Post:=fun v=>v= .tuple [.int .i64 (areaI (truF b ln).pts ln),.int .i64 0].toArray) rfl zq (by kernel_rfl) (fun H' hH=>by have:=f27_c (Md.starS Tryz.prog B) H' (b:=truF b ln) (xs:=ln) (rdp.ro.keeps (sq hH)) hp (rtT.ro.keeps (sq hH)) ht (rkT.ro.keeps (sq hH)) hk (rl.ro.keeps (sq hH)) hln;rw [orNo_yes hh0] at this;exact this) ?_;rintro v rfl;refine d134 ?_;refine rs9 ?_;refine k_ldA rfl zq ?_
   refine k_calC rfl zq (by kernel_rfl) (Post:=fun v new=> ∃w,v= .tuple [w,.int .i64 (if openS (truF b ln) 0≠0 then 0 else areaI (truF b ln).pts (leanL (truF b ln) (boatsOf (truF b ln)))),.int .i64 (openS (truF b ln) 0)].toArray∧RdI B new w (if openS (truF b ln) 0≠0 then [] else leanL (truF b ln) (boatsOf (truF b ln)))) (fun H' hH=>f46_c _ H' (b:=truF b ln) (rdp.ro.keeps (sq hH)) hp (rtT.ro.keeps (sq hH)) ht (rkT.ro.keeps (sq hH)) hk) ?_;rintro v n46 ⟨w46,rfl,p46,c46,rfl,r46⟩;refine k_hpA (k_put ?_);rw [if_neg (fun e=>e ho),lean_min hne,ho];refine d40 ?_;refine k_ext2 rfl zq ?_;refine k_as rfl zq ?_;refine d97 ?_;refine run_seq ?_
   refine run_region [(0,.free),(1,.free),(2,.free),(3,.free),(4,.free),(5,.free),(6,.free),(7,.free),(8,.free),(9,.free),(10,.free),(11,.free),(12,.free),(13,.free),(14,.free),(15,.free),(16,.free),(17,.free),(18,.free),(19,.free),(20,.free),(21,.free),(22,.free),(23,.free),(24,.free),(25,.free),(26,.free),(27,.free),(28,.free),(29,.free),(30,.free),(31,.free),(32,.free),(33,.free),(34,.free),(35,.free),(36,.free),(37,.free),(38,.free),(39,.free),(40,.free),(41,.free),(42,.free),(43,.free),(44,.free),(45,.free)] (by kernel_rfl) (by kernel_rfl) ?_;refine mq rfl ?_;refine k_neqF rfl zq rfl ?_;refine d23 ?_;refine k_neqF rfl rfl rfl ?_;refine k_pickF rfl zq ?_;refine d23 ?_;refine k_neqF rfl rfl rfl ?_;refine k_pickF rfl zq ?_;refine d23 ?_;refine k_neqF rfl rfl rfl ?_;refine k_pickF rfl zq ?_;refine d23 ?_;refine k_neqF rfl rfl rfl ?_;refine k_pickF rfl zq ?_;refine d23 ?_;refine k_neqF rfl rfl rfl ?_;refine k_pickF rfl zq ?_;refine d23 ?_;refine k_neqF rfl rfl rfl ?_;refine k_pickF rfl zq ?_;refine d23 ?_;refine k_neqF rfl rfl rfl ?_;refine k_pickF rfl zq ?_;refine d23 ?_;refine k_neqF rfl rfl rfl ?_;refine k_pickF rfl zq ?_;refine d23 ?_;refine k_neqF rfl rfl rfl ?_;refine k_pickF rfl zq ?_;refine d23 ?_;refine k_neqF rfl rfl rfl ?_;refine k_pickF rfl zq ?_;refine d23 ?_;refine k_neqF rfl rfl rfl ?_;refine k_pickF rfl zq ?_;refine d37 ?_
   have a1:=mem_min (List.mem_map.2 ⟨ln,hmem,rfl⟩:atI (truF b ln).pts ln x∈(boatsOf (truF b ln)).map fun l=>atI (truF b ln).pts l x)
   have a2:=mem_max (List.mem_map.2 ⟨ln,hmem,rfl⟩:atI (truF b ln).pts ln x∈(boatsOf (truF b ln)).map fun l=>atI (truF b ln).pts l x)
   have a3:=mem_min (List.mem_map.2 ⟨ln,hmem,rfl⟩:girthI (truF b ln).pts ln (f:Int) (t:Int)∈(boatsOf (truF b ln)).map fun l=>girthI (truF b ln).pts l (f:Int) (t:Int))
   have a4:=mem_max (List.mem_map.2 ⟨ln,hmem,rfl⟩:girthI (truF b ln).pts ln (f:Int) (t:Int)∈(boatsOf (truF b ln)).map fun l=>girthI (truF b ln).pts l (f:Int) (t:Int))
   have a5:=mem_min (List.mem_map.2 ⟨ln,hmem,rfl⟩:areaI (truF b ln).pts ln∈(boatsOf (truF b ln)).map fun l=>areaI (truF b ln).pts l)
   have a6:=mem_max (List.mem_map.2 ⟨ln,hmem,rfl⟩:areaI (truF b ln).pts ln∈(boatsOf (truF b ln)).map fun l=>areaI (truF b ln).pts l)
   have hcl:(clearsI (truF b ln) x (y:Int)≠1∨decide ((y:Int)≤atI (truF b ln).pts ln x)=true)∧(clearsI (truF b ln) x (y:Int)≠2∨decide ((y:Int)≤atI (truF b ln).pts ln x)=false):=by
    unfold clearsI
    split
    ·exact ⟨.inl (by decide),.inr (decide_eq_false (by omega))⟩
    ·split
     ·exact ⟨.inr (decide_eq_true (by omega)),.inl (by decide)⟩
     ·exact ⟨.inl (by decide),.inl (by decide)⟩
   refine run_region [(0,.free),(1,.free),(2,.free),(3,.free),(4,.free),(5,.free),(6,.free),(7,.free),(8,.free),(9,.free),(10,.free),(11,.free),(12,.free),(13,.free),(14,.free),(15,.free),(16,.free),(17,.free),(18,.free),(19,.free),(20,.free),(21,.free),(22,.free),(23,.free),(24,.free),(25,.free),(26,.free),(27,.free),(28,.free),(29,.free),(30,.free),(31,.free),(32,.free),(33,.free),(34,.free),(35,.free),(36,.free),(37,.free),(38,.free),(39,.free),(40,.free),(41,.free),(42,.free),(43,.free),(44,.free),(45,.free),(46,.free),(47,.free),(48,.free),(49,.free),(50,.free),(51,.free),(52,.free),(53,.free),(54,.free),(55,.free),(56,.free),(57,.free),(58,.free),(59,.free),(60,.free),(61,.free),(62,.free),(63,.free),(64,.free),(65,.free),(66,.free)] (by kernel_rfl) (by kernel_rfl) ?_;refine d3 ?_;refine k_mv rfl rfl ?_
   refine k_geqT rfl rfl (by omega) ?_;refine k_pickT rfl zq ?_;refine d23 ?_;refine k_len rfl rfl ?_;refine k_mv rfl rfl ?_;refine k_len rfl rfl ?_;have hg1:(gT (truF b ln) []).length=0:=rfl
   have hg2:(gK (truF b ln) []).length=0:=rfl
   refine k_add rfl rfl (by unfold In64;omega) ?_;refine k_eqlT rfl rfl rfl ?_;refine k_pickT rfl zq ?_;refine d23 ?_;refine k_mv rfl rfl ?_;refine k_mv rfl rfl ?_;obtain ⟨jl,kl,rfl⟩:=rl.ptr (by omega)
   refine k_ixs rfl rfl (by first|rfl|assumption) (by omega) (by omega) ?_;refine k_ld rfl rfl (rl.ro.iat t (by omega) (by omega)) ?_;refine k_calP (Post:=fun v=>IsB _ v) rfl rfl (by kernel_rfl) (fun H' hH=>f54_c _ H' _ (r36.keeps (sq hH)) hyl) ?_;rintro v (⟨hc,rfl⟩|⟨hc,rfl⟩)
   ·refine k_put ?_;refine k_pickT rfl zq ?_;refine d23 ?_;refine d25 ?_;refine d25 ?_;refine k_calP (Post:=fun v=>IsB _ v) rfl rfl (by kernel_rfl) (fun H' hH=>f55_c _ H' _ _ _) ?_;rintro v (⟨hc,rfl⟩|⟨hc,rfl⟩)
    ·refine k_put ?_;refine k_pickT rfl zq ?_;refine d23 ?_;refine d25 ?_;refine d25 ?_;refine k_calP (Post:=fun v=>IsB _ v) rfl rfl (by kernel_rfl) (fun H' hH=>f55_c _ H' _ _ _) ?_;rintro v (⟨hc,rfl⟩|⟨hc,rfl⟩)
     ·refine k_put ?_;refine k_pickT rfl zq ?_;refine d23 ?_;refine d25 ?_;refine d25 ?_;refine k_calP (Post:=fun v=>IsB _ v) rfl rfl (by kernel_rfl) (fun H' hH=>f55_c _ H' _ _ _) ?_;rintro v (⟨hc,rfl⟩|⟨hc,rfl⟩)
      ·refine k_put ?_;refine k_pickT rfl zq ?_;refine d23 ?_;refine k_mv rfl rfl ?_;refine k_mv rfl rfl ?_;refine k_geq rfl rfl ?_;refine k_calP (Post:=fun v=>IsB _ v) rfl rfl (by kernel_rfl) (fun H' hH=>f56_c _ H' _ _) ?_;rintro v (⟨hc,rfl⟩|⟨hc,rfl⟩)
       ·refine k_put ?_;refine k_pickT rfl zq ?_;refine d23 ?_;refine d25 ?_;refine k_eqlT rfl rfl rfl ?_;refine k_pickT rfl zq ?_;refine d23 ?_;refine k_mv rfl rfl ?_;refine k_leqT rfl rfl a5 ?_;refine k_pickT rfl zq ?_;refine mq rfl ?_;refine k_cal rfl rfl (by kernel_rfl) (f18_c _) ?_;rintro v h' ⟨nF,rfl,rfl⟩;refine k_put ?_;refine d92 ?_;refine run_top rfl Tryz.func5 (by kernel_rfl) rfl ?_;rfl
       ·refine k_put ?_;exact absurd hcl hc
      ·refine k_put ?_;exact absurd ⟨a5,a6⟩ hc
     ·refine k_put ?_;exact absurd ⟨a3,a4⟩ hc
    ·refine k_put ?_;exact absurd ⟨a1,a2⟩ hc
   ·refine k_put ?_;exact absurd hin hc
 ·refine d44 ?_;refine d7 ?_;refine rs2 ?_
  refine k_cal rfl zq (by kernel_rfl) (f18_c _) ?_;rintro v h' ⟨nF,rfl,rfl⟩;refine d110 ?_
  refine run_top rfl Tryz.func5 (by kernel_rfl) rfl ?_;rfl
end Go.Proofs
