/- A part of the proof of a law: my own separation logic over the machine, and walks of the program. Condition of each theorem: as its statement says. -/
import Derived.Test.YtgplnpdblmcdoaaGreatDoorWC7
set_option linter.all false
namespace Go.Proofs
open Go.Lo
open Go.Conc (G)
set_option maxRecDepth 100000
set_option synthInstance.maxSize 100000
set_option synthInstance.maxHeartbeats 1000000
set_option maxHeartbeats 4000000
variable {b:Fb} {pp:Option Addr} {np cp:Nat} {pt:Option Addr} {nt ct:Nat} {pk:Option Addr} {nk ck:Nat}
variable {B:Array Obj}
instance:KeyT Tryz.prog 193:=⟨by kernel_rfl⟩
theorem und126: Tryz.prog.underlying 132=some (.map 193 3):=by kernel_rfl
theorem f46_c (m:Md Tryz.prog B) (h:Hp) (rdp:Rp B h b pp np cp) (hp:np≤1000) {xs:List Int} (hln:xs.length=np) (hpo:PtsOk b.pts) (hs:SmL xs) (x:Int) (hx:(b.pts.getD 0 default).h≤x∧x≤(b.pts.getD (np-1) default).h):FnC m 46 #[fbV b pp np cp pt nt ct pk nk ck,rwV xs,.int .i64 x] h fun v h'=>h'=h∧v= .int .i64 (atI b.pts xs x):=by
 have hml:=rdp.elen (by decide)
 have hnp2:=hpo.two
 have hnp5:=hpo.five
 refine jad Tryz.func46 rfl rfl (l:=(fbV b pp np cp pt nt ct pk nk ck)::(rwV xs)::(.int .i64 x)::uu66) rfl ?_
 intro cf cs K hK
 refine rs3 ?_;refine jaq rfl zq (fun q3=>k_hp (jac ?_));refine jaq rfl zq (fun q4=>k_hp (jac ?_));refine aq rfl ?_;refine d67 ?_;refine jaS ?_
 refine jag (fun nn l h'=> ∃(i:Nat),nn=np-i∧(i+1<np)∧(∀k,k<i→(b.pts.getD (k+1) default).h<x)∧(∃U:Nat→Value,l=((fbV b pp np cp pt nt ct pk nk ck)::(rwV xs)::(.int .i64 x)::(.pointer (some ⟨q3,0,none⟩))::(.pointer (some ⟨q4,0,none⟩))::(U 5)::(U 6)::(.int .i64 (i:Int))::vw61 U 8 []))∧h++[⟨true,q3,.cells (fbL b pp np cp pt nt ct pk nk ck).toArray 96 (0,0)⟩,⟨true,q4,.cells (rws xs).toArray 98 (0,0)⟩]=h') _ ⟨0,rfl,by omega,fun k hk=>by omega,exU rfl,rfl⟩ ?_;rintro nn l h' ⟨i,rfl,hi,hlow,⟨U,rfl⟩,rfl⟩ hnext;refine jak ?_;refine rs10 ?_;refine d23 ?_;refine d4 ?_;obtain ⟨rdp_b,rdp_o,rfl⟩:=rdp.ptr (by omega)
 refine d15 ?_
 refine k_ld rfl zq (rdp.fat (v:= .int .i64 (b.pts.getD (i+1) default).h) (i+1) 0 (by omega) (by omega) rfl) ?_;refine mq rfl ?_
 refine jap rfl zq (fun hc=>?_) (fun hc=>?_)
 ·refine d7 ?_;refine d124 ?_;refine rr3 ?_;refine d4 ?_;refine d35 ?_
  exact m.weak jaa (hnext _ _ _ (by omega) ⟨i+1,rfl,by
   rcases Nat.lt_or_ge (i+1+1) np with h3|h3
   ·exact h3
   ·have:np-1=i+1:=by omega
    rw [this] at hx
    omega,fun k hk=>by
   rcases Nat.lt_or_ge k i with h3|h3
   ·exact hlow k h3
   ·obtain rfl:k=i:=by omega
    assumption,exU rfl,rfl⟩)
 ·refine d41 ?_;refine jak ?_
  have hseg:segN b.pts x=i:=jlD (by omega) hlow (by omega)
  have ha:=hpo.at (show i<b.pts.length by omega)
  have hb:=hpo.at (show i+1<b.pts.length by omega)
  have hup:=hpo.up i (by omega)
  have hl0:=hs i
  have hl1:=hs (i+1)
  have hxi:(b.pts.getD i default).h≤x:=by
   rcases Nat.eq_zero_or_pos i with h3|h3
   ·rw [h3];exact hx.1
   ·have:=hlow (i-1) (by omega);rw [show i-1+1=i by omega] at this;omega
  have hmul:=mulB (x:=xs.getD (i+1) 0-xs.getD i 0) (y:=x-(b.pts.getD i default).h) (a:=959) (b:=959) (by omega) (by omega)
  refine jah [(0,.pure),(1,.pure),(3,.pure),(7,.pure),(8,.pure),(10,.pure),(11,.pure),(2,.read),(4,.pure),(5,.pure),(6,.read),(15,.pure),(9,.read),(12,.pure),(13,.pure),(14,.read),(16,.pure)] (by kernel_rfl) (by kernel_rfl) (List.Sublist.refl _) ?_;refine d8 ?_;refine mq rfl ?_;refine d8 ?_;refine d4 ?_;refine d182 ?_
  refine k_ld rfl zq (rdp.fat (v:= .int .i64 (b.pts.getD i default).h) i 0 (by omega) (by omega) rfl) ?_;refine k_as rfl zq ?_;refine d182 ?_;refine k_ld rfl zq (rdp.fat (v:= .int .i64 (b.pts.getD (i+1) default).h) (i+1) 0 (by omega) (by omega) rfl) ?_;refine d10 ?_
  refine jah [(0,.pure),(1,.pure),(2,.pure),(4,.pure),(5,.pure),(8,.pure),(9,.pure),(10,.pure),(12,.pure),(13,.pure),(14,.pure),(3,.read),(6,.read),(7,.pure),(11,.pure),(15,.pure),(16,.pure)] (by kernel_rfl) (by kernel_rfl) (List.Sublist.refl _) ?_;refine d4 ?_;refine jdZ rfl zq (by omega) (by omega) ?_;refine d174 ?_;refine d29 ?_;refine d29 ?_
  refine k_ld rfl zq (jcS (i+1) (by omega) (by omega)) ?_;refine k_ld rfl zq (jcS (i) (by omega) (by omega)) ?_;refine jcj rfl zq (by unfold In64;omega) ?_;refine jhp rfl zq (by unfold In64;omega) ?_;refine d54 ?_;refine d69 ?_;have hds:=divs (x:=(xs.getD (i+1) 0-xs.getD i 0)*(x-(b.pts.getD i default).h)) (y:=(b.pts.getD (i+1) default).h-(b.pts.getD i default).h) (by omega)
  have hdn:=jgc (x:=(xs.getD (i+1) 0-xs.getD i 0)*(x-(b.pts.getD i default).h)) (y:=(b.pts.getD (i+1) default).h-(b.pts.getD i default).h) (by omega) (b:=959*959) hmul
  refine k_quoZ rfl zq (by omega) (by unfold In64;omega) ?_;refine d10 ?_;refine d69 ?_
  refine k_remZ rfl zq (by omega) ?_;refine jap rfl zq (fun hc=>?_) (fun hc=>?_)
  ·refine d7 ?_;refine d161 ?_;refine d148 ?_;refine d174 ?_
   refine k_ld rfl zq (jcS (i) (by omega) (by omega)) ?_;refine d4 ?_;refine d0 ?_
   refine jab (h) rfl Tryz.func46 rfl jaa ?_;refine hK _ _ ?_;refine ⟨rfl,?_⟩
   unfold atI jje
   rw [hseg];simp only
   congr 1
   omega
  ·refine d9 ?_;refine rs6 ?_;refine d174 ?_
   refine k_ld rfl zq (jcS (i) (by omega) (by omega)) ?_;refine d4 ?_;refine d0 ?_
   refine jab (h) rfl Tryz.func46 rfl jaa ?_;refine hK _ _ ?_;refine ⟨rfl,?_⟩
   unfold atI jje
   rw [hseg];simp only
   congr 1
   omega
theorem f72_c (m:Md Tryz.prog B) (h:Hp) (rdp:Rp B h b pp np cp) (hp:np≤1000) {xs:List Int} (hpo:PtsOk b.pts) (hs:SmL xs):FnC m 72 #[fbV b pp np cp pt nt ct pk nk ck,rwV xs] h fun v h'=>h'=h∧v= .int .i64 (jcN b.pts xs):=by
 have hml:=rdp.elen (by decide)
 have hnp2:=hpo.two
 have hnp5:=hpo.five
 refine jad Tryz.func72 rfl rfl (l:=(fbV b pp np cp pt nt ct pk nk ck)::(rwV xs)::uu42) rfl ?_
 intro cf cs K hK
 refine rs3 ?_;refine jaq rfl zq (fun q2=>k_hp (jac ?_));refine jaq rfl zq (fun q3=>k_hp (jac ?_));refine aq rfl ?_;refine d67 ?_;refine rs6 ?_;refine d23 ?_;refine d79 ?_;refine mq rfl ?_;refine d57 ?_
 refine jag (fun nn l h'=> ∃(k:Nat) (s:Int),nn=np-k∧(k+1≤np)∧(s=jiF b.pts xs k)∧(0≤s)∧(s≤k*2000000)∧(∃U:Nat→Value,l=((fbV b pp np cp pt nt ct pk nk ck)::(rwV xs)::(.pointer (some ⟨q2,0,none⟩))::(.pointer (some ⟨q3,0,none⟩))::(U 4)::(.int .i64 s)::vw5 U 6 ((.int .i64 ((np:Int)-1))::(.int .i64 (k:Int))::vw31 U 13 [])))∧h++[⟨true,q2,.cells (fbL b pp np cp pt nt ct pk nk ck).toArray 96 (0,0)⟩,⟨true,q3,.cells (rws xs).toArray 98 (0,0)⟩]=h') _ ⟨0,0,rfl,by omega,rfl,by omega,by omega,exU rfl,rfl⟩ ?_;rintro nn l h' ⟨k,s,rfl,hk,hsum,hs0,hs1,⟨U,rfl⟩,rfl⟩ hnext;refine rs1 ?_;refine jap rfl zq (fun hc=>?_) (fun hc=>?_)
 ·refine d106 ?_;refine d16 ?_;refine aq rfl ?_
  have ha:=hpo.at (show k<b.pts.length by omega)
  have hb:=hpo.at (show k+1<b.pts.length by omega)
  have hup:=hpo.up k (by omega)
  have hl0:=hs k
  have hl1:=hs (k+1)
  have hmul:=mulB (x:=xs.getD k 0+xs.getD (k+1) 0) (y:=(b.pts.getD (k+1) default).h-(b.pts.getD k default).h) (a:=1918) (b:=959) (by omega) (by omega)
  have hpos:=Int.mul_nonneg (show 0≤xs.getD k 0+xs.getD (k+1) 0 by omega) (show 0≤(b.pts.getD (k+1) default).h-(b.pts.getD k default).h by omega)
  refine jah [(0,.pure),(1,.pure),(2,.pure),(4,.pure),(5,.pure),(6,.pure),(9,.pure),(10,.pure),(12,.pure),(13,.pure),(17,.pure),(18,.pure),(20,.pure),(3,.read),(7,.read),(8,.pure),(11,.read),(14,.pure),(15,.pure),(16,.read),(19,.read),(21,.pure),(22,.pure),(23,.read),(24,.pure),(25,.pure),(26,.pure),(27,.pure)] (by kernel_rfl) (by kernel_rfl) (List.Sublist.refl _) ?_;refine d139 ?_;refine d4 ?_;refine jdZ rfl zq (by omega) (by omega) ?_;refine d8 ?_;refine d4 ?_;refine d8 ?_;refine mq rfl ?_
  refine k_ld rfl zq (jcS (k) (by omega) (by omega)) ?_;refine k_ld rfl zq (jcS (k+1) (by omega) (by omega)) ?_;refine jdz rfl zq (by unfold In64;omega) ?_;refine jbb rfl zq ?_;obtain ⟨rdp_b,rdp_o,rfl⟩:=rdp.ptr (by omega)
  refine d15 ?_
  refine k_ld rfl zq (rdp.fat (v:= .int .i64 (b.pts.getD (k+1) default).h) (k+1) 0 (by omega) (by omega) rfl) ?_;refine d182 ?_
  refine k_ld rfl zq (rdp.fat (v:= .int .i64 (b.pts.getD k default).h) k 0 (by omega) (by omega) rfl) ?_;refine jcj rfl zq (by unfold In64;omega) ?_;refine d66 ?_;refine d145 ?_;exact m.weak jaa (hnext _ _ _ (by omega) ⟨k+1,_,rfl,by omega,by rw [jiF,←hsum],by omega,by push_cast;omega,exU rfl,rfl⟩)
 ·refine d107 ?_;refine d86 ?_
  refine jab (h) rfl Tryz.func72 rfl jaa ?_;refine hK _ _ ?_;obtain rfl:k=np-1:=by omega
  exact ⟨rfl,by rw [hsum,jcN,hml]⟩
theorem jgF {n:Nat} (h:n≤1839362):jcA n<1357:=rootN_lt (by omega)
theorem jfv {x y:Int} (hx: -959≤x∧x≤959) (hy: -959≤y∧y≤959): ∃n:Nat,x*x+y*y=(n:Int)∧n≤1839362:=by
 have h1:=mulB hx hx
 have h2:=mulB hy hy
 have p1:0≤x*x:=by
  rcases Int.lt_or_le x 0 with h|h
  ·have:=Int.mul_nonneg (show 0≤ -x by omega) (show 0≤ -x by omega);rwa [Int.neg_mul_neg] at this
  ·exact Int.mul_nonneg h h
 have p2:0≤y*y:=by
  rcases Int.lt_or_le y 0 with h|h
  ·have:=Int.mul_nonneg (show 0≤ -y by omega) (show 0≤ -y by omega);rwa [Int.neg_mul_neg] at this
  ·exact Int.mul_nonneg h h
 exact ⟨(x*x+y*y).toNat,by omega,by omega⟩
theorem f155_c (m:Md Tryz.prog B) (h:Hp) (rdp:Rp B h b pp np cp) (hp:np≤1000) {p:Option Addr} {n c:Nat} {xs:List Int} (rd:RdS B h 1 (.slice p n c) n (ints xs)) (hn:n≤1000) (hln:np≤n) (hpo:PtsOk b.pts) (hs:SmL xs) (f t:Nat) (hft:f≤t) (ht:t<np):FnC m 155 #[fbV b pp np cp pt nt ct pk nk ck,.slice p n c,.int .i64 (f:Int),.int .i64 (t:Int)] h fun v h'=>h'=h∧v= .int .i64 (jcy b.pts xs f t):=by
 have hml:=rdp.elen (by decide)
 have hll:=rd.ilen
 have hnp2:=hpo.two
 have hnp5:=hpo.five
 refine jad Tryz.func155 rfl rfl (l:=(fbV b pp np cp pt nt ct pk nk ck)::(.slice p n c)::(.int .i64 (f:Int))::(.int .i64 (t:Int))::uu50) rfl ?_
 intro cf cs K hK
 refine rs2 ?_;refine jaq rfl zq (fun q4=>k_hp (jac ?_));refine aq rfl ?_;refine d67 ?_;refine d16 ?_;refine d39 ?_
 refine jag (fun nn l h'=> ∃(k:Nat) (s:Int),nn=t-(f+k)∧(f+k≤t)∧(s=jg0 b.pts xs f k)∧(0≤s)∧(s≤k*1400)∧(∃U:Nat→Value,l=((fbV b pp np cp pt nt ct pk nk ck)::(.slice p n c)::(.int .i64 (f:Int))::(.int .i64 (t:Int))::(.pointer (some ⟨q4,0,none⟩))::vw4 U 5 ((.int .i64 s)::(.int .i64 ((f+k:Nat):Int))::vw43 U 11 [])))∧h++[⟨true,q4,.cells (fbL b pp np cp pt nt ct pk nk ck).toArray 26 (0,0)⟩]=h') _ ⟨0,0,rfl,by omega,rfl,by omega,by omega,exU rfl,rfl⟩ ?_;rintro nn l h' ⟨k,s,rfl,hk,hsum,hs0,hs1,⟨U,rfl⟩,rfl⟩ hnext;refine jak ?_;refine d175 ?_;refine jap rfl zq (fun hc=>?_) (fun hc=>?_)
 ·refine d97 ?_
  have ha:=hpo.at (show f+k<b.pts.length by omega)
  have hb:=hpo.at (show f+k+1<b.pts.length by omega)
  have hup:=hpo.up (f+k) (by omega)
  have hl0:=hs (f+k)
  have hl1:=hs (f+k+1)
  obtain ⟨N,hN,hN2⟩:=jfv (x:=(b.pts.getD (f+k+1) default).h-(b.pts.getD (f+k) default).h) (y:=xs.getD (f+k+1) 0-xs.getD (f+k) 0) (by omega) (by omega)
  have hrs:=jgF hN2
  have hro:jlx b.pts xs (f+k)=(jcA N:Int):=by rw [jlx,hN];rfl
  have hrI:jdY (N:Int)=(jcA N:Int):=rfl
  refine jah [(0,.pure),(2,.pure),(3,.pure),(7,.pure),(9,.pure),(14,.pure),(15,.pure),(16,.pure),(17,.pure),(19,.pure),(20,.pure),(21,.pure),(1,.read),(4,.pure),(5,.pure),(6,.read),(8,.read),(10,.pure),(11,.pure),(12,.read),(13,.pure),(24,.pure),(18,.read),(22,.read),(23,.pure),(25,.pure)] (by kernel_rfl) (by kernel_rfl) (List.Sublist.refl _) ?_;(first|refine jcc rfl zq ?_|refine k_fa rfl zq ?_);refine d4 ?_;(first|refine jcc rfl zq ?_|refine k_fa rfl zq ?_);refine d3 ?_;refine d4 ?_
  obtain ⟨rd_b,rd_o,rfl⟩:=rd.ptr (by omega)
  refine jaJ rfl zq (by first|rfl|assumption) (by omega) (by omega) ?_;refine d11 ?_;refine jbb rfl zq ?_;obtain ⟨rdp_b,rdp_o,rfl⟩:=rdp.ptr (by omega)
  refine d15 ?_
  refine k_ld rfl zq (rdp.fat (v:= .int .i64 (b.pts.getD ((f+k)+1) default).h) ((f+k)+1) 0 (by omega) (by omega) rfl) ?_;refine d182 ?_
  refine k_ld rfl zq (rdp.fat (v:= .int .i64 (b.pts.getD (f+k) default).h) (f+k) 0 (by omega) (by omega) rfl) ?_;refine jcj rfl zq (by unfold In64;omega) ?_;refine k_as rfl zq ?_;refine k_ld rfl zq (rd.iat ((f+k)+1) (by omega) (by omega)) ?_;refine k_ld rfl zq (rd.iat (f+k) (by omega) (by omega)) ?_;refine jcj rfl zq (by unfold In64;omega) ?_;refine aq rfl ?_;refine rr11 ?_;have hq1:=mulB (x:=(b.pts.getD (f+k+1) default).h-(b.pts.getD (f+k) default).h) (y:=(b.pts.getD (f+k+1) default).h-(b.pts.getD (f+k) default).h) (a:=959) (b:=959) (by omega) (by omega)
  have hq2:=mulB (x:=xs.getD (f+k+1) 0-xs.getD (f+k) 0) (y:=xs.getD (f+k+1) 0-xs.getD (f+k) 0) (a:=959) (b:=959) (by omega) (by omega)
  refine d127 ?_;refine jhp rfl zq (by unfold In64;omega) ?_;refine d3 ?_;refine d66 ?_
  rw [hN];refine jae (Post:=fun v=>v=_) rfl zq (by kernel_rfl) (fun H' hH=>f184_c m H' N (by omega)) ?_;rintro v rfl;refine jac ?_;rw [hrI];refine jdz rfl zq (by unfold In64;omega) ?_;refine d167 ?_;exact m.weak jaa (hnext _ _ _ (by omega) ⟨k+1,_,rfl,by omega,by rw [jg0,←hsum,hro],by omega,by push_cast;omega,exU rfl,rfl⟩)
 ·refine d176 ?_
  refine jab (h) rfl Tryz.func155 rfl jaa ?_;refine hK _ _ ?_;obtain rfl:k=t-f:=by omega
  exact ⟨rfl,by rw [hsum,jcy,Int.toNat_natCast,show ((t:Int)-(f:Int)).toNat=t-f by omega]⟩
section
variable {P:Program} {B:Array Obj} {m:Md P B} {ops:Array Oper} {l l':List Value} {S h h' H:Hp} {C:List Value→Hp→Prop} {i:Nat} {kd:Kd} {r:List (Nat×Kd)}
 {d:Option Tmp} {ty:TypeId} {pos:String} {af:Array Edge} {g:Option (Nat×Bool)}
theorem jfd {t:TypeId} (hb:P.underlying t=some .bool) (a c:Bool):Reads P B (Op.equal t (.bool a) (.bool c)) H (a==c):=by
 show Reads P B (Op.equalIn 10000 t (.bool a) (.bool c)) H (a==c)
 unfold Op.equalIn
 exact Reads.bind (jal hb).reads (Reads.pure _)
theorem k_eqBV {t u:TypeId} {x y:Operand} {a c:Bool} (ho:ops[i]?=some ⟨d,.binOp .eql t x y u,ty,pos,af,g⟩) (hw:Wt ops l g) (hb:P.underlying t=some .bool) [KHeap kd S h H] [ex:OpV l x (.bool a)] [ey:OpV l y (.bool c)] [PutV l d (.bool (a==c)) l'] (q:RegK m S ops r l' h C):RegK m S ops ((i,kd)::r) l h C:=
 RegK.rd (v:= .bool (a==c)) ho hw (by
  simp only [execOp,ex.eq,ey.eq]
  refine Reads.value (Reads.bind (a:=()) (Reads.pure _) ?_)
  show Reads P B (Op.equal t (.bool a) (.bool c)>>=fun b=>pure (Value.bool b)) H _
  exact Reads.bind (jfd hb a c) (Reads.pure _)) q
theorem k_neqBV {t u:TypeId} {x y:Operand} {a c:Bool} (ho:ops[i]?=some ⟨d,.binOp .neq t x y u,ty,pos,af,g⟩) (hw:Wt ops l g) (hb:P.underlying t=some .bool) [KHeap kd S h H] [ex:OpV l x (.bool a)] [ey:OpV l y (.bool c)] [PutV l d (.bool !(a==c)) l'] (q:RegK m S ops r l' h C):RegK m S ops ((i,kd)::r) l h C:=
 RegK.rd (v:= .bool !(a==c)) ho hw (by
  simp only [execOp,ex.eq,ey.eq]
  refine Reads.value (Reads.bind (a:=()) (Reads.pure _) ?_)
  show Reads P B (Op.equal t (.bool a) (.bool c)>>=fun b=>pure (Value.bool !b)) H _
  exact Reads.bind (jfd hb a c) (Reads.pure _)) q
end
theorem bool3: Tryz.prog.underlying 4=some .bool:=by kernel_rfl
abbrev Ents:=List (Int×Int×Int)
def OkE (es:Ents):Prop:= ∀e∈es,e.2.2=jdY (e.1*e.1+e.2.1*e.2.1)
theorem OkE.nil:OkE []:=fun e he=>by simp at he
theorem OkE.snoc {es:Ents} (h:OkE es) (a c:Int):OkE (es++[(a,c,jdY (a*a+c*c))]):=fun e he=>by
 rcases List.mem_append.1 he with he|he
 ·exact h e he
 ·rw [List.mem_singleton.1 he]
theorem OkE.get {es:Ents} (h:OkE es) {a c:Int} (hs:(jdC a c es 0).isSome=true):cntE es a c=jdY (a*a+c*c):=by
 obtain ⟨p,hp⟩:=Option.isSome_iff_exists.1 hs
 obtain ⟨j,n⟩:=p
 obtain ⟨p,rfl,hg⟩:=jg2 a c es 0 j n hp
 unfold cntE
 rw [hp];exact h _ (List.mem_of_getElem? hg)
theorem f126_c (m:Md Tryz.prog B) (h:Hp) (q:Nat) (es:Ents) (hes:OkE es) (x y:Int) (hx: -959≤x∧x≤959) (hy: -959≤y∧y≤959):FnC m 126 #[.map (some q),.agg [.int .i64 x,.int .i64 y].toArray] (h++[⟨true,q,mapO es⟩]) fun v h'=> ∃es',h'=h++[⟨true,q,mapO es'⟩]∧OkE es'∧v= .int .i64 (jdY (x*x+y*y)):=by
 have hxy:=jfv hx hy
 refine jad Tryz.func126 rfl rfl (l:=(.map (some q))::(.agg [.int .i64 x,.int .i64 y].toArray)::uu29) rfl ?_
 intro cf cs K hK
 refine rs2 ?_;refine jaq rfl zq (fun q3=>k_hp (jac ?_));refine aq rfl ?_;refine rs8 ?_;refine mq rfl ?_;refine jaT rfl zq ?_
 refine jmu und126 rfl zq (jac ?_);refine d47 ?_;refine d99 ?_;refine d16 ?_;refine k_not rfl zq ?_;refine jaB ?_
 refine jew (fun hc=>?_) (fun hc=>?_)
 ·first|replace hc:=of_decide_eq_true hc|replace hc:=of_decide_eq_false hc|skip
  refine jak ?_;obtain ⟨N,hN,hN2⟩:=jfv hx hy
  have hq1:=mulB hx hx
  have hq2:=mulB hy hy
  have hnone:jdC x y es 0=none:=by simpa using hc
  refine rr13 ?_;refine d1 ?_;refine d1 ?_;refine jhp rfl zq (by unfold In64;omega) ?_;refine d1 ?_;refine d1 ?_;refine d66 ?_;rw [hN];refine jae (Post:=fun v=>v=_) rfl zq (by kernel_rfl) (fun H' hH=>f69_c m H' N (by omega)) ?_;rintro v rfl;refine d83 ?_;refine rr4 ?_;refine mq rfl ?_;refine d77 ?_
  refine k_mapNew und126 rfl zq hnone ?_;refine jaB ?_;refine d86 ?_;refine jab (h++[⟨true,q,mapO (es++[(x,y,jdY (N:Int))])⟩]) rfl Tryz.func126 rfl jaa ?_;refine hK _ _ ?_;rw [←hN];exact ⟨_,rfl,hes.snoc x y,rfl⟩
 ·first|replace hc:=of_decide_eq_true hc|replace hc:=of_decide_eq_false hc|skip
  refine jby ?_;refine d86 ?_;refine jab (h++[⟨true,q,mapO es⟩]) rfl Tryz.func126 rfl jaa ?_;refine hK _ _ ?_;have hsome:(jdC x y es 0).isSome=true:=by simpa using hc
  exact ⟨_,rfl,hes,by rw [hes.get hsome]⟩
theorem f71_c (m:Md Tryz.prog B) (h:Hp) (q:Nat) (es:Ents) (hes:OkE es) (rdp:Rp B h b pp np cp) (hp:np≤1000) {xs:List Int} (hln:xs.length=np) (hpo:PtsOk b.pts) (hs:SmL xs) (f t:Nat) (hft:f≤t) (ht:t<np):FnC m 71 #[fbV b pp np cp pt nt ct pk nk ck,.map (some q),rwV xs,.int .i64 (f:Int),.int .i64 (t:Int)] (h++[⟨true,q,mapO es⟩]) fun v h'=> ∃es',h'=h++[⟨true,q,mapO es'⟩]∧OkE es'∧v= .int .i64 (jcy b.pts xs f t):=by
 have hml:=rdp.elen (by decide)
 have hnp2:=hpo.two
 have hnp5:=hpo.five
 refine jad Tryz.func71 rfl rfl (l:=(fbV b pp np cp pt nt ct pk nk ck)::(.map (some q))::(rwV xs)::(.int .i64 (f:Int))::(.int .i64 (t:Int))::uu53) rfl ?_
 intro cf cs K hK
 refine rs3 ?_;refine jaq rfl zq (fun q5=>k_hp (jac ?_));refine jaq rfl zq (fun q7=>k_hp (jac ?_));refine aq rfl ?_;refine d67 ?_;refine d16 ?_;refine d39 ?_
 refine jag (fun nn l h'=> ∃(k:Nat) (s:Int) (es:Ents),nn=t-(f+k)∧(f+k≤t)∧(s=jg0 b.pts xs f k)∧(0≤s)∧(s≤k*1400)∧(OkE es)∧(∃U:Nat→Value,l=((fbV b pp np cp pt nt ct pk nk ck)::(.map (some q))::(rwV xs)::(.int .i64 (f:Int))::(.int .i64 (t:Int))::(.pointer (some ⟨q5,0,none⟩))::(U 6)::(.pointer (some ⟨q7,0,none⟩))::(U 8)::(U 9)::(U 10)::(.int .i64 s)::(.int .i64 ((f+k:Nat):Int))::vw45 U 13 []))∧h++[⟨true,q,mapO es⟩,⟨true,q5,.cells (fbL b pp np cp pt nt ct pk nk ck).toArray 96 (0,0)⟩,⟨true,q7,.cells (rws xs).toArray 98 (0,0)⟩]=h') _ ⟨0,0,es,rfl,by omega,rfl,by omega,by omega,hes,exU rfl,rfl⟩ ?_;rintro nn l h' ⟨k,s,es,rfl,hk,hsum,hs0,hs1,hes,⟨U,rfl⟩,rfl⟩ hnext;refine jak ?_;refine d175 ?_;refine jap rfl zq (fun hc=>?_) (fun hc=>?_)
 ·refine d75 ?_
  have ha:=hpo.at (show f+k<b.pts.length by omega)
  have hb:=hpo.at (show f+k+1<b.pts.length by omega)
  have hup:=hpo.up (f+k) (by omega)
  have hl0:=hs (f+k)
  have hl1:=hs (f+k+1)
  obtain ⟨N,hN,hN2⟩:=jfv (x:=(b.pts.getD (f+k+1) default).h-(b.pts.getD (f+k) default).h) (y:=xs.getD (f+k+1) 0-xs.getD (f+k) 0) (by omega) (by omega)
  have hrs:=jgF hN2
  have hro:jlx b.pts xs (f+k)=(jcA N:Int):=by rw [jlx,hN];rfl
  have hmx:max (xs.getD (f+k) 0-xs.getD (f+k+1) 0) (xs.getD (f+k+1) 0-xs.getD (f+k) 0)*max (xs.getD (f+k) 0-xs.getD (f+k+1) 0) (xs.getD (f+k+1) 0-xs.getD (f+k) 0)=(xs.getD (f+k+1) 0-xs.getD (f+k) 0)*(xs.getD (f+k+1) 0-xs.getD (f+k) 0):=by
   rcases Int.le_total (xs.getD (f+k) 0) (xs.getD (f+k+1) 0) with h3|h3
   ·rw [Int.max_eq_right (by omega)]
   ·rw [Int.max_eq_left (by omega),show xs.getD (f+k) 0-xs.getD (f+k+1) 0= -(xs.getD (f+k+1) 0-xs.getD (f+k) 0) by omega,Int.neg_mul_neg]
  refine jah (S:=h++[⟨true,q5,.cells (fbL b pp np cp pt nt ct pk nk ck).toArray 96 (0,0)⟩,⟨true,q7,.cells (rws xs).toArray 98 (0,0)⟩]) [(0,.pure),(1,.pure),(2,.pure),(3,.pure),(5,.pure),(6,.pure),(10,.pure),(11,.pure),(13,.pure),(18,.pure),(19,.pure),(21,.pure),(22,.pure),(23,.pure),(26,.pure),(27,.pure),(28,.pure),(30,.pure),(31,.pure),(4,.read),(7,.pure),(8,.pure),(9,.read),(12,.read),(14,.pure),(15,.pure),(16,.read),(17,.pure),(20,.read),(24,.read),(25,.pure),(29,.read),(32,.read),(33,.pure),(34,.pure),(35,.pure),(36,.keep),(37,.pure),(38,.pure)] (by kernel_rfl) (by kernel_rfl) SubH.sub ?_;refine d3 ?_;refine d8 ?_;refine d4 ?_;refine d8 ?_;refine d139 ?_;refine d4 ?_;refine jdZ rfl zq (by omega) (by omega) ?_;refine d4 ?_;refine jdZ rfl zq (by omega) (by omega) ?_;refine d174 ?_;refine jbb rfl zq ?_
  obtain ⟨rdp_b,rdp_o,rfl⟩:=rdp.ptr (by omega)
  refine d15 ?_
  refine k_ld rfl zq (rdp.fat (v:= .int .i64 (b.pts.getD ((f+k)+1) default).h) ((f+k)+1) 0 (by omega) (by omega) rfl) ?_;refine d182 ?_
  refine k_ld rfl zq (rdp.fat (v:= .int .i64 (b.pts.getD (f+k) default).h) (f+k) 0 (by omega) (by omega) rfl) ?_;refine jcj rfl zq (by unfold In64;omega) ?_;refine k_ld rfl zq (jcS (f+k) (by omega) (by omega)) ?_;refine k_ld rfl zq (jcS (f+k+1) (by omega) (by omega)) ?_;refine jcj rfl zq (by unfold In64;omega) ?_;refine k_ld rfl zq (jcS (f+k+1) (by omega) (by omega)) ?_;refine k_ld rfl zq (jcS (f+k) (by omega) (by omega)) ?_;refine jcj rfl zq (by unfold In64;omega) ?_;refine jja rfl zq ?_;refine jcP rfl zq ?_;refine jmA (Post:=fun v es'=>OkE es'∧v=_) q rfl zq (by kernel_rfl) (f126_c m _ q es hes _ _ (by omega) (by omega)) ?_;rintro v es2 ⟨hes2,rfl⟩;refine jac ?_;rw [hmx,hN,show jdY (N:Int)=(jcA N:Int) from rfl];refine jdz rfl zq (by unfold In64;omega) ?_;refine d167 ?_;exact m.weak jaa (hnext _ _ _ (by omega) ⟨k+1,_,es2,rfl,by omega,by rw [jg0,←hsum,hro],by omega,by push_cast;omega,hes2,exU rfl,rfl⟩)
 ·refine d176 ?_
  refine jab (h++[⟨true,q,mapO es⟩]) rfl Tryz.func71 rfl jaa ?_;refine hK _ _ ?_;obtain rfl:k=t-f:=by omega
  exact ⟨_,rfl,hes,by rw [hsum,jcy,Int.toNat_natCast,show ((t:Int)-(f:Int)).toNat=t-f by omega]⟩
def jd3 (b:Fb) (xs:List Int) (t:Tp):Prop:=t.lo≤jcy b.pts xs t.f t.t∧jcy b.pts xs t.f t.t≤t.hi
def jcW (b:Fb) (xs:List Int) (k:Sk):Prop:=decide (k.long≤atI b.pts xs k.h)=k.fits
instance (b:Fb) (xs:List Int) (t:Tp):Decidable (jd3 b xs t):=by unfold jd3;infer_instance
instance (b:Fb) (xs:List Int) (k:Sk):Decidable (jcW b xs k):=by unfold jcW;infer_instance
def jbO (b:Fb) (xs:List Int):Prop:=(∀t∈b.tapes,jd3 b xs t)∧ ∀k∈b.sticks,jcW b xs k
instance (b:Fb) (xs:List Int):Decidable (jbO b xs):=by unfold jbO;infer_instance
def je9 (b:Fb) (xs:List Int):Prop:= ∀i,i<xs.length→(b.pts.getD i default).lo≤xs.getD i 0∧xs.getD i 0≤(b.pts.getD i default).hi
theorem f115_c (m:Md Tryz.prog B) (h:Hp) (rdp:Rp B h b pp np cp) (hp:np≤1000) {p:Option Addr} {n c:Nat} {xs:List Int} (rd:RdS B h 1 (.slice p n c) n (ints xs)) (hn:n≤1000) (hln:n=np) (hpo:PtsOk b.pts) (hs:SmL xs) (t:Tp) (f e:Nat) (hf:t.f=f) (he:t.t=e) (hfe:f≤e) (hen:e<np):FnC m 115 #[fbV b pp np cp pt nt ct pk nk ck,.slice p n c,tpV t] h fun v h'=>h'=h∧IsB (jd3 b xs t) v:=by
 have hml:=rdp.elen (by decide)
 refine jad Tryz.func115 rfl rfl (l:=(fbV b pp np cp pt nt ct pk nk ck)::(.slice p n c)::(tpV t)::uu18) rfl ?_
 intro cf cs K hK
 refine rs3 ?_;refine jaq rfl zq (fun q3=>k_hp (jac ?_));refine jaq rfl zq (fun q5=>k_hp (jac ?_));refine d10 ?_
 refine jah [(1,.pure),(2,.pure),(4,.pure),(7,.pure),(8,.pure),(10,.pure),(11,.pure),(0,.read),(3,.read),(5,.read),(9,.read),(12,.read),(6,.keep),(13,.keep),(14,.pure)] (by kernel_rfl) (by kernel_rfl) (List.Sublist.refl _) ?_;refine mq rfl ?_;refine d8 ?_;refine d8 ?_;refine d8 ?_;refine d74 ?_;refine d85 ?_;refine jbb rfl zq ?_
 rw [hf,he];refine jae (Post:=fun v=>v=_) rfl zq (by kernel_rfl) (fun H' hH=>f155_c m H' (rdp.keeps (sq hH)) hp (rd.keeps (sq hH)) hn (by omega) hpo hs f e hfe hen) ?_;rintro v rfl;refine jac ?_;refine jae (Post:=fun v=>IsB _ v) rfl zq (by kernel_rfl) (fun H' hH=>f50_c m H' _ _ _) ?_;rintro v hv;refine d87 ?_
 refine jab (h) rfl Tryz.func115 rfl jaa ?_;refine hK _ _ ?_;exact ⟨rfl,hv.iff (by unfold jd3;rw [hf,he])⟩
theorem f116_c (m:Md Tryz.prog B) (h:Hp) (rdp:Rp B h b pp np cp) (hp:np≤1000) {p:Option Addr} {n c:Nat} {xs:List Int} (rd:RdS B h 1 (.slice p n c) n (ints xs)) (hn:n≤1000) (hln:n=np) (hpo:PtsOk b.pts) (hs:SmL xs) (k:Sk) (hk:(b.pts.getD 0 default).h≤k.h∧k.h≤(b.pts.getD (np-1) default).h):FnC m 116 #[fbV b pp np cp pt nt ct pk nk ck,.slice p n c,skV k] h fun v h'=>h'=h∧IsB (jcW b xs k) v:=by
 have hml:=rdp.elen (by decide)
 refine jad Tryz.func116 rfl rfl (l:=(fbV b pp np cp pt nt ct pk nk ck)::(.slice p n c)::(skV k)::uu15) rfl ?_
 intro cf cs K hK
 refine rs3 ?_;refine jaq rfl zq (fun q3=>k_hp (jac ?_));refine jaq rfl zq (fun q5=>k_hp (jac ?_));refine d10 ?_
 refine jah [(1,.pure),(2,.pure),(5,.pure),(8,.pure),(0,.read),(3,.read),(6,.read),(9,.read),(4,.keep),(7,.pure),(10,.pure),(11,.pure)] (by kernel_rfl) (by kernel_rfl) (List.Sublist.refl _) ?_;refine mq rfl ?_;refine d8 ?_;refine d62 ?_;refine d85 ?_;refine jbb rfl zq ?_
 refine jae (Post:=fun v=>v=_) rfl zq (by kernel_rfl) (fun H' hH=>f156_c m H' (rdp.keeps (sq hH)) hp (rd.keeps (sq hH)) hn (by omega) hpo hs k.h hk) ?_;rintro v rfl;refine jac ?_;refine jkY rfl zq ?_;refine k_eqBV rfl zq bool3 ?_;refine d0 ?_
 refine jab (h) rfl Tryz.func116 rfl jaa ?_;refine hK _ _ ?_;refine ⟨rfl,?_⟩
 unfold jcW
 by_cases he:decide (k.long≤atI b.pts xs k.h)=k.fits
 ·exact .inl ⟨he,by rw [←he];simp⟩
 ·exact .inr ⟨he,by simpa using he⟩
theorem f53_c (m:Md Tryz.prog B) (h:Hp) (rdp:Rp B h b pp np cp) (hp:np≤1000) (rdt:Rt B h b pt nt ct) (ht:nt≤1000) (rdk:Rk B h b pk nk ck) (hk:nk≤1000) {p:Option Addr} {n c:Nat} {xs:List Int} (rd:RdS B h 1 (.slice p n c) n (ints xs)) (hn:n≤1000) (hln:n=np) (hv:FOk b) (hs:SmL xs):FnC m 53 #[fbV b pp np cp pt nt ct pk nk ck,.slice p n c] h fun v h'=>h'=h∧IsB (jbO b xs) v:=by
 have hml:=rdp.elen (by decide)
 have htl:=rdt.elen (by decide)
 have hkl:=rdk.elen (by decide)
 have hll:=rd.ilen
 refine jad Tryz.func53 rfl rfl (l:=(fbV b pp np cp pt nt ct pk nk ck)::(.slice p n c)::uu37) rfl ?_
 intro cf cs K hK
 refine rs2 ?_;refine jaq rfl zq (fun q2=>k_hp (jac ?_));refine d10 ?_;refine d98 ?_
 refine jag (fun nn l h'=> ∃(j:Nat),nn=nt-j∧(j≤nt)∧(∀i,i<j→jd3 b xs (b.tapes.getD i default))∧(∃U:Nat→Value,l=((fbV b pp np cp pt nt ct pk nk ck)::(.slice p n c)::(.pointer (some ⟨q2,0,none⟩))::(U 3)::(U 4)::(.int .i64 (j:Int))::vw33 U 6 []))∧h++[⟨true,q2,.cells (fbL b pp np cp pt nt ct pk nk ck).toArray 26 (0,0)⟩]=h') _ ⟨0,rfl,by omega,fun i hi=>by omega,exU rfl,rfl⟩ ?_;rintro nn l h' ⟨j,rfl,hj,hall1,⟨U,rfl⟩,rfl⟩ hnext1;refine d158 ?_;refine d95 ?_
 refine jap rfl zq (fun hc=>?_) (fun hc=>?_)
 ·refine d97 ?_
  obtain ⟨f,e,hf,he,hfe,hen⟩:=hv.tape (jai.2 ⟨j,by omega,rfl⟩:b.tapes.getD j default∈b.tapes)
  refine jah [(1,.pure),(2,.pure),(4,.pure),(0,.read),(3,.read),(5,.pure),(6,.read),(7,.keep),(8,.pure)] (by kernel_rfl) (by kernel_rfl) (List.Sublist.refl _) ?_;refine mq rfl ?_;refine d61 ?_;refine d74 ?_
  obtain ⟨rdt_b,rdt_o,rfl⟩:=rdt.ptr (by omega)
  refine jaJ rfl zq (by first|rfl|assumption) (by omega) (by omega) ?_;refine jbf (vs:=[.int .i64 (b.tapes.getD j default).f,.int .i64 (b.tapes.getD j default).t,.int .i64 (b.tapes.getD j default).lo,.int .i64 (b.tapes.getD j default).hi]) rfl zq rfl (rdt.eat j (by omega) (by omega)) ?_;refine jae (Post:=fun v=>IsB _ v) rfl zq (by kernel_rfl) (fun H' hH=>f115_c m H' (rdp.keeps (sq hH)) hp (rd.keeps (sq hH)) hn hln hv.pts hs (b.tapes.getD j default) f e hf he hfe (by omega)) ?_;rintro v (⟨hc,rfl⟩|⟨hc,rfl⟩)
  ·refine d31 ?_;refine d105 ?_
   exact m.weak jaa (hnext1 _ _ _ (by omega) ⟨j+1,rfl,by omega,jeR hall1 (by assumption),exU rfl,rfl⟩)
  ·refine d152 ?_
   refine jab (h) rfl Tryz.func53 rfl jaa ?_;refine hK _ _ ?_;exact ⟨rfl,IsB.no fun e=>hc (e.1 _ (jai.2 ⟨j,by omega,rfl⟩))⟩
 ·refine d41 ?_;refine jak ?_;refine d98 ?_
  refine jag (fun nn l h'=> ∃(j:Nat),nn=nk-j∧(j≤nk)∧(∀i,i<j→jcW b xs (b.sticks.getD i default))∧(∃U:Nat→Value,l=((fbV b pp np cp pt nt ct pk nk ck)::(.slice p n c)::(.pointer (some ⟨q2,0,none⟩))::(U 3)::(U 4)::(U 5)::(.int .i64 (j:Int))::vw32 U 7 []))∧h++[⟨true,q2,.cells (fbL b pp np cp pt nt ct pk nk ck).toArray 26 (0,0)⟩]=h') _ ⟨0,rfl,by omega,fun i hi=>by omega,exU rfl,rfl⟩ ?_;rintro nn l h' ⟨j,rfl,hj2,hall2,⟨U,rfl⟩,rfl⟩ hnext2;refine d158 ?_;refine d95 ?_
  refine jap rfl zq (fun hc=>?_) (fun hc=>?_)
  ·refine d97 ?_
   have hsk:=hv.sticks (b.sticks.getD j default) (jai.2 ⟨j,by omega,rfl⟩)
   rw [okSk,hml] at hsk
   refine jah [(1,.pure),(2,.pure),(4,.pure),(0,.read),(3,.read),(5,.pure),(6,.read),(7,.keep),(8,.pure)] (by kernel_rfl) (by kernel_rfl) (List.Sublist.refl _) ?_;refine mq rfl ?_;refine d61 ?_;refine d74 ?_
   obtain ⟨rdk_b,rdk_o,rfl⟩:=rdk.ptr (by omega)
   refine jaJ rfl zq (by first|rfl|assumption) (by omega) (by omega) ?_;refine jbf (vs:=[.int .i64 (b.sticks.getD j default).h,.int .i64 (b.sticks.getD j default).long,.bool (b.sticks.getD j default).fits]) rfl zq rfl (rdk.eat j (by omega) (by omega)) ?_;refine jae (Post:=fun v=>IsB _ v) rfl zq (by kernel_rfl) (fun H' hH=>f116_c m H' (rdp.keeps (sq hH)) hp (rd.keeps (sq hH)) hn hln hv.pts hs (b.sticks.getD j default) hsk.1) ?_;rintro v (⟨hc,rfl⟩|⟨hc,rfl⟩)
   ·refine d31 ?_;refine d105 ?_
    exact m.weak jaa (hnext2 _ _ _ (by omega) ⟨j+1,rfl,by omega,jeR hall2 (by assumption),exU rfl,rfl⟩)
   ·refine d152 ?_
    refine jab (h) rfl Tryz.func53 rfl jaa ?_;refine hK _ _ ?_;exact ⟨rfl,IsB.no fun e=>hc (e.2 _ (jai.2 ⟨j,by omega,rfl⟩))⟩
  ·refine d160 ?_
   refine jab (h) rfl Tryz.func53 rfl jaa ?_;refine hK _ _ ?_;refine ⟨rfl,IsB.yes ⟨fun t ht=>?_,fun k hk=>?_⟩⟩
   ·obtain ⟨i,hi,rfl⟩:=jai.1 ht
    exact hall1 i (by omega)
   ·obtain ⟨i,hi,rfl⟩:=jai.1 hk
    exact hall2 i (by omega)
theorem f71_i (m:Md Tryz.prog B) (h:Hp) (q:Nat) (es:Ents) (hes:OkE es) (rdp:Rp B h b pp np cp) (hp:np≤1000) {xs:List Int} (hln:xs.length=np) (hpo:PtsOk b.pts) (hs:SmL xs) (f t:Int) (f' t':Nat) (hf:f=f') (he:t=t') (hft:f'≤t') (ht:t'<np):FnC m 71 #[fbV b pp np cp pt nt ct pk nk ck,.map (some q),rwV xs,.int .i64 f,.int .i64 t] (h++[⟨true,q,mapO es⟩]) fun v h'=> ∃es',h'=h++[⟨true,q,mapO es'⟩]∧OkE es'∧v= .int .i64 (jcy b.pts xs f t):=by
 subst hf he
 exact f71_c m h q es hes rdp hp hln hpo hs f' t' hft ht
theorem f74_c (m:Md Tryz.prog B) (h:Hp) (q:Nat) (es:Ents) (hes:OkE es) (rdp:Rp B h b pp np cp) (hp:np≤1000) (rdt:Rt B h b pt nt ct) (ht:nt≤1000) (rdk:Rk B h b pk nk ck) (hk:nk≤1000) {xs:List Int} (hln:xs.length=np) (hv:FOk b) (hs:SmL xs):FnC m 74 #[fbV b pp np cp pt nt ct pk nk ck,.map (some q),rwV xs] (h++[⟨true,q,mapO es⟩]) fun v h'=> ∃es',h'=h++[⟨true,q,mapO es'⟩]∧OkE es'∧IsB (jbO b xs) v:=by
 have hml:=rdp.elen (by decide)
 have htl:=rdt.elen (by decide)
 have hkl:=rdk.elen (by decide)
 refine jad Tryz.func74 rfl rfl (l:=(fbV b pp np cp pt nt ct pk nk ck)::(.map (some q))::(rwV xs)::uu53) rfl ?_
 intro cf cs K hK
 refine rs3 ?_;refine jaq rfl zq (fun q3=>k_hp (jac ?_));refine jaq rfl zq (fun q5=>k_hp (jac ?_));refine d10 ?_;refine rs5 ?_;refine d23 ?_;refine d130 ?_
 refine jag (fun nn l h'=> ∃(j:Nat) (es:Ents),nn=nt-j∧(j≤nt)∧(∀i,i<j→jd3 b xs (b.tapes.getD i default))∧(OkE es)∧(∃U:Nat→Value,l=((fbV b pp np cp pt nt ct pk nk ck)::(.map (some q))::(rwV xs)::(.pointer (some ⟨q3,0,none⟩))::(U 4)::(.pointer (some ⟨q5,0,none⟩))::vw7 U 6 ((.slice pt nt ct)::(.int .i64 (nt:Int))::(.int .i64 (j:Int))::vw40 U 16 [])))∧h++[⟨true,q,mapO es⟩,⟨true,q3,.cells (fbL b pp np cp pt nt ct pk nk ck).toArray 96 (0,0)⟩,⟨true,q5,.cells (rws xs).toArray 98 (0,0)⟩]=h') _ ⟨0,es,rfl,by omega,fun i hi=>by omega,hes,exU rfl,rfl⟩ ?_;rintro nn l h' ⟨j,es,rfl,hj,hall1,hes,⟨U,rfl⟩,rfl⟩ hnext1;refine rs1 ?_;refine jap rfl zq (fun hc=>?_) (fun hc=>?_)
 ·refine d106 ?_;refine rs4 ?_
  obtain ⟨rdt_b,rdt_o,rfl⟩:=rdt.ptr (by omega)
  refine jaJ rfl zq (by first|rfl|assumption) (by omega) (by omega) ?_;refine jbf (vs:=[.int .i64 (b.tapes.getD j default).f,.int .i64 (b.tapes.getD j default).t,.int .i64 (b.tapes.getD j default).lo,.int .i64 (b.tapes.getD j default).hi]) rfl zq rfl (rdt.eat j (by omega) (by omega)) ?_;refine jaw rfl zq (fun q8=>k_hp (jac ?_));refine d142 ?_
  obtain ⟨f,e,hf,he,hfe,hen⟩:=hv.tape (jai.2 ⟨j,by omega,rfl⟩:b.tapes.getD j default∈b.tapes)
  refine jah (S:=h++[⟨true,q3,.cells (fbL b pp np cp (some ⟨rdt_b,rdt_o,none⟩) nt ct pk nk ck).toArray 96 (0,0)⟩,⟨true,q5,.cells (rws xs).toArray 98 (0,0)⟩,⟨true,q8,.cells (tpL (b.tapes.getD j default)).toArray 89 (0,0)⟩]) [(1,.pure),(3,.pure),(5,.pure),(8,.pure),(9,.pure),(11,.pure),(12,.pure),(0,.read),(2,.read),(4,.read),(6,.read),(10,.read),(13,.read),(7,.keep),(14,.keep),(15,.pure)] (by kernel_rfl) (by kernel_rfl) SubH.sub ?_;refine mq rfl ?_;refine d8 ?_;refine d8 ?_;refine d8 ?_;refine jaT rfl zq ?_;refine d74 ?_;refine d85 ?_;refine jbb rfl zq ?_
  refine jmA (Post:=fun v es'=>OkE es'∧v=_) q rfl zq (by kernel_rfl) (f71_i m _ q es hes (rdp.keeps SubH.sub) hp hln hv.pts hs (b.tapes.getD j default).f (b.tapes.getD j default).t f e hf he hfe (by omega)) ?_;rintro v es2 ⟨hes2,rfl⟩;refine jac ?_;refine jae (Post:=fun v=>IsB _ v) rfl zq (by kernel_rfl) (fun H' hH=>CallF.mono (f68_c m H' _ _ _) fun v h' ⟨e1,e2⟩=>⟨e1,e2.iff (q:=jd3 b xs (b.tapes.getD j default)) (by unfold jd3;rfl)⟩) ?_;rintro v (⟨hc,rfl⟩|⟨hc,rfl⟩)
  ·refine d31 ?_;refine d177 ?_
   exact m.weak jaa (hnext1 _ _ _ (by omega) ⟨j+1,es2,rfl,by omega,jeR hall1 (by assumption),hes2,exU rfl,rfl⟩)
  ·refine d152 ?_
   refine jab (h++[⟨true,q,mapO es2⟩]) rfl Tryz.func74 rfl jaa ?_;refine hK _ _ ?_;exact ⟨_,rfl,hes2,IsB.no fun e=>hc (e.1 _ (jai.2 ⟨j,by omega,rfl⟩))⟩
 ·refine d107 ?_;refine jak ?_;refine rs5 ?_;refine d23 ?_;refine d130 ?_
  refine jag (fun nn l h'=> ∃(j:Nat),nn=nk-j∧(j≤nk)∧(∀i,i<j→jcW b xs (b.sticks.getD i default))∧(∃U:Nat→Value,l=((fbV b pp np cp pt nt ct pk nk ck)::(.map (some q))::(rwV xs)::(.pointer (some ⟨q3,0,none⟩))::(U 4)::(.pointer (some ⟨q5,0,none⟩))::vw32 U 6 ((.slice pk nk ck)::(.int .i64 (nk:Int))::(.int .i64 (j:Int))::vw15 U 41 [])))∧h++[⟨true,q,mapO es⟩,⟨true,q3,.cells (fbL b pp np cp pt nt ct pk nk ck).toArray 96 (0,0)⟩,⟨true,q5,.cells (rws xs).toArray 98 (0,0)⟩]=h') _ ⟨0,rfl,by omega,fun i hi=>by omega,exU rfl,rfl⟩ ?_;rintro nn l h' ⟨j,rfl,hj2,hall2,⟨U,rfl⟩,rfl⟩ hnext2;refine rs1 ?_;refine jap rfl zq (fun hc=>?_) (fun hc=>?_)
  ·refine d106 ?_;refine rs4 ?_
   obtain ⟨rdk_b,rdk_o,rfl⟩:=rdk.ptr (by omega)
   refine jaJ rfl zq (by first|rfl|assumption) (by omega) (by omega) ?_;refine jbf (vs:=[.int .i64 (b.sticks.getD j default).h,.int .i64 (b.sticks.getD j default).long,.bool (b.sticks.getD j default).fits]) rfl zq rfl (rdk.eat j (by omega) (by omega)) ?_;refine jaw rfl zq (fun q10=>k_hp (jac ?_));refine d142 ?_
   have hsk:=hv.sticks (b.sticks.getD j default) (jai.2 ⟨j,by omega,rfl⟩)
   rw [okSk,hml] at hsk
   refine jah [(2,.pure),(5,.pure),(8,.pure),(0,.read),(1,.read),(3,.read),(6,.read),(9,.read),(4,.keep),(7,.pure),(10,.pure)] (by kernel_rfl) (by kernel_rfl) (List.Sublist.refl _) ?_;refine d8 ?_;refine d62 ?_;refine d74 ?_;refine d85 ?_
   refine jae (Post:=fun v=>v=_) rfl zq (by kernel_rfl) (fun H' hH=>f46_c m H' (rdp.keeps (sq hH)) hp hln hv.pts hs (b.sticks.getD j default).h hsk.1) ?_;rintro v rfl;refine jac ?_;refine jkY rfl zq ?_;refine k_neqBV rfl zq bool3 ?_;refine jaB ?_;refine jew (fun hc=>?_) (fun hc=>?_)
   ·first|replace hc:=of_decide_eq_true hc|replace hc:=of_decide_eq_false hc|skip
    refine d26 ?_
    refine jab (h++[⟨true,q,mapO es⟩]) rfl Tryz.func74 rfl jaa ?_;refine hK _ _ ?_;exact ⟨_,rfl,hes,IsB.no fun e=>by have:=e.2 _ (jai.2 ⟨j,by omega,rfl⟩);unfold jcW at this;rw [this] at hc;simp at hc⟩
   ·first|replace hc:=of_decide_eq_true hc|replace hc:=of_decide_eq_false hc|skip
    refine d117 ?_;refine d78 ?_
    exact m.weak jaa (hnext2 _ _ _ (by omega) ⟨j+1,rfl,by omega,jeR hall2 (by unfold jcW;simpa using hc),exU rfl,rfl⟩)
  ·refine d171 ?_
   refine jab (h++[⟨true,q,mapO es⟩]) rfl Tryz.func74 rfl jaa ?_;refine hK _ _ ?_;refine ⟨_,rfl,hes,IsB.yes ⟨fun t ht=>?_,fun k hk=>?_⟩⟩
   ·obtain ⟨i,hi,rfl⟩:=jai.1 ht
    exact hall1 i (by omega)
   ·obtain ⟨i,hi,rfl⟩:=jai.1 hk
    exact hall2 i (by omega)
theorem _root_.Go.Lo.RdS.eatF {α:Type} {k:Nat} [Enc α k] [Inhabited α] {n c b o:Nat} {xs:List α} {h H:Hp} (rd:RdS B h k (.slice (some ⟨b,o,none⟩) n c) n (encs xs)) [s:SubH h H] {j:Int} (i f:Nat) (hj:j=i) (hi:i<n) {ys:List Value} (hy:((Enc.enc (xs.getD i default)).drop f).take ys.length=ys):RdN B H b (o+j.toNat*k+f) ys:=fun x hx=>by
 have h1:ys[x]?=some (ys.getD x undef):=by rw [List.getD_eq_getElem?_getD,List.getElem?_eq_getElem hx];rfl
 have h2:(Enc.enc (xs.getD i default))[f+x]?=some (ys.getD x undef):=by
  rw [←h1];conv=>rhs;rw [←hy]
  rw [List.getElem?_take_of_lt hx,List.getElem?_drop]
 have:=rd.fat (H:=H) i (f+x) hj hi h2
 rwa [←Nat.add_assoc] at this
theorem getD_out (l:List Int) (k:Nat) (h:l.length≤k):l.getD k 0=0:=by
 rw [List.getD_eq_getElem?_getD,List.getElem?_eq_none (by omega)];rfl
def jfo (f:Nat→Int):Nat→Int
 |0=>0
 |k+1=>if jfo f k≠0 then jfo f k else f k
theorem jaR {f:Nat→Int}: ∀{n:Nat},(∀i,i<n→f i=0)→jfo f n=0
 |0,_=>rfl
 |n+1,h=>by rw [jfo,jaR (n:=n) (fun i hi=>h i (by omega)),if_neg (by simp),h n (by omega)]
theorem ja6 {f:Nat→Int} {k:Nat} (h: ∀i,i<k→f i=0) (hf:f k≠0): ∀{n:Nat},k<n→jfo f n=f k
 |0,hk=>by omega
 |n+1,hk=>by
  rcases Nat.lt_or_ge k n with h1|h1
  ·rw [jfo,ja6 h hf h1,if_pos hf]
  ·obtain rfl:k=n:=by omega
   rw [jfo,jaR h,if_neg (by simp)]
theorem jdL {f:Nat→Int}: ∀{n:Nat},jfo f n=0→ ∀i,i<n→f i=0
 |0,_,_,hi=>by omega
 |n+1,h,i,hi=>by
  rw [jfo] at h
  split at h
  ·contradiction
  ·rename_i hz
   rcases Nat.lt_or_ge i n with h1|h1
   ·exact jdL (Classical.byContradiction fun e=>hz e) i h1
   ·obtain rfl:i=n:=by omega
    exact h
def ptS (pts:List Pt) (i:Nat):Int:=
 if¬(0≤(pts.getD i default).h∧(pts.getD i default).h≤959) then 1
 else if 0<i∧(pts.getD i default).h≤(pts.getD (i-1) default).h then 7
 else if¬(0≤(pts.getD i default).lo∧(pts.getD i default).lo≤(pts.getD i default).hi∧(pts.getD i default).hi≤959)∨(pts.getD i default).hi-(pts.getD i default).lo≥3 then 1 else 0
def ptsS (pts:List Pt):Int:=if¬(2≤(pts.length:Int)∧(pts.length:Int)≤5) then 2 else jfo (ptS pts) pts.length
def tpS (n:Nat) (x:Tp):Int:=if ordS n x.f x.t≠0 then ordS n x.f x.t else if¬(0≤x.lo∧x.lo≤x.hi∧x.hi≤9999) then 1 else 0
def jbC (b:Fb):Int:=if (b.tapes.length:Int)>3 then 2 else jfo (fun i=>tpS b.pts.length (b.tapes.getD i default)) b.tapes.length
def skS (pts:List Pt) (x:Sk):Int:=if¬((pts.getD 0 default).h≤x.h∧x.h≤(pts.getD (pts.length-1) default).h)∨ ¬(0≤x.long∧x.long≤959) then 1 else 0
def jbw (b:Fb):Int:=if (b.sticks.length:Int)>3 then 2 else jfo (fun i=>skS b.pts (b.sticks.getD i default)) b.sticks.length
def jaE (b:Fb):Int:=if¬(0≤b.plank∧b.plank≤20) then 1 else ptsS b.pts
def fbS (b:Fb):Int:=if jaE b≠0 then jaE b else if jbC b≠0 then jbC b else jbw b
def brS (n:Nat) (xs:List Int):Int:=if (xs.length:Int)≠(n:Int) then 2 else if∃i,i<xs.length∧ ¬(0≤xs.getD i 0∧xs.getD i 0≤959) then 1 else 0
def jaU (b:Fb) (xs:List Int):Int:=if fbS b≠0 then fbS b else brS b.pts.length xs
theorem jfR {n:Nat} {f t:Int} (h:ordS n f t=0):0≤f∧f<t∧t≤(n:Int)-1:=by
 unfold ordS at h
 split at h
 ·omega
 ·split at h
  ·omega
  ·omega
theorem jjH {pts:List Pt} {i:Nat} (h:ptS pts i=0):okPt (pts.getD i default)∧(0<i→(pts.getD (i-1) default).h<(pts.getD i default).h):=by
 unfold ptS at h
 split at h
 ·omega
 ·split at h
  ·omega
  ·split at h
   ·omega
   ·exact ⟨⟨by omega,by omega,by omega⟩,by omega⟩
theorem jh6 {pts:List Pt} (h:ptsS pts=0):PtsOk pts:=by
 unfold ptsS at h
 split at h
 ·omega
 ·have hz:=jdL h
  exact ⟨by omega,by omega,fun x hx=>by obtain ⟨i,hi,rfl⟩:=jai.1 hx;exact (jjH (hz i hi)).1,fun i hi=>by have:=(jjH (hz (i+1) hi)).2 (by omega);simpa using this⟩
theorem jaH {b:Fb} (h:fbS b=0):FOk b:=by
 unfold fbS at h
 split at h
 ·contradiction
 ·rename_i h1
  split at h
  ·contradiction
  ·rename_i h2
   have h1:jaE b=0:=Classical.byContradiction fun e=>h1 e
   have h2:jbC b=0:=Classical.byContradiction fun e=>h2 e
   unfold jaE at h1
   split at h1
   ·omega
   ·unfold jbC at h2
    split at h2
    ·omega
    ·unfold jbw at h
     split at h
     ·omega
     ·refine ⟨by omega,jh6 h1,by omega,fun x hx=>?_,by omega,fun x hx=>?_⟩
      ·obtain ⟨i,hi,rfl⟩:=jai.1 hx
       have:=jdL h2 i hi
       simp only [tpS] at this
       split at this
       ·contradiction
       ·rename_i ho
        have:=jfR (Classical.byContradiction fun e=>ho e)
        unfold okTp
        omega
      ·obtain ⟨i,hi,rfl⟩:=jai.1 hx
       have:=jdL h i hi
       simp only [skS] at this
       unfold okSk
       omega
theorem jeP {n:Nat} {xs:List Int} (h:brS n xs=0):xs.length=n∧SmL xs:=by
 unfold brS at h
 split at h
 ·omega
 ·split at h
  ·omega
  ·rename_i he
   refine ⟨by omega,fun j=>?_⟩
   rcases Nat.lt_or_ge j xs.length with h1|h1
   ·exact Classical.byContradiction fun e=>he ⟨j,h1,e⟩
   ·rw [getD_out _ _ h1];omega
theorem jcK {b:Fb} {xs:List Int} (h:jaU b xs=0):fbS b=0∧brS b.pts.length xs=0:=by
 unfold jaU at h
 split at h
 ·contradiction
 ·exact ⟨Classical.byContradiction fun e=>by contradiction,h⟩
theorem f57_c (m:Md Tryz.prog B) (h:Hp) {b:Fb} {pp:Option Addr} {np cp:Nat} {pt:Option Addr} {nt ct:Nat} {pk:Option Addr} {nk ck:Nat} (rdp:Rp B h b pp np cp) (hp:np≤1000):FnC m 57 #[.slice pp np cp] h fun v h'=>h'=h∧v= .int .i64 (ptsS b.pts):=by
 have hml:=rdp.elen (by decide)
 refine jad Tryz.func57 rfl rfl (l:=(.slice pp np cp)::uu53) rfl ?_
 intro cf cs K hK
 refine d67 ?_;refine d115 ?_;refine jcO rfl zq ?_
 refine jae (Post:=fun v=>IsB _ v) rfl zq (by kernel_rfl) (fun H' hH=>f50_c m H' _ _ _) ?_;rintro v (⟨hc,rfl⟩|⟨hc,rfl⟩)
 ·refine d31 ?_;refine d36 ?_;refine d98 ?_
  refine jag (fun nn l h'=> ∃(j:Nat),nn=np-j∧(j≤np)∧(∀i,i<j→ptS b.pts i=0)∧(∃U:Nat→Value,l=((.slice pp np cp)::(U 1)::(U 2)::(.int .i64 (j:Int))::vw50 U 4 []))∧h=h') _ ⟨0,rfl,by omega,fun i hi=>by omega,exU rfl,rfl⟩ ?_;rintro nn l h' ⟨j,rfl,hj,hall,⟨U,rfl⟩,rfl⟩ hnext;refine d114 ?_
  refine jap rfl zq (fun hc=>?_) (fun hc=>?_)
  ·refine d97 ?_;refine rs7 ?_;refine d3 ?_
   obtain ⟨rdp_b,rdp_o,rfl⟩:=rdp.ptr (by omega)
   refine d15 ?_
   refine k_ld rfl zq (rdp.fat (v:= .int .i64 (b.pts.getD j default).h) j 0 (by omega) (by omega) rfl) ?_;refine jae (Post:=fun v=>IsB _ v) rfl zq (by kernel_rfl) (fun H' hH=>f50_c m H' _ _ _) ?_;rintro v (⟨hc,rfl⟩|⟨hc,rfl⟩)
   ·refine d31 ?_;refine d36 ?_;refine jak ?_
    refine jah [(0,.pure),(1,.pure),(2,.pure),(3,.pure),(4,.pure),(5,.pure),(6,.pure),(8,.pure),(9,.pure),(10,.pure),(11,.pure),(12,.pure),(7,.read),(13,.read),(14,.pure),(15,.pure)] (by kernel_rfl) (by kernel_rfl) (List.Sublist.refl _) ?_;refine mq rfl ?_
    refine jbz rfl zq (fun hc=>?_) (fun hc=>?_)
    ·refine d22 ?_;refine d27 ?_;(first|refine jcc rfl rfl ?_|refine k_fa rfl rfl ?_);refine k_mv rfl rfl ?_;refine d100 ?_;refine d126 ?_
     refine k_ld rfl rfl (rdp.fat (v:= .int .i64 (b.pts.getD j default).h) j 0 (by omega) (by omega) rfl) ?_;refine k_ld rfl rfl (rdp.fat (v:= .int .i64 (b.pts.getD (j-1) default).h) (j-1) 0 (by omega) (by omega) rfl) ?_;refine ja1 rfl rfl (fun hc=>?_) (fun hc=>?_)
     ·refine jaz rfl zq ?_;refine d50 ?_;refine jab (h) rfl Tryz.func57 rfl jaa ?_;refine hK _ _ ?_;refine ⟨rfl,?_⟩
      first
       |(rw [ptsS,if_pos (by omega)];done)
       |(rw [ptsS,if_neg (by omega),jaR (fun i hi=>hall i (by omega))];done)
       |(rw [ptsS,if_neg (by omega),ja6 (k:=j) hall (by unfold ptS;first|(rw [if_pos (by omega)];decide)|(rw [if_neg (by omega),if_pos (by omega)];decide)|(rw [if_neg (by omega),if_neg (by omega),if_pos (by omega)];decide)) (by omega)];unfold ptS;first|(rw [if_pos (by omega)];done)|(rw [if_neg (by omega),if_pos (by omega)];done)|(rw [if_neg (by omega),if_neg (by omega),if_pos (by omega)];done)|(rw [if_neg (by omega),if_neg (by omega),if_neg (by omega)];done))
     ·refine jaz rfl zq ?_;refine d9 ?_;refine rs7 ?_;refine d11 ?_;(first|refine jcc rfl zq ?_|refine k_fa rfl zq ?_);refine jbf (vs:=[.int .i64 (b.pts.getD j default).lo,.int .i64 (b.pts.getD j default).hi]) rfl zq rfl (rdp.eatF j 1 (by omega) (by omega) rfl) ?_;refine jaw rfl zq (fun q4=>k_hp (jac ?_));refine d71 ?_;refine rs11 ?_;refine jaT rfl zq ?_
      refine jae (Post:=fun v=>IsB _ v) rfl zq (by kernel_rfl) (fun H' hH=>f113_c m H' _ _ _ _) ?_;rintro v (⟨hc,rfl⟩|⟨hc,rfl⟩)
      ·refine d31 ?_;refine d101 ?_;refine d12 ?_;refine jcj rfl rfl (by unfold In64;omega) ?_
       refine jaY rfl rfl (fun hc=>?_) (fun hc=>?_)
       ·refine d123 ?_
        refine jab (h) rfl Tryz.func57 rfl jaa ?_;refine hK _ _ ?_;refine ⟨rfl,?_⟩
        first
         |(rw [ptsS,if_pos (by omega)];done)
         |(rw [ptsS,if_neg (by omega),jaR (fun i hi=>hall i (by omega))];done)
         |(rw [ptsS,if_neg (by omega),ja6 (k:=j) hall (by unfold ptS;first|(rw [if_pos (by omega)];decide)|(rw [if_neg (by omega),if_pos (by omega)];decide)|(rw [if_neg (by omega),if_neg (by omega),if_pos (by omega)];decide)) (by omega)];unfold ptS;first|(rw [if_pos (by omega)];done)|(rw [if_neg (by omega),if_pos (by omega)];done)|(rw [if_neg (by omega),if_neg (by omega),if_pos (by omega)];done)|(rw [if_neg (by omega),if_neg (by omega),if_neg (by omega)];done))
       ·refine jau rfl zq ?_;refine d105 ?_;exact m.weak jaa (hnext _ _ _ (by omega) ⟨j+1,rfl,by omega,fun i hi=>by
         rcases Nat.lt_or_ge i j with h3|h3
         ·exact hall i h3
         ·obtain rfl:i=j:=by omega
          unfold ptS
          first|(rw [if_pos (by omega)];done)|(rw [if_neg (by omega),if_pos (by omega)];done)|(rw [if_neg (by omega),if_neg (by omega),if_pos (by omega)];done)|(rw [if_neg (by omega),if_neg (by omega),if_neg (by omega)];done),exU rfl,rfl⟩)
      ·refine d33 ?_;refine d89 ?_;refine jaz rfl zq ?_;refine d50 ?_
       refine jab (h) rfl Tryz.func57 rfl jaa ?_;refine hK _ _ ?_;refine ⟨rfl,?_⟩
       first
        |(rw [ptsS,if_pos (by omega)];done)
        |(rw [ptsS,if_neg (by omega),jaR (fun i hi=>hall i (by omega))];done)
        |(rw [ptsS,if_neg (by omega),ja6 (k:=j) hall (by unfold ptS;first|(rw [if_pos (by omega)];decide)|(rw [if_neg (by omega),if_pos (by omega)];decide)|(rw [if_neg (by omega),if_neg (by omega),if_pos (by omega)];decide)) (by omega)];unfold ptS;first|(rw [if_pos (by omega)];done)|(rw [if_neg (by omega),if_pos (by omega)];done)|(rw [if_neg (by omega),if_neg (by omega),if_pos (by omega)];done)|(rw [if_neg (by omega),if_neg (by omega),if_neg (by omega)];done))
    ·refine d168 ?_;refine d2 ?_;refine d119 ?_;refine rs7 ?_;refine d11 ?_;(first|refine jcc rfl zq ?_|refine k_fa rfl zq ?_)
     refine jbf (vs:=[.int .i64 (b.pts.getD j default).lo,.int .i64 (b.pts.getD j default).hi]) rfl zq rfl (rdp.eatF j 1 (by omega) (by omega) rfl) ?_;refine jaw rfl zq (fun q4=>k_hp (jac ?_));refine d71 ?_;refine rs11 ?_;refine jaT rfl zq ?_
     refine jae (Post:=fun v=>IsB _ v) rfl zq (by kernel_rfl) (fun H' hH=>f113_c m H' _ _ _ _) ?_;rintro v (⟨hc,rfl⟩|⟨hc,rfl⟩)
     ·refine d31 ?_;refine d101 ?_;refine d12 ?_;refine jcj rfl rfl (by unfold In64;omega) ?_
      refine jaY rfl rfl (fun hc=>?_) (fun hc=>?_)
      ·refine d123 ?_
       refine jab (h) rfl Tryz.func57 rfl jaa ?_;refine hK _ _ ?_;refine ⟨rfl,?_⟩
       first
        |(rw [ptsS,if_pos (by omega)];done)
        |(rw [ptsS,if_neg (by omega),jaR (fun i hi=>hall i (by omega))];done)
        |(rw [ptsS,if_neg (by omega),ja6 (k:=j) hall (by unfold ptS;first|(rw [if_pos (by omega)];decide)|(rw [if_neg (by omega),if_pos (by omega)];decide)|(rw [if_neg (by omega),if_neg (by omega),if_pos (by omega)];decide)) (by omega)];unfold ptS;first|(rw [if_pos (by omega)];done)|(rw [if_neg (by omega),if_pos (by omega)];done)|(rw [if_neg (by omega),if_neg (by omega),if_pos (by omega)];done)|(rw [if_neg (by omega),if_neg (by omega),if_neg (by omega)];done))
      ·refine jau rfl zq ?_;refine d105 ?_;exact m.weak jaa (hnext _ _ _ (by omega) ⟨j+1,rfl,by omega,fun i hi=>by
        rcases Nat.lt_or_ge i j with h3|h3
        ·exact hall i h3
        ·obtain rfl:i=j:=by omega
         unfold ptS
         first|(rw [if_pos (by omega)];done)|(rw [if_neg (by omega),if_pos (by omega)];done)|(rw [if_neg (by omega),if_neg (by omega),if_pos (by omega)];done)|(rw [if_neg (by omega),if_neg (by omega),if_neg (by omega)];done),exU rfl,rfl⟩)
     ·refine d33 ?_;refine d89 ?_;refine jaz rfl zq ?_;refine d50 ?_
      refine jab (h) rfl Tryz.func57 rfl jaa ?_;refine hK _ _ ?_;refine ⟨rfl,?_⟩
      first
       |(rw [ptsS,if_pos (by omega)];done)
       |(rw [ptsS,if_neg (by omega),jaR (fun i hi=>hall i (by omega))];done)
       |(rw [ptsS,if_neg (by omega),ja6 (k:=j) hall (by unfold ptS;first|(rw [if_pos (by omega)];decide)|(rw [if_neg (by omega),if_pos (by omega)];decide)|(rw [if_neg (by omega),if_neg (by omega),if_pos (by omega)];decide)) (by omega)];unfold ptS;first|(rw [if_pos (by omega)];done)|(rw [if_neg (by omega),if_pos (by omega)];done)|(rw [if_neg (by omega),if_neg (by omega),if_pos (by omega)];done)|(rw [if_neg (by omega),if_neg (by omega),if_neg (by omega)];done))
   ·refine d152 ?_
    refine jab (h) rfl Tryz.func57 rfl jaa ?_;refine hK _ _ ?_;refine ⟨rfl,?_⟩
    first
     |(rw [ptsS,if_pos (by omega)];done)
     |(rw [ptsS,if_neg (by omega),jaR (fun i hi=>hall i (by omega))];done)
     |(rw [ptsS,if_neg (by omega),ja6 (k:=j) hall (by unfold ptS;first|(rw [if_pos (by omega)];decide)|(rw [if_neg (by omega),if_pos (by omega)];decide)|(rw [if_neg (by omega),if_neg (by omega),if_pos (by omega)];decide)) (by omega)];unfold ptS;first|(rw [if_pos (by omega)];done)|(rw [if_neg (by omega),if_pos (by omega)];done)|(rw [if_neg (by omega),if_neg (by omega),if_pos (by omega)];done)|(rw [if_neg (by omega),if_neg (by omega),if_neg (by omega)];done))
  ·refine d160 ?_
   refine jab (h) rfl Tryz.func57 rfl jaa ?_;refine hK _ _ ?_;refine ⟨rfl,?_⟩
   first
    |(rw [ptsS,if_pos (by omega)];done)
    |(rw [ptsS,if_neg (by omega),jaR (fun i hi=>hall i (by omega))];done)
    |(rw [ptsS,if_neg (by omega),ja6 (k:=j) hall (by unfold ptS;first|(rw [if_pos (by omega)];decide)|(rw [if_neg (by omega),if_pos (by omega)];decide)|(rw [if_neg (by omega),if_neg (by omega),if_pos (by omega)];decide)) (by omega)];unfold ptS;first|(rw [if_pos (by omega)];done)|(rw [if_neg (by omega),if_pos (by omega)];done)|(rw [if_neg (by omega),if_neg (by omega),if_pos (by omega)];done)|(rw [if_neg (by omega),if_neg (by omega),if_neg (by omega)];done))
 ·refine d152 ?_
  refine jab (h) rfl Tryz.func57 rfl jaa ?_;refine hK _ _ ?_;refine ⟨rfl,?_⟩
  first
   |(rw [ptsS,if_pos (by omega)];done)
   |(rw [ptsS,if_neg (by omega),jaR (fun i hi=>hall i (by omega))];done)
   |(rw [ptsS,if_neg (by omega),ja6 (k:=j) hall (by unfold ptS;first|(rw [if_pos (by omega)];decide)|(rw [if_neg (by omega),if_pos (by omega)];decide)|(rw [if_neg (by omega),if_neg (by omega),if_pos (by omega)];decide)) (by omega)];unfold ptS;first|(rw [if_pos (by omega)];done)|(rw [if_neg (by omega),if_pos (by omega)];done)|(rw [if_neg (by omega),if_neg (by omega),if_pos (by omega)];done)|(rw [if_neg (by omega),if_neg (by omega),if_neg (by omega)];done))
theorem jkq {n:Nat} {x:Tp} (h: ¬(0≤x.f∧x.f≤(n:Int)-1)∨ ¬(0≤x.t∧x.t≤(n:Int)-1)):tpS n x=6:=by
 have:ordS n x.f x.t=6:=by rw [ordS,if_pos h]
 rw [tpS,this];rfl
theorem jkp {n:Nat} {x:Tp} (h: ¬(¬(0≤x.f∧x.f≤(n:Int)-1)∨ ¬(0≤x.t∧x.t≤(n:Int)-1))) (h2:x.f≥x.t):tpS n x=7:=by
 have:ordS n x.f x.t=7:=by rw [ordS,if_neg h,if_pos h2]
 rw [tpS,this];rfl
theorem tpS_o {n:Nat} {x:Tp} (h:ordS n x.f x.t≠0):tpS n x=ordS n x.f x.t:=by rw [tpS,if_pos h]
theorem jgm {n:Nat} {x:Tp} (h:ordS n x.f x.t=0) (h3: ¬(0≤x.lo∧x.lo≤x.hi∧x.hi≤9999)):tpS n x=1:=by
 rw [tpS,if_neg (fun e=>e h),if_pos h3]
theorem tpS_0 {n:Nat} {x:Tp} (h:ordS n x.f x.t=0) (h3:0≤x.lo∧x.lo≤x.hi∧x.hi≤9999):tpS n x=0:=by
 rw [tpS,if_neg (fun e=>e h),if_neg (fun e=>e h3)]
theorem jfS {n:Nat} {f t:Int} (h: ¬(¬(0≤f∧f≤(n:Int)-1)∨ ¬(0≤t∧t≤(n:Int)-1))) (h2: ¬f≥t):ordS n f t=0:=by rw [ordS,if_neg h,if_neg h2]
theorem jaD {b:Fb} {j:Nat} {r:Int} (h3: ¬(b.tapes.length:Int)>3) (h: ∀i,i<j→tpS b.pts.length (b.tapes.getD i default)=0) (hj:j<b.tapes.length) (hr:tpS b.pts.length (b.tapes.getD j default)=r) (h0:r≠0):jbC b=r:=by
 rw [jbC,if_neg h3,ja6 (f:=fun i=>tpS b.pts.length (b.tapes.getD i default)) (k:=j) h (by show tpS _ _≠0;rw [hr];exact h0) hj];exact hr
theorem jbt {b:Fb} (h3: ¬(b.tapes.length:Int)>3) (h: ∀i,i<b.tapes.length→tpS b.pts.length (b.tapes.getD i default)=0):jbC b=0:=by
 rw [jbC,if_neg h3,jaR h]
theorem jb1 {b:Fb} {j:Nat} (h3: ¬(b.sticks.length:Int)>3) (h: ∀i,i<j→skS b.pts (b.sticks.getD i default)=0) (hj:j<b.sticks.length) (hr:skS b.pts (b.sticks.getD j default)=1):jbw b=1:=by
 rw [jbw,if_neg h3,ja6 (f:=fun i=>skS b.pts (b.sticks.getD i default)) (k:=j) h (by show skS _ _≠0;rw [hr];decide) hj];exact hr
theorem jbD {b:Fb} (h3: ¬(b.sticks.length:Int)>3) (h: ∀i,i<b.sticks.length→skS b.pts (b.sticks.getD i default)=0):jbw b=0:=by
 rw [jbw,if_neg h3,jaR h]
theorem ja9 {a b:Int} (h:b=a):Value.int .i64 a= .int .i64 b:=by rw [h]
theorem jeS {f:Nat→Int} {j:Nat} (h: ∀i,i<j→f i=0) (hj:f j=0): ∀i,i<j+1→f i=0:=fun i hi=>by
 rcases Nat.lt_or_ge i j with h1|h1
 ·exact h i h1
 ·obtain rfl:i=j:=by omega
  exact hj
theorem f58_c (m:Md Tryz.prog B) (h:Hp) (rdp:Rp B h b pp np cp) (hp:np≤1000) (rdt:Rt B h b pt nt ct) (ht:nt≤1000):FnC m 58 #[fbV b pp np cp pt nt ct pk nk ck] h fun v h'=>h'=h∧v= .int .i64 (jbC b):=by
 have hml:=rdp.elen (by decide)
 have htl:=rdt.elen (by decide)
 refine jad Tryz.func58 rfl rfl (l:=(fbV b pp np cp pt nt ct pk nk ck)::uu41) rfl ?_
 intro cf cs K hK
 refine rs2 ?_;refine jaq rfl zq (fun q1=>k_hp (jac ?_));refine d10 ?_;refine rs4 ?_;refine d95 ?_
 refine jbz rfl zq (fun hc=>?_) (fun hc=>?_)
 ·refine d50 ?_
  refine jab (h) rfl Tryz.func58 rfl jaa ?_;refine hK _ _ ?_;refine ⟨rfl,ja9 ?_⟩
  first
   |exact (by rw [jbC,if_pos (by omega)])
   |exact (jbt (by omega) fun i hi=>hall i (by omega))
   |exact jaD (by omega) hall (by omega) (jkq (by omega)) (by first|decide|omega)
   |exact jaD (by omega) hall (by omega) (jkp (by omega) (by omega)) (by first|decide|omega)
   |exact jaD (by omega) hall (by omega) (jgm (jfS (by omega) (by omega)) (by omega)) (by first|decide|omega)
 ·refine d36 ?_;refine d98 ?_
  refine jag (fun nn l h'=> ∃(j:Nat),nn=nt-j∧(j≤nt)∧(∀i,i<j→tpS b.pts.length (b.tapes.getD i default)=0)∧(∃U:Nat→Value,l=((fbV b pp np cp pt nt ct pk nk ck)::(.pointer (some ⟨q1,0,none⟩))::(U 2)::(.int .i64 (j:Int))::vw38 U 4 []))∧h++[⟨true,q1,.cells (fbL b pp np cp pt nt ct pk nk ck).toArray 26 (0,0)⟩]=h') _ ⟨0,rfl,by omega,fun i hi=>by omega,exU rfl,rfl⟩ ?_;rintro nn l h' ⟨j,rfl,hj,hall,⟨U,rfl⟩,rfl⟩ hnext;refine d158 ?_;refine d95 ?_
  refine jap rfl zq (fun hc=>?_) (fun hc=>?_)
  ·refine d75 ?_;refine rs7 ?_;refine d1 ?_;refine mq rfl ?_
   obtain ⟨rdt_b,rdt_o,rfl⟩:=rdt.ptr (by omega)
   refine jaJ rfl zq (by first|rfl|assumption) (by omega) (by omega) ?_;refine jbf (vs:=[.int .i64 (b.tapes.getD j default).f,.int .i64 (b.tapes.getD j default).t,.int .i64 (b.tapes.getD j default).lo,.int .i64 (b.tapes.getD j default).hi]) rfl zq rfl (rdt.eat j (by omega) (by omega)) ?_;refine jaw rfl zq (fun q4=>k_hp (jac ?_));refine d142 ?_;refine rs12 ?_;refine jaT rfl zq ?_;refine d1 ?_
   refine jae (Post:=fun v=>IsB _ v) rfl zq (by kernel_rfl) (fun H' hH=>f119_c m H' _ hp) ?_;rintro v (⟨hc,rfl⟩|⟨hc,rfl⟩)
   ·refine d31 ?_;refine d104 ?_;refine d12 ?_
    refine jae (Post:=fun v=>IsB _ v) rfl rfl (by kernel_rfl) (fun H' hH=>f119_c m H' _ hp) ?_;rintro v (⟨hc,rfl⟩|⟨hc,rfl⟩)
    ·refine d156 ?_;refine d36 ?_;refine rs5 ?_;refine d1 ?_;refine d1 ?_
     refine jaY rfl zq (fun hc=>?_) (fun hc=>?_)
     ·refine d50 ?_
      refine jab (h) rfl Tryz.func58 rfl jaa ?_;refine hK _ _ ?_;refine ⟨rfl,ja9 ?_⟩
      first
       |exact (by rw [jbC,if_pos (by omega)])
       |exact (jbt (by omega) fun i hi=>hall i (by omega))
       |exact jaD (by omega) hall (by omega) (jkq (by omega)) (by first|decide|omega)
       |exact jaD (by omega) hall (by omega) (jkp (by omega) (by omega)) (by first|decide|omega)
       |exact jaD (by omega) hall (by omega) (jgm (jfS (by omega) (by omega)) (by omega)) (by first|decide|omega)
     ·refine d9 ?_;refine rs4 ?_;refine d62 ?_
      refine jae (Post:=fun v=>IsB _ v) rfl zq (by kernel_rfl) (fun H' hH=>f113_c m H' _ _ _ _) ?_;rintro v (⟨hc,rfl⟩|⟨hc,rfl⟩)
      ·refine d31 ?_;refine d105 ?_
       exact m.weak jaa (hnext _ _ _ (by omega) ⟨j+1,rfl,by omega,jeS hall (tpS_0 (jfS (by omega) (by omega)) (by omega)),exU rfl,rfl⟩)
      ·refine d152 ?_
       refine jab (h) rfl Tryz.func58 rfl jaa ?_;refine hK _ _ ?_;refine ⟨rfl,ja9 ?_⟩
       first
        |exact (by rw [jbC,if_pos (by omega)])
        |exact (jbt (by omega) fun i hi=>hall i (by omega))
        |exact jaD (by omega) hall (by omega) (jkq (by omega)) (by first|decide|omega)
        |exact jaD (by omega) hall (by omega) (jkp (by omega) (by omega)) (by first|decide|omega)
        |exact jaD (by omega) hall (by omega) (jgm (jfS (by omega) (by omega)) (by omega)) (by first|decide|omega)
    ·refine d93 ?_;refine d123 ?_
     refine jab (h) rfl Tryz.func58 rfl jaa ?_;refine hK _ _ ?_;refine ⟨rfl,ja9 ?_⟩
     first
      |exact (by rw [jbC,if_pos (by omega)])
      |exact (jbt (by omega) fun i hi=>hall i (by omega))
      |exact jaD (by omega) hall (by omega) (jkq (by omega)) (by first|decide|omega)
      |exact jaD (by omega) hall (by omega) (jkp (by omega) (by omega)) (by first|decide|omega)
      |exact jaD (by omega) hall (by omega) (jgm (jfS (by omega) (by omega)) (by omega)) (by first|decide|omega)
   ·refine d33 ?_;refine d49 ?_;refine d76 ?_;refine d50 ?_
    refine jab (h) rfl Tryz.func58 rfl jaa ?_;refine hK _ _ ?_;refine ⟨rfl,ja9 ?_⟩
    first
     |exact (by rw [jbC,if_pos (by omega)])
     |exact (jbt (by omega) fun i hi=>hall i (by omega))
     |exact jaD (by omega) hall (by omega) (jkq (by omega)) (by first|decide|omega)
     |exact jaD (by omega) hall (by omega) (jkp (by omega) (by omega)) (by first|decide|omega)
     |exact jaD (by omega) hall (by omega) (jgm (jfS (by omega) (by omega)) (by omega)) (by first|decide|omega)
  ·refine d160 ?_
   refine jab (h) rfl Tryz.func58 rfl jaa ?_;refine hK _ _ ?_;refine ⟨rfl,ja9 ?_⟩
   first
    |exact (by rw [jbC,if_pos (by omega)])
    |exact (jbt (by omega) fun i hi=>hall i (by omega))
    |exact jaD (by omega) hall (by omega) (jkq (by omega)) (by first|decide|omega)
    |exact jaD (by omega) hall (by omega) (jkp (by omega) (by omega)) (by first|decide|omega)
    |exact jaD (by omega) hall (by omega) (jgm (jfS (by omega) (by omega)) (by omega)) (by first|decide|omega)
theorem f217_c (m:Md Tryz.prog B) (h:Hp) (rdp:Rp B h b pp np cp) (hp:np≤1000) (rdt:Rt B h b pt nt ct) (ht:nt≤1000):FnC m 217 #[fbV b pp np cp pt nt ct pk nk ck] h fun v h'=>h'=h∧v= .int .i64 (jbC b):=by
 have hml:=rdp.elen (by decide)
 have htl:=rdt.elen (by decide)
 refine jad Tryz.func217 rfl rfl (l:=(fbV b pp np cp pt nt ct pk nk ck)::uu32) rfl ?_
 intro cf cs K hK
 refine rs2 ?_;refine jaq rfl zq (fun q1=>k_hp (jac ?_));refine d10 ?_;refine rs5 ?_;refine d150 ?_
 refine jbz rfl zq (fun hc=>?_) (fun hc=>?_)
 ·refine d50 ?_
  refine jab (h) rfl Tryz.func217 rfl jaa ?_;refine hK _ _ ?_;refine ⟨rfl,ja9 ?_⟩
  first
   |exact (by rw [jbC,if_pos (by omega)])
   |exact (jbt (by omega) fun i hi=>hall i (by omega))
   |exact jaD (by omega) hall (by omega) ((tpS_o (by rw [hml];omega)).trans (by rw [hml])) (by first|decide|omega)
   |exact jaD (by omega) hall (by omega) (jgm (by rw [hml];omega) (by omega)) (by first|decide|omega)
 ·refine d36 ?_;refine rs5 ?_;refine d23 ?_;refine d130 ?_
  refine jag (fun nn l h'=> ∃(j:Nat),nn=nt-j∧(j≤nt)∧(∀i,i<j→tpS b.pts.length (b.tapes.getD i default)=0)∧(∃U:Nat→Value,l=((fbV b pp np cp pt nt ct pk nk ck)::(.pointer (some ⟨q1,0,none⟩))::vw11 U 2 ((.slice pt nt ct)::(.int .i64 (nt:Int))::(.int .i64 (j:Int))::vw17 U 16 [])))∧h++[⟨true,q1,.cells (fbL b pp np cp pt nt ct pk nk ck).toArray 96 (0,0)⟩]=h') _ ⟨0,rfl,by omega,fun i hi=>by omega,exU rfl,rfl⟩ ?_;rintro nn l h' ⟨j,rfl,hj,hall,⟨U,rfl⟩,rfl⟩ hnext;refine rs1 ?_;refine jap rfl zq (fun hc=>?_) (fun hc=>?_)
  ·refine d106 ?_;refine rs4 ?_
   obtain ⟨rdt_b,rdt_o,rfl⟩:=rdt.ptr (by omega)
   refine jaJ rfl zq (by first|rfl|assumption) (by omega) (by omega) ?_;refine jbf (vs:=[.int .i64 (b.tapes.getD j default).f,.int .i64 (b.tapes.getD j default).t,.int .i64 (b.tapes.getD j default).lo,.int .i64 (b.tapes.getD j default).hi]) rfl zq rfl (rdt.eat j (by omega) (by omega)) ?_;refine jaw rfl zq (fun q4=>k_hp (jac ?_));refine d142 ?_;refine d183 ?_;refine d1 ?_;refine d1 ?_
   refine jae (Post:=fun v=>v=_) rfl zq (by kernel_rfl) (fun H' hH=>f70_c m H' _ _ hp) ?_;rintro v rfl;refine d135 ?_
   refine jaF rfl zq (fun hc=>?_) (fun hc=>?_)
   ·refine d166 ?_
    refine jab (h) rfl Tryz.func217 rfl jaa ?_;refine hK _ _ ?_;refine ⟨rfl,ja9 ?_⟩
    first
     |exact (by rw [jbC,if_pos (by omega)])
     |exact (jbt (by omega) fun i hi=>hall i (by omega))
     |exact jaD (by omega) hall (by omega) ((tpS_o (by rw [hml];omega)).trans (by rw [hml])) (by first|decide|omega)
     |exact jaD (by omega) hall (by omega) (jgm (by rw [hml];omega) (by omega)) (by first|decide|omega)
   ·refine d9 ?_;refine rs4 ?_;refine d62 ?_
    refine jae (Post:=fun v=>IsB _ v) rfl zq (by kernel_rfl) (fun H' hH=>f219_c m H' _ _ _ _) ?_;rintro v (⟨hc,rfl⟩|⟨hc,rfl⟩)
    ·refine d31 ?_;refine d177 ?_
     exact m.weak jaa (hnext _ _ _ (by omega) ⟨j+1,rfl,by omega,jeS hall (tpS_0 (by rw [hml];omega) (by omega)),exU rfl,rfl⟩)
    ·refine d152 ?_
     refine jab (h) rfl Tryz.func217 rfl jaa ?_;refine hK _ _ ?_;refine ⟨rfl,ja9 ?_⟩
     first
      |exact (by rw [jbC,if_pos (by omega)])
      |exact (jbt (by omega) fun i hi=>hall i (by omega))
      |exact jaD (by omega) hall (by omega) ((tpS_o (by rw [hml];omega)).trans (by rw [hml])) (by first|decide|omega)
      |exact jaD (by omega) hall (by omega) (jgm (by rw [hml];omega) (by omega)) (by first|decide|omega)
  ·refine d171 ?_
   refine jab (h) rfl Tryz.func217 rfl jaa ?_;refine hK _ _ ?_;refine ⟨rfl,ja9 ?_⟩
   first
    |exact (by rw [jbC,if_pos (by omega)])
    |exact (jbt (by omega) fun i hi=>hall i (by omega))
    |exact jaD (by omega) hall (by omega) ((tpS_o (by rw [hml];omega)).trans (by rw [hml])) (by first|decide|omega)
    |exact jaD (by omega) hall (by omega) (jgm (by rw [hml];omega) (by omega)) (by first|decide|omega)
theorem f59_c (m:Md Tryz.prog B) (h:Hp) (rdp:Rp B h b pp np cp) (hp:np≤1000) (rdk:Rk B h b pk nk ck) (hk:nk≤1000) (h1:1≤np):FnC m 59 #[fbV b pp np cp pt nt ct pk nk ck] h fun v h'=>h'=h∧v= .int .i64 (jbw b):=by
 have hml:=rdp.elen (by decide)
 have hkl:=rdk.elen (by decide)
 refine jad Tryz.func59 rfl rfl (l:=(fbV b pp np cp pt nt ct pk nk ck)::uu33) rfl ?_
 intro cf cs K hK
 refine rs2 ?_;refine jaq rfl zq (fun q1=>k_hp (jac ?_));refine d10 ?_;refine rs4 ?_;refine d95 ?_
 refine jbz rfl zq (fun hc=>?_) (fun hc=>?_)
 ·refine d50 ?_
  refine jab (h) rfl Tryz.func59 rfl jaa ?_;refine hK _ _ ?_;refine ⟨rfl,ja9 ?_⟩
  first
   |exact (by rw [jbw,if_pos (by omega)])
   |exact (jbD (by omega) fun i hi=>hall i (by omega))
   |exact jb1 (by omega) hall (by omega) (by unfold skS;rw [hml,if_pos (by omega)])
 ·refine d36 ?_;refine d98 ?_
  refine jag (fun nn l h'=> ∃(j:Nat),nn=nk-j∧(j≤nk)∧(∀i,i<j→skS b.pts (b.sticks.getD i default)=0)∧(∃U:Nat→Value,l=((fbV b pp np cp pt nt ct pk nk ck)::(.pointer (some ⟨q1,0,none⟩))::(U 2)::(.int .i64 (j:Int))::vw30 U 4 []))∧h++[⟨true,q1,.cells (fbL b pp np cp pt nt ct pk nk ck).toArray 26 (0,0)⟩]=h') _ ⟨0,rfl,by omega,fun i hi=>by omega,exU rfl,rfl⟩ ?_;rintro nn l h' ⟨j,rfl,hj,hall,⟨U,rfl⟩,rfl⟩ hnext;refine d158 ?_;refine d95 ?_
  refine jap rfl zq (fun hc=>?_) (fun hc=>?_)
  ·refine d97 ?_
   refine jah [(1,.pure),(3,.pure),(0,.read),(2,.read),(4,.pure),(5,.pure),(6,.read),(7,.keep),(8,.pure),(9,.pure),(10,.pure),(12,.pure),(11,.read),(13,.pure),(14,.pure),(15,.read),(16,.keep),(17,.pure),(18,.pure)] (by kernel_rfl) (by kernel_rfl) (List.Sublist.refl _) ?_;refine d61 ?_;refine d74 ?_
   obtain ⟨rdk_b,rdk_o,rfl⟩:=rdk.ptr (by omega)
   refine d15 ?_
   refine k_ld rfl zq (rdk.fat (v:= .int .i64 (b.sticks.getD j default).h) j 0 (by omega) (by omega) rfl) ?_;refine jae (Post:=fun v=>IsB _ v) rfl zq (by kernel_rfl) (fun H' hH=>f120_c m H' _ (rdp.keeps (sq hH)) hp h1) ?_;rintro v (⟨hc,rfl⟩|⟨hc,rfl⟩)
   ·refine d31 ?_;refine mq rfl ?_;(first|refine jcc rfl rfl ?_|refine k_fa rfl rfl ?_);refine k_mv rfl rfl ?_;refine jbb rfl rfl ?_;refine d126 ?_
    refine k_ld rfl rfl (rdk.fat (v:= .int .i64 (b.sticks.getD j default).long) j 1 (by omega) (by omega) rfl) ?_;refine jae (Post:=fun v=>IsB _ v) rfl rfl (by kernel_rfl) (fun H' hH=>f50_c m H' _ _ _) ?_;rintro v (⟨hc,rfl⟩|⟨hc,rfl⟩)
    ·refine d156 ?_;refine d105 ?_
     exact m.weak jaa (hnext _ _ _ (by omega) ⟨j+1,rfl,by omega,jeS hall (by unfold skS;rw [hml,if_neg (by omega)]),exU rfl,rfl⟩)
    ·refine d93 ?_;refine d123 ?_
     refine jab (h) rfl Tryz.func59 rfl jaa ?_;refine hK _ _ ?_;refine ⟨rfl,ja9 ?_⟩
     first
      |exact (by rw [jbw,if_pos (by omega)])
      |exact (jbD (by omega) fun i hi=>hall i (by omega))
      |exact jb1 (by omega) hall (by omega) (by unfold skS;rw [hml,if_pos (by omega)])
   ·refine d33 ?_;refine d138 ?_;refine jaz rfl zq ?_;refine d50 ?_
    refine jab (h) rfl Tryz.func59 rfl jaa ?_;refine hK _ _ ?_;refine ⟨rfl,ja9 ?_⟩
    first
     |exact (by rw [jbw,if_pos (by omega)])
     |exact (jbD (by omega) fun i hi=>hall i (by omega))
     |exact jb1 (by omega) hall (by omega) (by unfold skS;rw [hml,if_pos (by omega)])
  ·refine d160 ?_
   refine jab (h) rfl Tryz.func59 rfl jaa ?_;refine hK _ _ ?_;refine ⟨rfl,ja9 ?_⟩
   first
    |exact (by rw [jbw,if_pos (by omega)])
    |exact (jbD (by omega) fun i hi=>hall i (by omega))
    |exact jb1 (by omega) hall (by omega) (by unfold skS;rw [hml,if_pos (by omega)])
theorem f218_c (m:Md Tryz.prog B) (h:Hp) (rdp:Rp B h b pp np cp) (hp:np≤1000) (rdk:Rk B h b pk nk ck) (hk:nk≤1000) (h1:1≤np):FnC m 218 #[fbV b pp np cp pt nt ct pk nk ck] h fun v h'=>h'=h∧v= .int .i64 (jbw b):=by
 have hml:=rdp.elen (by decide)
 have hkl:=rdk.elen (by decide)
 refine jad Tryz.func218 rfl rfl (l:=(fbV b pp np cp pt nt ct pk nk ck)::uu29) rfl ?_
 intro cf cs K hK
 refine rs2 ?_;refine jaq rfl zq (fun q1=>k_hp (jac ?_));refine d10 ?_;refine rs5 ?_;refine d150 ?_
 refine jbz rfl zq (fun hc=>?_) (fun hc=>?_)
 ·refine d50 ?_
  refine jab (h) rfl Tryz.func218 rfl jaa ?_;refine hK _ _ ?_;refine ⟨rfl,ja9 ?_⟩
  first
   |exact (by rw [jbw,if_pos (by omega)])
   |exact (jbD (by omega) fun i hi=>hall i (by omega))
   |exact jb1 (by omega) hall (by omega) (by unfold skS;rw [hml,if_pos (by omega)])
 ·refine d36 ?_;refine rs5 ?_;refine d23 ?_;refine d130 ?_
  refine jag (fun nn l h'=> ∃(j:Nat),nn=nk-j∧(j≤nk)∧(∀i,i<j→skS b.pts (b.sticks.getD i default)=0)∧(∃U:Nat→Value,l=((fbV b pp np cp pt nt ct pk nk ck)::(.pointer (some ⟨q1,0,none⟩))::vw10 U 2 ((.slice pk nk ck)::(.int .i64 (nk:Int))::(.int .i64 (j:Int))::vw15 U 15 [])))∧h++[⟨true,q1,.cells (fbL b pp np cp pt nt ct pk nk ck).toArray 96 (0,0)⟩]=h') _ ⟨0,rfl,by omega,fun i hi=>by omega,exU rfl,rfl⟩ ?_;rintro nn l h' ⟨j,rfl,hj,hall,⟨U,rfl⟩,rfl⟩ hnext;refine rs1 ?_;refine jap rfl zq (fun hc=>?_) (fun hc=>?_)
  ·refine d106 ?_;refine rs4 ?_
   obtain ⟨rdk_b,rdk_o,rfl⟩:=rdk.ptr (by omega)
   refine jaJ rfl zq (by first|rfl|assumption) (by omega) (by omega) ?_;refine jbf (vs:=[.int .i64 (b.sticks.getD j default).h,.int .i64 (b.sticks.getD j default).long,.bool (b.sticks.getD j default).fits]) rfl zq rfl (rdk.eat j (by omega) (by omega)) ?_;refine jaw rfl zq (fun q4=>k_hp (jac ?_));refine d71 ?_;refine rs11 ?_;refine jaT rfl zq ?_;refine d1 ?_
   refine jae (Post:=fun v=>IsB _ v) rfl zq (by kernel_rfl) (fun H' hH=>f45_c m H' _ (rdp.keeps (sq hH)) hp h1) ?_;rintro v (⟨hc,rfl⟩|⟨hc,rfl⟩)
   ·refine d31 ?_;refine d101 ?_
    refine jae (Post:=fun v=>IsB _ v) rfl rfl (by kernel_rfl) (fun H' hH=>f68_c m H' _ _ _) ?_;rintro v (⟨hc,rfl⟩|⟨hc,rfl⟩)
    ·refine d156 ?_;refine d177 ?_
     exact m.weak jaa (hnext _ _ _ (by omega) ⟨j+1,rfl,by omega,jeS hall (by unfold skS;rw [hml,if_neg (by omega)]),exU rfl,rfl⟩)
    ·refine d93 ?_;refine d123 ?_
     refine jab (h) rfl Tryz.func218 rfl jaa ?_;refine hK _ _ ?_;refine ⟨rfl,ja9 ?_⟩
     first
      |exact (by rw [jbw,if_pos (by omega)])
      |exact (jbD (by omega) fun i hi=>hall i (by omega))
      |exact jb1 (by omega) hall (by omega) (by unfold skS;rw [hml,if_pos (by omega)])
   ·refine d33 ?_;refine d111 ?_;refine d50 ?_
    refine jab (h) rfl Tryz.func218 rfl jaa ?_;refine hK _ _ ?_;refine ⟨rfl,ja9 ?_⟩
    first
     |exact (by rw [jbw,if_pos (by omega)])
     |exact (jbD (by omega) fun i hi=>hall i (by omega))
     |exact jb1 (by omega) hall (by omega) (by unfold skS;rw [hml,if_pos (by omega)])
  ·refine d171 ?_
   refine jab (h) rfl Tryz.func218 rfl jaa ?_;refine hK _ _ ?_;refine ⟨rfl,ja9 ?_⟩
   first
    |exact (by rw [jbw,if_pos (by omega)])
    |exact (jbD (by omega) fun i hi=>hall i (by omega))
    |exact jb1 (by omega) hall (by omega) (by unfold skS;rw [hml,if_pos (by omega)])
theorem f216_c (m:Md Tryz.prog B) (h:Hp) (rdp:Rp B h b pp np cp) (hp:np≤1000):FnC m 216 #[fbV b pp np cp pt nt ct pk nk ck] h fun v h'=>h'=h∧v= .int .i64 (jaE b):=by
 have hml:=rdp.elen (by decide)
 refine jad Tryz.func216 rfl rfl (l:=(fbV b pp np cp pt nt ct pk nk ck)::uu63) rfl ?_
 intro cf cs K hK
 refine rs2 ?_;refine jaq rfl zq (fun q1=>k_hp (jac ?_));refine d10 ?_;refine jaS ?_;refine rs6 ?_;refine d23 ?_
 refine jae (Post:=fun v=>IsB _ v) rfl zq (by kernel_rfl) (fun H' hH=>f68_c m H' _ _ _) ?_;rintro v (⟨hc,rfl⟩|⟨hc,rfl⟩)
 ·refine d31 ?_;refine d73 ?_;refine rs7 ?_;refine d150 ?_
  refine jae (Post:=fun v=>IsB _ v) rfl zq (by kernel_rfl) (fun H' hH=>f68_c m H' _ _ _) ?_;rintro v (⟨hc,rfl⟩|⟨hc,rfl⟩)
  ·refine d31 ?_;refine d73 ?_;refine d117 ?_;refine jak ?_;refine rs5 ?_;refine d23 ?_;refine d130 ?_
   refine jag (fun nn l h'=> ∃(j:Nat),nn=np-j∧(j≤np)∧(∀i,i<j→ptS b.pts i=0)∧(∃U:Nat→Value,l=((fbV b pp np cp pt nt ct pk nk ck)::(.pointer (some ⟨q1,0,none⟩))::vw18 U 2 ((.slice pp np cp)::(.int .i64 (np:Int))::(.int .i64 (j:Int))::vw41 U 23 [])))∧h++[⟨true,q1,.cells (fbL b pp np cp pt nt ct pk nk ck).toArray 96 (0,0)⟩]=h') _ ⟨0,rfl,by omega,fun i hi=>by omega,exU rfl,rfl⟩ ?_;rintro nn l h' ⟨j,rfl,hj,hall,⟨U,rfl⟩,rfl⟩ hnext;refine rs1 ?_;refine jap rfl zq (fun hc=>?_) (fun hc=>?_)
   ·refine d106 ?_;refine rs6 ?_;refine mq rfl ?_
    obtain ⟨rdp_b,rdp_o,rfl⟩:=rdp.ptr (by omega)
    refine jaJ rfl zq (by first|rfl|assumption) (by omega) (by omega) ?_;refine jbf (vs:=[.int .i64 (b.pts.getD j default).h,.int .i64 (b.pts.getD j default).lo,.int .i64 (b.pts.getD j default).hi]) rfl zq rfl (rdp.eat j (by omega) (by omega)) ?_;refine jaw rfl zq (fun q4=>k_hp (jac ?_));refine k_as rfl zq ?_;refine jaO rfl zq rfl ?_;refine d57 ?_;refine rs5 ?_;refine d1 ?_;refine jae (Post:=fun v=>IsB _ v) rfl zq (by kernel_rfl) (fun H' hH=>f68_c m H' _ _ _) ?_;rintro v (⟨hc,rfl⟩|⟨hc,rfl⟩)
    ·refine d31 ?_;refine d73 ?_;refine jak ?_
     refine jah [(0,.pure),(1,.pure),(2,.pure),(3,.pure),(5,.pure),(6,.pure),(8,.pure),(9,.pure),(4,.read),(7,.read),(10,.pure),(11,.pure),(12,.read),(13,.pure),(14,.pure),(15,.pure)] (by kernel_rfl) (by kernel_rfl) (List.Sublist.refl _) ?_;refine mq rfl ?_
     refine jbz rfl zq (fun hc=>?_) (fun hc=>?_)
     ·refine mq rfl ?_;refine d90 ?_;(first|refine jcc rfl rfl ?_|refine k_fa rfl rfl ?_);refine d100 ?_;refine jbb rfl rfl ?_;refine jbb rfl rfl ?_;refine d126 ?_
      refine k_ld rfl rfl (rdp.fat (v:= .int .i64 (b.pts.getD (j-1) default).h) (j-1) 0 (by omega) (by omega) rfl) ?_;refine ja1 rfl rfl (fun hc=>?_) (fun hc=>?_)
      ·refine jaz rfl zq ?_;refine d136 ?_;refine jab (h) rfl Tryz.func216 rfl jaa ?_;refine hK _ _ ?_;refine ⟨rfl,ja9 ?_⟩
       first
        |(rw [jaE,if_pos (by omega)];done)
        |(rw [jaE,if_neg (by omega),ptsS,if_pos (by omega)];done)
        |(rw [jaE,if_neg (by omega),ptsS,if_neg (by omega),jaR (fun i hi=>hall i (by omega))];done)
        |(rw [jaE,if_neg (by omega),ptsS,if_neg (by omega),ja6 (k:=j) hall (by unfold ptS;first|(rw [if_pos (by omega)];decide)|(rw [if_neg (by omega),if_pos (by omega)];decide)|(rw [if_neg (by omega),if_neg (by omega),if_pos (by omega)];decide)) (by omega)];unfold ptS;first|(rw [if_pos (by omega)];done)|(rw [if_neg (by omega),if_pos (by omega)];done)|(rw [if_neg (by omega),if_neg (by omega),if_pos (by omega)];done)|(rw [if_neg (by omega),if_neg (by omega),if_neg (by omega)];done))
      ·refine jaz rfl zq ?_;refine d73 ?_;refine jak ?_;refine rr15 ?_;refine d62 ?_;refine jae (Post:=fun v=>IsB _ v) rfl zq (by kernel_rfl) (fun H' hH=>f219_c m H' _ _ _ _) ?_;rintro v (⟨hc,rfl⟩|⟨hc,rfl⟩)
       ·refine d31 ?_;refine mq rfl ?_;refine d112 ?_;refine d112 ?_;refine jcj rfl rfl (by unfold In64;omega) ?_
        refine jaY rfl rfl (fun hc=>?_) (fun hc=>?_)
        ·refine jau rfl zq ?_;refine d136 ?_;refine jab (h) rfl Tryz.func216 rfl jaa ?_;refine hK _ _ ?_;refine ⟨rfl,ja9 ?_⟩
         first
          |(rw [jaE,if_pos (by omega)];done)
          |(rw [jaE,if_neg (by omega),ptsS,if_pos (by omega)];done)
          |(rw [jaE,if_neg (by omega),ptsS,if_neg (by omega),jaR (fun i hi=>hall i (by omega))];done)
          |(rw [jaE,if_neg (by omega),ptsS,if_neg (by omega),ja6 (k:=j) hall (by unfold ptS;first|(rw [if_pos (by omega)];decide)|(rw [if_neg (by omega),if_pos (by omega)];decide)|(rw [if_neg (by omega),if_neg (by omega),if_pos (by omega)];decide)) (by omega)];unfold ptS;first|(rw [if_pos (by omega)];done)|(rw [if_neg (by omega),if_pos (by omega)];done)|(rw [if_neg (by omega),if_neg (by omega),if_pos (by omega)];done)|(rw [if_neg (by omega),if_neg (by omega),if_neg (by omega)];done))
        ·refine jau rfl zq ?_;refine d73 ?_;refine d117 ?_;refine jay ?_;refine d78 ?_;exact m.weak jaa (hnext _ _ _ (by omega) ⟨j+1,rfl,by omega,fun i hi=>by
          rcases Nat.lt_or_ge i j with h3|h3
          ·exact hall i h3
          ·obtain rfl:i=j:=by omega
           unfold ptS
           first|(rw [if_pos (by omega)];done)|(rw [if_neg (by omega),if_pos (by omega)];done)|(rw [if_neg (by omega),if_neg (by omega),if_pos (by omega)];done)|(rw [if_neg (by omega),if_neg (by omega),if_neg (by omega)];done),exU rfl,rfl⟩)
       ·refine d33 ?_;refine d138 ?_;refine jaz rfl zq ?_;refine d136 ?_
        refine jab (h) rfl Tryz.func216 rfl jaa ?_;refine hK _ _ ?_;refine ⟨rfl,ja9 ?_⟩
        first
         |(rw [jaE,if_pos (by omega)];done)
         |(rw [jaE,if_neg (by omega),ptsS,if_pos (by omega)];done)
         |(rw [jaE,if_neg (by omega),ptsS,if_neg (by omega),jaR (fun i hi=>hall i (by omega))];done)
         |(rw [jaE,if_neg (by omega),ptsS,if_neg (by omega),ja6 (k:=j) hall (by unfold ptS;first|(rw [if_pos (by omega)];decide)|(rw [if_neg (by omega),if_pos (by omega)];decide)|(rw [if_neg (by omega),if_neg (by omega),if_pos (by omega)];decide)) (by omega)];unfold ptS;first|(rw [if_pos (by omega)];done)|(rw [if_neg (by omega),if_pos (by omega)];done)|(rw [if_neg (by omega),if_neg (by omega),if_pos (by omega)];done)|(rw [if_neg (by omega),if_neg (by omega),if_neg (by omega)];done))
     ·refine d168 ?_;refine d52 ?_;refine d73 ?_;refine jak ?_;refine rr15 ?_;refine d62 ?_
      refine jae (Post:=fun v=>IsB _ v) rfl zq (by kernel_rfl) (fun H' hH=>f219_c m H' _ _ _ _) ?_;rintro v (⟨hc,rfl⟩|⟨hc,rfl⟩)
      ·refine d31 ?_;refine mq rfl ?_;refine d112 ?_;refine d112 ?_;refine jcj rfl rfl (by unfold In64;omega) ?_
       refine jaY rfl rfl (fun hc=>?_) (fun hc=>?_)
       ·refine jau rfl zq ?_;refine d136 ?_;refine jab (h) rfl Tryz.func216 rfl jaa ?_;refine hK _ _ ?_;refine ⟨rfl,ja9 ?_⟩
        first
         |(rw [jaE,if_pos (by omega)];done)
         |(rw [jaE,if_neg (by omega),ptsS,if_pos (by omega)];done)
         |(rw [jaE,if_neg (by omega),ptsS,if_neg (by omega),jaR (fun i hi=>hall i (by omega))];done)
         |(rw [jaE,if_neg (by omega),ptsS,if_neg (by omega),ja6 (k:=j) hall (by unfold ptS;first|(rw [if_pos (by omega)];decide)|(rw [if_neg (by omega),if_pos (by omega)];decide)|(rw [if_neg (by omega),if_neg (by omega),if_pos (by omega)];decide)) (by omega)];unfold ptS;first|(rw [if_pos (by omega)];done)|(rw [if_neg (by omega),if_pos (by omega)];done)|(rw [if_neg (by omega),if_neg (by omega),if_pos (by omega)];done)|(rw [if_neg (by omega),if_neg (by omega),if_neg (by omega)];done))
       ·refine jau rfl zq ?_;refine d73 ?_;refine d117 ?_;refine jay ?_;refine d78 ?_;exact m.weak jaa (hnext _ _ _ (by omega) ⟨j+1,rfl,by omega,fun i hi=>by
         rcases Nat.lt_or_ge i j with h3|h3
         ·exact hall i h3
         ·obtain rfl:i=j:=by omega
          unfold ptS
          first|(rw [if_pos (by omega)];done)|(rw [if_neg (by omega),if_pos (by omega)];done)|(rw [if_neg (by omega),if_neg (by omega),if_pos (by omega)];done)|(rw [if_neg (by omega),if_neg (by omega),if_neg (by omega)];done),exU rfl,rfl⟩)
      ·refine d33 ?_;refine d138 ?_;refine jaz rfl zq ?_;refine d136 ?_
       refine jab (h) rfl Tryz.func216 rfl jaa ?_;refine hK _ _ ?_;refine ⟨rfl,ja9 ?_⟩
       first
        |(rw [jaE,if_pos (by omega)];done)
        |(rw [jaE,if_neg (by omega),ptsS,if_pos (by omega)];done)
        |(rw [jaE,if_neg (by omega),ptsS,if_neg (by omega),jaR (fun i hi=>hall i (by omega))];done)
        |(rw [jaE,if_neg (by omega),ptsS,if_neg (by omega),ja6 (k:=j) hall (by unfold ptS;first|(rw [if_pos (by omega)];decide)|(rw [if_neg (by omega),if_pos (by omega)];decide)|(rw [if_neg (by omega),if_neg (by omega),if_pos (by omega)];decide)) (by omega)];unfold ptS;first|(rw [if_pos (by omega)];done)|(rw [if_neg (by omega),if_pos (by omega)];done)|(rw [if_neg (by omega),if_neg (by omega),if_pos (by omega)];done)|(rw [if_neg (by omega),if_neg (by omega),if_neg (by omega)];done))
    ·refine d33 ?_;refine d136 ?_
     refine jab (h) rfl Tryz.func216 rfl jaa ?_;refine hK _ _ ?_;refine ⟨rfl,ja9 ?_⟩
     first
      |(rw [jaE,if_pos (by omega)];done)
      |(rw [jaE,if_neg (by omega),ptsS,if_pos (by omega)];done)
      |(rw [jaE,if_neg (by omega),ptsS,if_neg (by omega),jaR (fun i hi=>hall i (by omega))];done)
      |(rw [jaE,if_neg (by omega),ptsS,if_neg (by omega),ja6 (k:=j) hall (by unfold ptS;first|(rw [if_pos (by omega)];decide)|(rw [if_neg (by omega),if_pos (by omega)];decide)|(rw [if_neg (by omega),if_neg (by omega),if_pos (by omega)];decide)) (by omega)];unfold ptS;first|(rw [if_pos (by omega)];done)|(rw [if_neg (by omega),if_pos (by omega)];done)|(rw [if_neg (by omega),if_neg (by omega),if_pos (by omega)];done)|(rw [if_neg (by omega),if_neg (by omega),if_neg (by omega)];done))
   ·refine d171 ?_
    refine jab (h) rfl Tryz.func216 rfl jaa ?_;refine hK _ _ ?_;refine ⟨rfl,ja9 ?_⟩
    first
     |(rw [jaE,if_pos (by omega)];done)
     |(rw [jaE,if_neg (by omega),ptsS,if_pos (by omega)];done)
     |(rw [jaE,if_neg (by omega),ptsS,if_neg (by omega),jaR (fun i hi=>hall i (by omega))];done)
     |(rw [jaE,if_neg (by omega),ptsS,if_neg (by omega),ja6 (k:=j) hall (by unfold ptS;first|(rw [if_pos (by omega)];decide)|(rw [if_neg (by omega),if_pos (by omega)];decide)|(rw [if_neg (by omega),if_neg (by omega),if_pos (by omega)];decide)) (by omega)];unfold ptS;first|(rw [if_pos (by omega)];done)|(rw [if_neg (by omega),if_pos (by omega)];done)|(rw [if_neg (by omega),if_neg (by omega),if_pos (by omega)];done)|(rw [if_neg (by omega),if_neg (by omega),if_neg (by omega)];done))
  ·refine d33 ?_;refine d136 ?_
   refine jab (h) rfl Tryz.func216 rfl jaa ?_;refine hK _ _ ?_;refine ⟨rfl,ja9 ?_⟩
   first
    |(rw [jaE,if_pos (by omega)];done)
    |(rw [jaE,if_neg (by omega),ptsS,if_pos (by omega)];done)
    |(rw [jaE,if_neg (by omega),ptsS,if_neg (by omega),jaR (fun i hi=>hall i (by omega))];done)
    |(rw [jaE,if_neg (by omega),ptsS,if_neg (by omega),ja6 (k:=j) hall (by unfold ptS;first|(rw [if_pos (by omega)];decide)|(rw [if_neg (by omega),if_pos (by omega)];decide)|(rw [if_neg (by omega),if_neg (by omega),if_pos (by omega)];decide)) (by omega)];unfold ptS;first|(rw [if_pos (by omega)];done)|(rw [if_neg (by omega),if_pos (by omega)];done)|(rw [if_neg (by omega),if_neg (by omega),if_pos (by omega)];done)|(rw [if_neg (by omega),if_neg (by omega),if_neg (by omega)];done))
 ·refine d33 ?_;refine d136 ?_
  refine jab (h) rfl Tryz.func216 rfl jaa ?_;refine hK _ _ ?_;refine ⟨rfl,ja9 ?_⟩
  first
   |(rw [jaE,if_pos (by omega)];done)
   |(rw [jaE,if_neg (by omega),ptsS,if_pos (by omega)];done)
   |(rw [jaE,if_neg (by omega),ptsS,if_neg (by omega),jaR (fun i hi=>hall i (by omega))];done)
   |(rw [jaE,if_neg (by omega),ptsS,if_neg (by omega),ja6 (k:=j) hall (by unfold ptS;first|(rw [if_pos (by omega)];decide)|(rw [if_neg (by omega),if_pos (by omega)];decide)|(rw [if_neg (by omega),if_neg (by omega),if_pos (by omega)];decide)) (by omega)];unfold ptS;first|(rw [if_pos (by omega)];done)|(rw [if_neg (by omega),if_pos (by omega)];done)|(rw [if_neg (by omega),if_neg (by omega),if_pos (by omega)];done)|(rw [if_neg (by omega),if_neg (by omega),if_neg (by omega)];done))
theorem fbS_p {b:Fb} (h: ¬(0≤b.plank∧b.plank≤20)):fbS b=1:=by
 have:jaE b=1:=by rw [jaE,if_pos h]
 rw [fbS,this];rfl
theorem jmS {b:Fb} {r:Int} (h:jaE b=r) (h0:r≠0):fbS b=r:=by rw [fbS,h,if_pos h0]
theorem jmR {b:Fb} {r:Int} (h:jaE b=0) (h1:jbC b=r) (h0:r≠0):fbS b=r:=by rw [fbS,h,if_neg (by simp),h1,if_pos h0]
theorem jla {b:Fb} (h:jaE b=0) (h1:jbC b=0):fbS b=jbw b:=by rw [fbS,h,if_neg (by simp),h1,if_neg (by simp)]
theorem jb9 {b:Fb} (h:0≤b.plank∧b.plank≤20):jaE b=ptsS b.pts:=by rw [jaE,if_neg (fun e=>e h)]
theorem jgM {b:Fb} (h:jaE b=0):PtsOk b.pts:=by
 unfold jaE at h
 split at h
 ·omega
 ·exact jh6 h
theorem f17_c (m:Md Tryz.prog B) (h:Hp) (rdp:Rp B h b pp np cp) (hp:np≤1000) (rdt:Rt B h b pt nt ct) (ht:nt≤1000) (rdk:Rk B h b pk nk ck) (hk:nk≤1000):FnC m 17 #[fbV b pp np cp pt nt ct pk nk ck] h fun v h'=>h'=h∧v= .int .i64 (fbS b):=by
 have hml:=rdp.elen (by decide)
 refine jad Tryz.func17 rfl rfl (l:=(fbV b pp np cp pt nt ct pk nk ck)::uu21) rfl ?_
 intro cf cs K hK
 refine rs2 ?_;refine jaq rfl zq (fun q1=>k_hp (jac ?_));refine d10 ?_;refine rs4 ?_;refine d1 ?_
 refine jae (Post:=fun v=>IsB _ v) rfl zq (by kernel_rfl) (fun H' hH=>f50_c m H' _ _ _) ?_;rintro v (⟨hc,rfl⟩|⟨hc,rfl⟩)
 ·refine d31 ?_;refine d36 ?_;refine rs4 ?_;refine d1 ?_
  refine jae (Post:=fun v=>v=_) rfl zq (by kernel_rfl) (fun H' hH=>f57_c m H' (b:=b) (pt:=pt) (nt:=nt) (ct:=ct) (pk:=pk) (nk:=nk) (ck:=ck) (rdp.keeps (sq hH)) hp) ?_;rintro v rfl;refine d135 ?_
  refine jaF rfl zq (fun hc=>?_) (fun hc=>?_)
  ·refine d166 ?_
   refine jab (h) rfl Tryz.func17 rfl jaa ?_;refine hK _ _ ?_;refine ⟨rfl,ja9 ?_⟩
   first
    |exact fbS_p (by omega)
    |exact jmS (jb9 (by omega)) (by omega)
    |exact jmR (by rw [jb9 (by omega)];omega) rfl (by omega)
    |exact jla hz (by omega)
  ·refine d36 ?_;refine d96 ?_
   refine jae (Post:=fun v=>v=_) rfl zq (by kernel_rfl) (fun H' hH=>f58_c m H' (rdp.keeps (sq hH)) hp (rdt.keeps (sq hH)) ht) ?_;rintro v rfl;refine d135 ?_
   refine jaF rfl zq (fun hc=>?_) (fun hc=>?_)
   ·refine d166 ?_
    refine jab (h) rfl Tryz.func17 rfl jaa ?_;refine hK _ _ ?_;refine ⟨rfl,ja9 ?_⟩
    first
     |exact fbS_p (by omega)
     |exact jmS (jb9 (by omega)) (by omega)
     |exact jmR (by rw [jb9 (by omega)];omega) rfl (by omega)
     |exact jla hz (by omega)
   ·refine d9 ?_;refine d96 ?_
    have hz:jaE b=0:=by rw [jb9 (by omega)];omega
    have h1:=(jgM hz).two
    refine jae (Post:=fun v=>v=_) rfl zq (by kernel_rfl) (fun H' hH=>f59_c m H' (rdp.keeps (sq hH)) hp (rdk.keeps (sq hH)) hk (by omega)) ?_;rintro v rfl;refine d87 ?_
    refine jab (h) rfl Tryz.func17 rfl jaa ?_;refine hK _ _ ?_;refine ⟨rfl,ja9 ?_⟩
    first
     |exact fbS_p (by omega)
     |exact jmS (jb9 (by omega)) (by omega)
     |exact jmR (by rw [jb9 (by omega)];omega) rfl (by omega)
     |exact jla hz (by omega)
 ·refine d152 ?_
  refine jab (h) rfl Tryz.func17 rfl jaa ?_;refine hK _ _ ?_;refine ⟨rfl,ja9 ?_⟩
  first
   |exact fbS_p (by omega)
   |exact jmS (jb9 (by omega)) (by omega)
   |exact jmR (by rw [jb9 (by omega)];omega) rfl (by omega)
   |exact jla hz (by omega)
class LaidF (B:Array Obj):Prop where
 eq: ∃t f,B[0]?=some (.cells [.func (.func 216) #[] #[],.func (.func 217) #[] #[],.func (.func 218) #[] #[]].toArray t f)
variable [LaidF B]
theorem jmo {h:Hp} [x:LaidF B]:RdN B h 0 0 [.func (.func 216) #[] #[],.func (.func 217) #[] #[],.func (.func 218) #[] #[]]:=fun j hj=>by
 obtain ⟨t,f,e⟩:=x.eq
 refine Rd.base rfl e ?_
 rw [Nat.zero_add,List.getElem?_toArray,List.getD_eq_getElem?_getD,List.getElem?_eq_getElem hj];rfl
def chkF (b:Fb) (k:Nat):Int:=if k=0 then jaE b else if k=1 then jbC b else jbw b
theorem jiz {b:Fb} {k:Nat} (hk:k<3) (h: ∀i,i<k→chkF b i=0) (hs:chkF b k≠0):fbS b=chkF b k:=by
 rcases (by omega:k=0∨k=1∨k=2) with rfl|rfl|rfl
 ·exact jmS rfl hs
 ·exact jmR (h 0 (by omega)) rfl hs
 ·exact jla (h 0 (by omega)) (h 1 (by omega))
theorem jg6 {b:Fb} (h: ∀i,i<3→chkF b i=0):fbS b=0:=by
 rw [jla (h 0 (by omega)) (h 1 (by omega))];exact h 2 (by omega)
theorem chkF_get (k:Nat) (hk:k<3):([Value.func (.func 216) #[] #[],.func (.func 217) #[] #[],.func (.func 218) #[] #[]].toArray)[(k:Int).toNat*1]?=some (.func (.func (216+k)) #[] #[]):=by
 rcases (by omega:k=0∨k=1∨k=2) with rfl|rfl|rfl<;>rfl
theorem jm4 (k:Nat) (hk:k<3):ja4 Tryz.prog (216+k)=true:=by
 rcases (by omega:k=0∨k=1∨k=2) with rfl|rfl|rfl<;>kernel_rfl
theorem chkF_c (m:Md Tryz.prog B) (h:Hp) (rdp:Rp B h b pp np cp) (hp:np≤1000) (rdt:Rt B h b pt nt ct) (ht:nt≤1000) (rdk:Rk B h b pk nk ck) (hk:nk≤1000) (k:Nat) (hk3:k<3) (h0: ∀i,i<k→chkF b i=0):FnC m (216+k) #[fbV b pp np cp pt nt ct pk nk ck] h fun v h'=>h'=h∧v= .int .i64 (chkF b k):=by
 rcases (by omega:k=0∨k=1∨k=2) with rfl|rfl|rfl
 ·exact f216_c m h rdp hp
 ·exact f217_c m h rdp hp rdt ht
 ·exact f218_c m h rdp hp rdk hk (by have:=(jgM (h0 0 (by omega))).two;have:=rdp.elen (by decide);omega)
theorem f54_c (m:Md Tryz.prog B) (h:Hp) (rdp:Rp B h b pp np cp) (hp:np≤1000) (rdt:Rt B h b pt nt ct) (ht:nt≤1000) (rdk:Rk B h b pk nk ck) (hk:nk≤1000):FnC m 54 #[fbV b pp np cp pt nt ct pk nk ck] h fun v h'=>h'=h∧v= .int .i64 (fbS b):=by
 refine jad Tryz.func54 rfl rfl (l:=(fbV b pp np cp pt nt ct pk nk ck)::uu17) rfl ?_
 intro cf cs K hK
 refine rs2 ?_;refine jaq rfl zq (fun q1=>k_hp (jac ?_));refine d10 ?_;refine rs2 ?_
 refine jbf (vs:=[.func (.func 216) #[] #[],.func (.func 217) #[] #[],.func (.func 218) #[] #[]]) rfl zq rfl jmo ?_;refine mq rfl ?_;refine d57 ?_
 refine jag (fun nn l h'=> ∃(k:Nat),nn=3-k∧(k≤3)∧(∀i,i<k→chkF b i=0)∧(∃U:Nat→Value,l=[fbV b pp np cp pt nt ct pk nk ck,.pointer (some ⟨q1,0,none⟩),U 2,U 3,U 4,U 5,.agg [.func (.func 216) #[] #[],.func (.func 217) #[] #[],.func (.func 218) #[] #[]].toArray,.int .i64 (k:Int),U 8,U 9,U 10,U 11,U 12,U 13,U 14,U 15,U 16,U 17])∧h++[⟨true,q1,.cells (fbL b pp np cp pt nt ct pk nk ck).toArray 26 (0,0)⟩]=h') _ ⟨0,rfl,by omega,fun i hi=>by omega,exU rfl,rfl⟩ ?_;rintro nn l h' ⟨k,rfl,hk3,he,⟨U,rfl⟩,rfl⟩ hnext;refine rs1 ?_;refine jap rfl zq (fun hc=>?_) (fun hc=>?_)
 ·refine d106 ?_;refine rs2 ?_
  refine k_ixv rfl zq (by omega) (by omega) (chkF_get k (by omega)) ?_;refine aq rfl ?_;refine d116 ?_;refine d122 ?_
  refine jea (Post:=fun v=>v=_) rfl zq (jm4 k (by omega)) (fun H' hH=>chkF_c m H' (rdp.keeps (sq hH)) hp (rdt.keeps (sq hH)) ht (rdk.keeps (sq hH)) hk k (by omega) he) ?_;rintro v rfl;refine d135 ?_
  refine jaF rfl zq (fun hc=>?_) (fun hc=>?_)
  ·refine d166 ?_
   refine jab (h) rfl Tryz.func54 rfl jaa ?_;refine hK _ _ ?_;refine ⟨rfl,ja9 ?_⟩
   first
    |exact jiz (by omega) he (by assumption)
    |exact jg6 (fun i hi=>he i (by omega))
  ·refine d177 ?_
   exact m.weak jaa (hnext _ _ _ (by omega) ⟨k+1,rfl,by omega,jeS he (by first|assumption|omega),exU rfl,rfl⟩)
 ·refine d171 ?_
  refine jab (h) rfl Tryz.func54 rfl jaa ?_;refine hK _ _ ?_;refine ⟨rfl,ja9 ?_⟩
  first
   |exact jiz (by omega) he (by assumption)
   |exact jg6 (fun i hi=>he i (by omega))
theorem f102_c (m:Md Tryz.prog B) (h:Hp) (x:Int):FnC m 102 #[.int .i64 x] h fun v h'=>h'=h∧IsB (¬(0≤x∧x≤959)) v:=by
 refine jad Tryz.func102 rfl rfl (l:=[.int .i64 x,undef,undef,undef,undef,undef]) rfl ?_
 intro cf cs K hK
 refine d82 ?_;refine d115 ?_
 refine jae (Post:=fun v=>IsB _ v) rfl zq (by kernel_rfl) (fun H' hH=>f68_c m H' _ _ _) ?_;rintro v (⟨hc,rfl⟩|⟨hc,rfl⟩)
 ·refine d31 ?_;refine d0 ?_
  refine jab (h) rfl Tryz.func102 rfl jaa ?_;refine hK _ _ ?_;first|exact ⟨rfl,IsB.yes (by omega)⟩|exact ⟨rfl,IsB.no (by omega)⟩
 ·refine d33 ?_;refine d0 ?_
  refine jab (h) rfl Tryz.func102 rfl jaa ?_;refine hK _ _ ?_;first|exact ⟨rfl,IsB.yes (by omega)⟩|exact ⟨rfl,IsB.no (by omega)⟩
theorem f103_c (m:Md Tryz.prog B) (h:Hp) {p:Option Addr} {n c:Nat} {xs:List Int} (rd:RdS B h 1 (.slice p n c) n (ints xs)) (hn:n≤1000):FnC m 103 #[.slice p n c] h fun v h'=>h'=h∧v=rwV xs:=by
 refine jad Tryz.func103 rfl rfl (l:=(.slice p n c)::uu7) rfl ?_
 intro cf cs K hK
 refine rs1 ?_;refine jaw rfl zq (fun q2=>k_hp (jac ?_));refine jaB ?_;refine rs1 ?_;refine jaw rfl zq (fun q3=>k_hp (jac ?_));refine jaB ?_;refine rs3 ?_;refine k_slAA rfl zq ?_;refine mq rfl ?_;refine k_copy (rws xs) rfl zq rd.up (jdT _) (by decide) (by rw [rws_copy xs rd.ilen,jiX]) (jac ?_);refine jaB ?_;refine d132 ?_;refine jaO rfl zq (by first|rfl|exact jaf _) ?_;refine jaB ?_;refine jb7 rfl ?_;refine jab (h) rfl Tryz.func103 rfl jaa ?_;refine hK _ _ ?_;exact ⟨rfl,rfl⟩
def jjp (s:Int) (bv:Value) (xs:List Int) (v:Value):Prop:= ∃(x:Int) (p1:Option Addr) (n1 c1:Nat) (p2:Option Addr) (n2 c2:Nat) (p3:Option Addr) (n3 c3:Nat) (yl:List Int),v= .tuple [.agg [.int .i64 x,.slice p1 n1 c1,.slice p2 n2 c2,.slice p3 n3 c3].toArray,rwV yl,.int .i64 s].toArray∧(s=0→bv= .agg [.int .i64 x,.slice p1 n1 c1,.slice p2 n2 c2,.slice p3 n3 c3].toArray∧xs=yl)
theorem jhu {s:Int} {bv:Value} {xs:List Int} (h:s≠0):jjp s bv xs (.tuple [.agg [.int .i64 0,.slice none 0 0,.slice none 0 0,.slice none 0 0].toArray,.agg [.int .i64 0,.int .i64 0,.int .i64 0,.int .i64 0,.int .i64 0].toArray,.int .i64 s].toArray):=
 ⟨0,none,0,0,none,0,0,none,0,0,[],by rw [rwV,jiX],fun e=>absurd e h⟩
theorem f44_c (m:Md Tryz.prog B) (h:Hp) (rdp:Rp B h b pp np cp) (hp:np≤1000) (rdt:Rt B h b pt nt ct) (ht:nt≤1000) (rdk:Rk B h b pk nk ck) (hk:nk≤1000) {p:Option Addr} {n c:Nat} {xs:List Int} (rd:RdS B h 1 (.slice p n c) n (ints xs)) (hn:n≤1000):FnC m 44 #[fbV b pp np cp pt nt ct pk nk ck,.slice p n c] h fun v h'=>h'=h∧jjp (jaU b xs) (fbV b pp np cp pt nt ct pk nk ck) xs v:=by
 have hml:=rdp.elen (by decide)
 have hl:=rd.ilen
 refine jad Tryz.func44 rfl rfl (l:=(fbV b pp np cp pt nt ct pk nk ck)::(.slice p n c)::uu31) rfl ?_
 intro cf cs K hK
 refine rs4 ?_;refine jaq rfl zq (fun q2=>k_hp (jac ?_));refine jaw rfl zq (fun q4=>k_hp (jac ?_));refine jaw rfl zq (fun q5=>k_hp (jac ?_));refine d10 ?_;refine d96 ?_
 refine jae (Post:=fun v=>v=_) rfl zq (by kernel_rfl) (fun H' hH=>f54_c m H' (rdp.keeps (sq hH)) hp (rdt.keeps (sq hH)) ht (rdk.keeps (sq hH)) hk) ?_;rintro v rfl;refine d135 ?_
 refine jaF rfl zq (fun hc=>?_) (fun hc=>?_)
 ·refine d7 ?_;refine rs6 ?_;refine jcP rfl zq ?_;refine jjX rfl zq ?_;refine mq rfl ?_;refine jaO rfl zq rfl ?_
  refine jaO rfl zq (by first|rfl|exact jaf _) ?_;refine d0 ?_
  refine jab (h) rfl Tryz.func44 rfl jaa ?_;refine hK _ _ ?_;have e:jaU b xs=fbS b:=by rw [jaU,if_pos (by assumption)]
  exact ⟨rfl,by rw [e];exact jhu (by assumption)⟩
 ·refine d9 ?_;refine d20 ?_;refine rs7 ?_;refine mq rfl ?_;refine jcO rfl zq ?_;refine d95 ?_
  refine jaF rfl zq (fun hc=>?_) (fun hc=>?_)
  ·refine d63 ?_;refine rs5 ?_;refine jcP rfl zq ?_;refine jjX rfl zq ?_;refine jaO rfl zq rfl ?_
   refine jaO rfl zq (by first|rfl|exact jaf _) ?_;refine d0 ?_
   refine jab (h) rfl Tryz.func44 rfl jaa ?_;refine hK _ _ ?_;have e:jaU b xs=2:=by rw [jaU,if_neg (by omega),brS,if_pos (by omega)]
   exact ⟨rfl,by rw [e];exact jhu (by decide)⟩
  ·refine d73 ?_;refine d46 ?_
   refine jae (Post:=fun v=>IsB _ v) rfl zq (by kernel_rfl) (fun H' hH=>f101_c m H' (pr:=fun i=> ¬(0≤xs.getD i 0∧xs.getD i 0≤959)) (rd.keeps (sq hH)) (by omega) (by kernel_rfl) (fun i hi K hK=>f102_c m K _)) ?_;rintro v (⟨hc,rfl⟩|⟨hc,rfl⟩)
   ·refine jac ?_;refine d63 ?_;refine rs5 ?_;refine jcP rfl zq ?_;refine jjX rfl zq ?_;refine jaO rfl zq rfl ?_;refine jaO rfl zq (by first|rfl|exact jaf _) ?_;refine d0 ?_
    refine jab (h) rfl Tryz.func44 rfl jaa ?_;refine hK _ _ ?_;have e:jaU b xs=1:=by rw [jaU,if_neg (by omega),brS,if_neg (by omega),if_pos (by rw [hl];assumption)]
    exact ⟨rfl,by rw [e];exact jhu (by decide)⟩
   ·refine jac ?_;refine d73 ?_;refine d117 ?_;refine jak ?_;refine jah [(2,.pure),(0,.read),(1,.pure),(3,.keep),(4,.free),(5,.free),(6,.pure)] (by kernel_rfl) (by kernel_rfl) (List.Sublist.refl _) ?_;refine mq rfl ?_;refine d122 ?_
    refine jae (Post:=fun v=>v=_) rfl zq (by kernel_rfl) (fun H' hH=>f103_c m H' (rd.keeps (sq hH)) hn) ?_;rintro v rfl;refine jac ?_;refine jaO rfl zq rfl ?_;refine jaO rfl zq (by first|rfl|exact jaf _) ?_;refine d0 ?_
    refine jab (h) rfl Tryz.func44 rfl jaa ?_;refine hK _ _ ?_;have e:jaU b xs=0:=by rw [jaU,if_neg (by omega),brS,if_neg (by omega),if_neg (by rw [hl];assumption)]
    exact ⟨rfl,_,_,_,_,_,_,_,_,_,_,xs,by rw [e],fun _=>⟨rfl,rfl⟩⟩
end Go.Proofs
namespace Go.Proofs
open Go.Lo
open Go.Conc (G)
set_option maxRecDepth 100000
set_option synthInstance.maxSize 100000
set_option synthInstance.maxHeartbeats 1000000
set_option maxHeartbeats 4000000
variable {b:Fb} {pp:Option Addr} {np cp:Nat} {pt:Option Addr} {nt ct:Nat} {pk:Option Addr} {nk ck:Nat}
variable {B:Array Obj}
variable [LaidF B]
theorem f26_c (m:Md Tryz.prog B) (h:Hp) (x:Int):FnC m 26 #[.int .i64 x] h fun v h'=>h'=h∧v= .tuple [.int .i64 (if 0≤x∧x≤999999 then jdY x else 0),.int .i64 (if 0≤x∧x≤999999 then 0 else 1)].toArray:=by
 refine jad Tryz.func26 rfl rfl (l:=(.int .i64 x)::uu8) rfl ?_
 intro cf cs K hK
 refine rs2 ?_;refine d99 ?_;refine d46 ?_;refine jae (Post:=fun v=>IsB _ v) rfl zq (by kernel_rfl) (fun H' hH=>f68_c m H' _ _ _) ?_;rintro v (⟨hc,rfl⟩|⟨hc,rfl⟩)
 ·refine d31 ?_;refine d9 ?_;refine rs4 ?_
  obtain ⟨k,rfl⟩: ∃k:Nat,x=k:=Int.eq_ofNat_of_zero_le (by omega)
  refine mq rfl ?_
  refine jae (Post:=fun v=>v=_) rfl zq (by kernel_rfl) (fun H' hH=>f69_c m H' k (by omega)) ?_;rintro v rfl;refine jac ?_;refine d34 ?_;refine jab (h) rfl Tryz.func26 rfl jaa ?_;refine hK _ _ ?_;refine ⟨rfl,?_⟩
  first|(rw [if_pos (by omega),if_pos (by omega)];done)|(rw [if_neg (by omega),if_neg (by omega)];done)
 ·refine d33 ?_;refine d7 ?_;refine d179 ?_
  refine jab (h) rfl Tryz.func26 rfl jaa ?_;refine hK _ _ ?_;refine ⟨rfl,?_⟩
  first|(rw [if_pos (by omega),if_pos (by omega)];done)|(rw [if_neg (by omega),if_neg (by omega)];done)
def atS (b:Fb) (xs:List Int) (x:Int):Int:=if jaU b xs≠0 then jaU b xs else if (b.pts.getD 0 default).h≤x∧x≤(b.pts.getD (b.pts.length-1) default).h then 0 else 1
theorem atS_h {b:Fb} {xs:List Int} {x:Int} (h:jaU b xs≠0):atS b xs x=jaU b xs:=by rw [atS,if_pos h]
theorem atS_1 {b:Fb} {xs:List Int} {x:Int} (h:jaU b xs=0) (h2: ¬((b.pts.getD 0 default).h≤x∧x≤(b.pts.getD (b.pts.length-1) default).h)):atS b xs x=1:=by rw [atS,if_neg (fun e=>e h),if_neg h2]
theorem atS_0 {b:Fb} {xs:List Int} {x:Int} (h:jaU b xs=0) (h2:(b.pts.getD 0 default).h≤x∧x≤(b.pts.getD (b.pts.length-1) default).h):atS b xs x=0:=by rw [atS,if_neg (fun e=>e h),if_pos h2]
def orNo (s v:Int):Value:= .tuple [.int .i64 (if s≠0 then 0 else v),.int .i64 s].toArray
theorem jc0 {s v:Int} (h:s≠0):orNo s v= .tuple [.int .i64 0,.int .i64 s].toArray:=by rw [orNo,if_pos h]
theorem ja3 {s v:Int} (h:s=0):orNo s v= .tuple [.int .i64 v,.int .i64 0].toArray:=by rw [orNo,if_neg (fun e=>e h),h]
def jgZ (b:Fb) (xs:List Int) (f t:Int):Int:=if jaU b xs≠0 then jaU b xs else ordS b.pts.length f t
theorem girthS_h {b:Fb} {xs:List Int} {f t:Int} (h:jaU b xs≠0):jgZ b xs f t=jaU b xs:=by rw [jgZ,if_pos h]
theorem jj6 {b:Fb} {xs:List Int} {f t:Int} (h:jaU b xs=0):jgZ b xs f t=ordS b.pts.length f t:=by rw [jgZ,if_neg (fun e=>e h)]
theorem f8_c (m:Md Tryz.prog B) (h:Hp) (rdp:Rp B h b pp np cp) (hp:np≤1000) (rdt:Rt B h b pt nt ct) (ht:nt≤1000) (rdk:Rk B h b pk nk ck) (hk:nk≤1000) {p:Option Addr} {n c:Nat} {xs:List Int} (rd:RdS B h 1 (.slice p n c) n (ints xs)) (hn:n≤1000) (x:Int):FnC m 8 #[fbV b pp np cp pt nt ct pk nk ck,.slice p n c,.int .i64 x] h fun v h'=>h'=h∧v=orNo (atS b xs x) (atI b.pts xs x):=by
 have hml:=rdp.elen (by decide)
 have hl:=rd.ilen
 refine jad Tryz.func8 rfl rfl (l:=(fbV b pp np cp pt nt ct pk nk ck)::(.slice p n c)::(.int .i64 x)::uu26) rfl ?_
 intro cf cs K hK
 refine rs3 ?_;refine jaq rfl zq (fun q3=>k_hp (jac ?_));refine d54 ?_;refine rs12 ?_;refine d77 ?_
 refine jae (Post:=jjp (jaU b xs) (fbV b pp np cp pt nt ct pk nk ck) xs) rfl zq (by kernel_rfl) (fun H' hH=>f44_c m H' (rdp.keeps (sq hH)) hp (rdt.keeps (sq hH)) ht (rdk.keeps (sq hH)) hk (rd.keeps (sq hH)) hn) ?_;rintro v ⟨x1,p1,n1,c1,p2,n2,c2,p3,n3,c3,yl,rfl,hz⟩;refine d92 ?_;refine jfi rfl zq ?_
 refine jaw rfl zq (fun q8=>k_hp (jac ?_));refine jaw rfl zq (fun q9=>k_hp (jac ?_));refine jaO rfl zq rfl ?_;refine jaO rfl zq (by first|rfl|exact jaf _) ?_;refine d108 ?_
 refine jaF rfl zq (fun hc=>?_) (fun hc=>?_)
 ·refine d146 ?_
  refine jab (h) rfl Tryz.func8 rfl jaa ?_;refine hK _ _ ?_;exact ⟨rfl,by rw [atS_h (by assumption),jc0 (by assumption)]⟩
 ·refine d36 ?_;refine rs4 ?_
  have hz0:jaU b xs=0:=by omega
  obtain ⟨hz1,rfl⟩:=hz hz0
  injection hz1 with hz1
  injection hz1 with hz1
  injection hz1 with z1 hz1
  injection hz1 with z2 hz1
  injection hz1 with z3 hz1
  injection hz1 with z4 hz1
  injection z1 with _ z1
  injection z2 with u1 u2 u3
  injection z3 with u4 u5 u6
  injection z4 with u7 u8 u9
  subst z1 u1 u2 u3 u4 u5 u6 u7 u8 u9
  obtain ⟨hzb,hzl⟩:=jcK hz0
  have hv:=jaH hzb
  obtain ⟨hln,hs⟩:=jeP hzl
  have hpo:=hv.pts
  have h1:=hpo.two
  have h5:=hpo.five
  refine d77 ?_
  refine jae (Post:=fun v=>IsB _ v) rfl zq (by kernel_rfl) (fun H' hH=>f45_c m H' _ (rdp.keeps (sq hH)) hp (by omega)) ?_;rintro v (⟨hc,rfl⟩|⟨hc,rfl⟩)
  ·refine d31 ?_;refine d9 ?_;refine rs6 ?_;refine jaT rfl zq ?_;refine d77 ?_
   refine jae (Post:=fun v=>v=_) rfl zq (by kernel_rfl) (fun H' hH=>f46_c m H' (rdp.keeps (sq hH)) hp (by omega) hpo hs _ (by assumption)) ?_;rintro v rfl;refine jac ?_;refine d34 ?_;refine jab (h) rfl Tryz.func8 rfl jaa ?_;refine hK _ _ ?_;first|exact ⟨rfl,by rw [atS_1 hz0 (by rw [hml];assumption),jc0 (by decide)]⟩|exact ⟨rfl,by rw [atS_0 hz0 (by rw [hml];assumption),ja3 rfl]⟩
  ·refine d33 ?_;refine d7 ?_;refine d179 ?_
   refine jab (h) rfl Tryz.func8 rfl jaa ?_;refine hK _ _ ?_;first|exact ⟨rfl,by rw [atS_1 hz0 (by rw [hml];assumption),jc0 (by decide)]⟩|exact ⟨rfl,by rw [atS_0 hz0 (by rw [hml];assumption),ja3 rfl]⟩
theorem f28_c (m:Md Tryz.prog B) (h:Hp) (rdp:Rp B h b pp np cp) (hp:np≤1000) (rdt:Rt B h b pt nt ct) (ht:nt≤1000) (rdk:Rk B h b pk nk ck) (hk:nk≤1000) {p:Option Addr} {n c:Nat} {xs:List Int} (rd:RdS B h 1 (.slice p n c) n (ints xs)) (hn:n≤1000):FnC m 28 #[fbV b pp np cp pt nt ct pk nk ck,.slice p n c] h fun v h'=>h'=h∧v=orNo (jaU b xs) (jcN b.pts xs):=by
 have hml:=rdp.elen (by decide)
 have hl:=rd.ilen
 refine jad Tryz.func28 rfl rfl (l:=(fbV b pp np cp pt nt ct pk nk ck)::(.slice p n c)::uu20) rfl ?_
 intro cf cs K hK
 refine rs3 ?_;refine jaq rfl zq (fun q2=>k_hp (jac ?_));refine d54 ?_;refine rs12 ?_;refine d77 ?_
 refine jae (Post:=jjp (jaU b xs) (fbV b pp np cp pt nt ct pk nk ck) xs) rfl zq (by kernel_rfl) (fun H' hH=>f44_c m H' (rdp.keeps (sq hH)) hp (rdt.keeps (sq hH)) ht (rdk.keeps (sq hH)) hk (rd.keeps (sq hH)) hn) ?_;rintro v ⟨x1,p1,n1,c1,p2,n2,c2,p3,n3,c3,yl,rfl,hz⟩;refine d92 ?_;refine jfi rfl zq ?_
 refine jaw rfl zq (fun q6=>k_hp (jac ?_));refine jaw rfl zq (fun q7=>k_hp (jac ?_));refine jaO rfl zq rfl ?_;refine jaO rfl zq (by first|rfl|exact jaf _) ?_;refine d108 ?_
 refine jaF rfl zq (fun hc=>?_) (fun hc=>?_)
 ·refine d146 ?_
  refine jab (h) rfl Tryz.func28 rfl jaa ?_;refine hK _ _ ?_;exact ⟨rfl,by rw [jc0 (by assumption)]⟩
 ·refine d9 ?_;refine rs5 ?_
  have hz0:jaU b xs=0:=by omega
  obtain ⟨hz1,rfl⟩:=hz hz0
  injection hz1 with hz1
  injection hz1 with hz1
  injection hz1 with z1 hz1
  injection hz1 with z2 hz1
  injection hz1 with z3 hz1
  injection hz1 with z4 hz1
  injection z1 with _ z1
  injection z2 with u1 u2 u3
  injection z3 with u4 u5 u6
  injection z4 with u7 u8 u9
  subst z1 u1 u2 u3 u4 u5 u6 u7 u8 u9
  obtain ⟨hzb,hzl⟩:=jcK hz0
  have hv:=jaH hzb
  obtain ⟨hln,hs⟩:=jeP hzl
  have hpo:=hv.pts
  have h1:=hpo.two
  have h5:=hpo.five
  refine d137 ?_
  refine jae (Post:=fun v=>v=_) rfl zq (by kernel_rfl) (fun H' hH=>f72_c m H' (rdp.keeps (sq hH)) hp hpo hs) ?_;rintro v rfl;refine jac ?_;refine d34 ?_;refine jab (h) rfl Tryz.func28 rfl jaa ?_;refine hK _ _ ?_;exact ⟨rfl,by rw [ja3 hz0]⟩
theorem f27_c (m:Md Tryz.prog B) (h:Hp) (rdp:Rp B h b pp np cp) (hp:np≤1000) (rdt:Rt B h b pt nt ct) (ht:nt≤1000) (rdk:Rk B h b pk nk ck) (hk:nk≤1000) {p:Option Addr} {n c:Nat} {xs:List Int} (rd:RdS B h 1 (.slice p n c) n (ints xs)) (hn:n≤1000) (f t:Int):FnC m 27 #[fbV b pp np cp pt nt ct pk nk ck,.slice p n c,.int .i64 f,.int .i64 t] h fun v h'=>h'=h∧v=orNo (jgZ b xs f t) (jcy b.pts xs f t):=by
 have hml:=rdp.elen (by decide)
 have hl:=rd.ilen
 refine jad Tryz.func27 rfl rfl (l:=(fbV b pp np cp pt nt ct pk nk ck)::(.slice p n c)::(.int .i64 f)::(.int .i64 t)::uu33) rfl ?_
 intro cf cs K hK
 refine rs3 ?_;refine jaq rfl zq (fun q4=>k_hp (jac ?_));refine d54 ?_;refine rs12 ?_;refine d77 ?_
 refine jae (Post:=jjp (jaU b xs) (fbV b pp np cp pt nt ct pk nk ck) xs) rfl zq (by kernel_rfl) (fun H' hH=>f44_c m H' (rdp.keeps (sq hH)) hp (rdt.keeps (sq hH)) ht (rdk.keeps (sq hH)) hk (rd.keeps (sq hH)) hn) ?_;rintro v ⟨x1,p1,n1,c1,p2,n2,c2,p3,n3,c3,yl,rfl,hz⟩;refine d92 ?_;refine jfi rfl zq ?_
 refine jaw rfl zq (fun q10=>k_hp (jac ?_));refine jaw rfl zq (fun q11=>k_hp (jac ?_));refine jaO rfl zq rfl ?_;refine jaO rfl zq (by first|rfl|exact jaf _) ?_;refine d108 ?_
 refine jaF rfl zq (fun hc=>?_) (fun hc=>?_)
 ·refine d146 ?_
  refine jab (h) rfl Tryz.func27 rfl jaa ?_;refine hK _ _ ?_;exact ⟨rfl,by rw [girthS_h (by assumption),jc0 (by assumption)]⟩
 ·refine d36 ?_;refine rs5 ?_
  have hz0:jaU b xs=0:=by omega
  obtain ⟨hz1,rfl⟩:=hz hz0
  injection hz1 with hz1
  injection hz1 with hz1
  injection hz1 with z1 hz1
  injection hz1 with z2 hz1
  injection hz1 with z3 hz1
  injection hz1 with z4 hz1
  injection z1 with _ z1
  injection z2 with u1 u2 u3
  injection z3 with u4 u5 u6
  injection z4 with u7 u8 u9
  subst z1 u1 u2 u3 u4 u5 u6 u7 u8 u9
  obtain ⟨hzb,hzl⟩:=jcK hz0
  have hv:=jaH hzb
  obtain ⟨hln,hs⟩:=jeP hzl
  have hpo:=hv.pts
  have h1:=hpo.two
  have h5:=hpo.five
  refine jaT rfl zq ?_;refine d3 ?_;refine jae (Post:=fun v=>v=_) rfl zq (by kernel_rfl) (fun H' hH=>f70_c m H' _ _ hp) ?_;rintro v rfl;refine d135 ?_
  refine jaF rfl zq (fun hc=>?_) (fun hc=>?_)
  ·refine d146 ?_
   refine jab (h) rfl Tryz.func27 rfl jaa ?_;refine hK _ _ ?_;exact ⟨rfl,by rw [jj6 hz0,hml,jc0 (by assumption)]⟩
  ·refine d9 ?_;refine rs8 ?_
   have hod:ordS b.pts.length f t=0:=by rw [hml];omega
   obtain ⟨hf0,hft,htn⟩:=jfR hod
   obtain ⟨f,rfl⟩: ∃k:Nat,f=k:=Int.eq_ofNat_of_zero_le (by omega)
   obtain ⟨t,rfl⟩: ∃k:Nat,t=k:=Int.eq_ofNat_of_zero_le (by omega)
   refine jaT rfl zq ?_;refine jf0 rfl zq (fun qm=>k_hp (jac ?_));refine jaT rfl zq ?_;refine d3 ?_;refine jjW (Post:=fun v es'=>OkE es'∧v=_) qm rfl zq (by kernel_rfl) (f71_c m _ qm [] OkE.nil (rdp.keeps SubH.sub) hp (by omega) hpo hs f t (by omega) (by omega)) ?_;rintro v es2 ⟨hes2,rfl⟩;refine jac ?_;refine d34 ?_;refine jab (h) rfl Tryz.func27 rfl jaa ?_;refine hK _ _ ?_;exact ⟨rfl,by rw [jj6 hz0,hod,ja3 rfl]⟩
theorem jeB {ys:List Int} (h:ys.length=5):padR ys=ys:=by
 have:=jh7 (l:=ys) (by omega)
 rw [h] at this
 rw [←this,List.take_of_length_le (by rw [jbp];omega)];rw [List.take_of_length_le (by rw [jbp];omega)] at this
 rw [this];exact this
theorem jjB {ys:List Int} (h:ys.length=5):rws ys=ints ys:=by rw [rws,jeB h]
theorem jlN (xs:List Int):rws xs=rws (padR xs):=by rw [rws,rws,jeB (jbp xs)]
theorem jh8 (xs:List Int) {k:Nat} (hk:k<5):(padR xs).getD k 0=xs.getD k 0:=by
 rw [List.getD_eq_getElem?_getD,jjI hk];rfl
theorem jgA {ys:List Int} {j:Int} {i:Nat} (a:Int) (hj:j=i) (hi:i<5) (hy:ys.length=5):SetSeg (rws ys) (0+j.toNat*1) [.int .i64 a] (rws (ys.set i a)):=by
 have:=setSeg_ints (xs:=ys) (junk:=[]) a hj (by omega)
 rw [List.append_nil,List.append_nil,←jjB hy,←jjB (ys:=ys.set i a) (by simp [hy])] at this
 exact this
theorem rws_ix (ys:List Int) {k:Nat} (hk:k<5):((rws ys).toArray)[(k:Int).toNat*1]?=some (.int .i64 (ys.getD k 0)):=by
 rw [Int.toNat_natCast,Nat.mul_one,List.getElem?_toArray,jiY hk]
theorem rdS_rwsT {h:Hp} {q n t:Nat} {rw:Bool} {f:Nat×Nat} {l:List Int} [x:Has h q rw (.cells (rws l).toArray t f)] (hl:l.length=5) (hn:n≤5) (c:Nat):RdS B h 1 (.slice (some ⟨q,0,none⟩) n c) n (ints (l.take n)):=
 ⟨_,c,rfl,by simp [hl,hn],.inr ⟨q,0,rfl,fun j hj=>by
  rw [Nat.zero_add];have hj':j<n:=by have:=List.length_map .. ▸hj;simp at this;omega
  refine Rd.held x.mem ?_
  rw [List.getElem?_toArray,jiY (by omega)];simp only [List.getD_eq_getElem?_getD,List.getElem?_map]
  rw [List.getElem?_take,if_pos hj',List.getElem?_eq_getElem (by omega)];rfl⟩⟩
theorem getD_set (l:List Int) (i k:Nat) (a:Int) (h:i<l.length):(l.set i a).getD k 0=if k=i then a else l.getD k 0:=by
 rw [List.getD_eq_getElem?_getD,List.getElem?_set];by_cases e:i=k
 ·subst e
  simp [h]
 ·rw [if_neg e,if_neg (fun e'=>e e'.symm),List.getD_eq_getElem?_getD]
def jf2 (b:Fb) (xs:List Int):List Int:=xs.map fun x=>max 0 (x-b.plank)
theorem jjb (b:Fb) (xs:List Int) {k:Nat} (h:k<xs.length):(jf2 b xs).getD k 0=max 0 (xs.getD k 0-b.plank):=by
 rw [jf2,List.getD_eq_getElem?_getD,List.getElem?_map,List.getD_eq_getElem?_getD,List.getElem?_eq_getElem h];rfl
theorem inner_eq {b:Fb} {xs y0 zs:List Int} {np:Nat} (hx:xs.length=np) (h5:np≤5) (hz:zs.length=5) (hy: ∀k,k<5→y0.getD k 0=xs.getD k 0) (h: ∀k,k<5→zs.getD k 0=if k<5 then max 0 (y0.getD k 0-b.plank) else y0.getD k 0):zs.take np=jf2 b xs:=by
 refine jhy (by simp [jf2];omega) fun k hk=>?_
 have hk':k<np:=by simp at hk;omega
 rw [jjb _ _ (by omega),←hy k (by omega)];have:=h k (by omega)
 rw [if_pos (by omega)] at this
 rw [←this,List.getD_eq_getElem?_getD,List.getD_eq_getElem?_getD,List.getElem?_take,if_pos hk']
theorem f73_c (m:Md Tryz.prog B) (h:Hp) {ys:List Int} (hy:ys.length=5) (hp5:np≤5):FnC m 73 #[fbV b pp np cp pt nt ct pk nk ck,rwV ys] h fun v h'=> ∃nw,h'=h++nw∧OwnS 3 1 v np (ints (ys.take np)) nw:=by
 refine jad Tryz.func73 rfl rfl (l:=(fbV b pp np cp pt nt ct pk nk ck)::(rwV ys)::uu9) rfl ?_
 intro cf cs K hK
 refine rs3 ?_;refine jaq rfl zq (fun q2=>k_hp (jac ?_));refine jaq rfl zq (fun q3=>k_hp (jac ?_));refine aq rfl ?_;refine rs7 ?_;refine d150 ?_
 refine k_slA (c:=np) rfl zq rfl (by omega) ?_;refine jat (Post:=fun v nw=>OwnS 3 1 v np (ints (ys.take np)) nw) rfl zq (by kernel_rfl) (fun H' hH=>f127_c m H' ((rdS_rwsT (q:=q3) hy (by omega) 5).keeps hH) (by omega)) ?_;rintro v nw o;refine jaL (jac ?_);refine d0 ?_
 refine jab (h++nw) rfl Tryz.func73 rfl jaa ?_;refine hK _ _ ?_;exact ⟨nw,rfl,o⟩
theorem f29_c (m:Md Tryz.prog B) (h:Hp) (rdp:Rp B h b pp np cp) (hp:np≤1000) (rdt:Rt B h b pt nt ct) (ht:nt≤1000) (rdk:Rk B h b pk nk ck) (hk:nk≤1000) {p:Option Addr} {n c:Nat} {xs:List Int} (rd:RdS B h 1 (.slice p n c) n (ints xs)) (hn:n≤1000):FnC m 29 #[fbV b pp np cp pt nt ct pk nk ck,.slice p n c] h fun v h'=> ∃new,h'=h++new∧ ∃w,v= .tuple [w,.int .i64 (jaU b xs)].toArray∧RdI B new w (if jaU b xs≠0 then [] else jf2 b xs):=by
 have hml:=rdp.elen (by decide)
 have hl:=rd.ilen
 refine jad Tryz.func29 rfl rfl (l:=(fbV b pp np cp pt nt ct pk nk ck)::(.slice p n c)::uu35) rfl ?_
 intro cf cs K hK
 refine rs3 ?_;refine jaq rfl zq (fun q2=>k_hp (jac ?_));refine d54 ?_;refine rs12 ?_;refine d77 ?_
 refine jae (Post:=jjp (jaU b xs) (fbV b pp np cp pt nt ct pk nk ck) xs) rfl zq (by kernel_rfl) (fun H' hH=>f44_c m H' (rdp.keeps (sq hH)) hp (rdt.keeps (sq hH)) ht (rdk.keeps (sq hH)) hk (rd.keeps (sq hH)) hn) ?_;rintro v ⟨x1,p1,n1,c1,p2,n2,c2,p3,n3,c3,yl,rfl,hz⟩;refine d92 ?_;refine jfi rfl zq ?_
 refine jaw rfl zq (fun q6=>k_hp (jac ?_));refine jaw rfl zq (fun q7=>k_hp (jac ?_));refine jaO rfl zq rfl ?_;refine jaO rfl zq (by first|rfl|exact jaf _) ?_;refine d108 ?_
 refine jaF rfl zq (fun hc=>?_) (fun hc=>?_)
 ·refine d146 ?_
  refine jab (h) rfl Tryz.func29 rfl jaa ?_;refine hK _ _ ?_;exact ⟨[],by simp,_,rfl,by rw [if_pos (by assumption)];exact RdI.nil⟩
 ·refine d36 ?_;refine rs2 ?_
  have hz0:jaU b xs=0:=by omega
  obtain ⟨hz1,rfl⟩:=hz hz0
  injection hz1 with hz1
  injection hz1 with hz1
  injection hz1 with z1 hz1
  injection hz1 with z2 hz1
  injection hz1 with z3 hz1
  injection hz1 with z4 hz1
  injection z1 with _ z1
  injection z2 with u1 u2 u3
  injection z3 with u4 u5 u6
  injection z4 with u7 u8 u9
  subst z1 u1 u2 u3 u4 u5 u6 u7 u8 u9
  obtain ⟨hzb,hzl⟩:=jcK hz0
  have hv:=jaH hzb
  obtain ⟨hln,hs⟩:=jeP hzl
  have hpo:=hv.pts
  have h1:=hpo.two
  have h5:=hpo.five
  obtain ⟨y0,hy0,hyl,hyk⟩: ∃y0:List Int,rws xs=rws y0∧y0.length=5∧ ∀k,k<5→y0.getD k 0=xs.getD k 0:=⟨padR xs,jlN xs,jbp xs,fun k hk=>jh8 xs hk⟩
  rw [show rwV xs=rwV y0 by rw [rwV,hy0],hy0];have hsy: ∀k,k<5→0≤y0.getD k 0∧y0.getD k 0≤959:=fun k hk=>by rw [hyk k hk];exact hs k
  have hpk:=hv.plank
  refine d77 ?_;refine d57 ?_
  refine jag (fun nn l h'=> ∃(j:Nat) (zs:List Int),nn=5-j∧(j≤5)∧(zs.length=5)∧(∀k,k<5→zs.getD k 0=if k<j then max 0 (y0.getD k 0-b.plank) else y0.getD k 0)∧(∃U:Nat→Value,l=((fbV b pp np cp pt nt ct pk nk ck)::(.slice p n c)::(.pointer (some ⟨q2,0,none⟩))::(U 3)::(U 4)::(U 5)::(.pointer (some ⟨q6,0,none⟩))::(.pointer (some ⟨q7,0,none⟩))::vw13 U 8 ((rwV y0)::(.int .i64 (j:Int))::vw14 U 23 [])))∧h++[⟨true,q2,.cells (fbL b pp np cp pt nt ct pk nk ck).toArray 26 (0,0)⟩,⟨true,q6,.cells (fbL b pp np cp pt nt ct pk nk ck).toArray 96 (0,0)⟩,⟨true,q7,.cells (rws zs).toArray 98 (0,0)⟩]=h') _ ⟨0,y0,rfl,by omega,hyl,fun k hk=>by rw [if_neg (by omega)],exU rfl,rfl⟩ ?_;rintro nn l h' ⟨j,zs,rfl,hj,hzl5,hzk,⟨U,rfl⟩,rfl⟩ hnext;have hsj:=hsy j
  refine rs1 ?_;refine jap rfl zq (fun hc=>?_) (fun hc=>?_)
  ·refine d106 ?_;refine d115 ?_
   refine k_ixv (v:= .int .i64 (y0.getD j 0)) rfl zq (by omega) (by omega) (rws_ix y0 (by omega)) ?_;refine d54 ?_;refine rr8 ?_;refine d3 ?_;refine d1 ?_;refine jcj rfl zq (by unfold In64;omega) ?_;refine jja rfl zq ?_;refine jdZ rfl zq (by omega) (by omega) ?_
   haveI hs1:=jgA (ys:=zs) (j:=(j:Int)) (i:=j) (max 0 (y0.getD j 0-b.plank)) rfl (by omega) hzl5
   refine d59 ?_;refine jay ?_;refine d78 ?_
   exact m.weak jaa (hnext _ _ _ (by omega) ⟨j+1,zs.set j (max 0 (y0.getD j 0-b.plank)),rfl,by omega,by simp [hzl5],fun k hk=>by
    rw [getD_set _ _ _ _ (by omega)];by_cases e:k=j
    ·subst e
     rw [if_pos rfl,if_pos (by omega)]
    ·rw [if_neg e,hzk k hk];by_cases e2:k<j
     ·rw [if_pos e2,if_pos (by omega)]
     ·rw [if_neg e2,if_neg (by omega)],exU rfl,rfl⟩)
  ·refine d107 ?_;refine rs5 ?_;refine d137 ?_
   obtain rfl:j=5:=by omega
   refine jat rfl zq (by kernel_rfl) (fun H' hH=>f73_c m H' hzl5 (by omega)) ?_;rintro v nw o;refine jaL (jac ?_);refine d34 ?_
   refine jab (h++nw) rfl Tryz.func29 rfl jaa ?_;refine hK _ _ ?_;exact ⟨nw,rfl,_,by rw [hz0],by rw [if_neg (fun e=>e hz0),←inner_eq (np:=np) (by omega) (by omega) hzl5 hyk hzk];exact OwnS.rdI o⟩
abbrev jg5 (b:Fb) (xs:List Int) (k:Nat):Int:=min (max (xs.getD k 0) (b.pts.getD k default).lo) (b.pts.getD k default).hi
theorem jjh {b:Fb} {xs y0 zs:List Int} {np:Nat} (hx:xs.length=np) (hb:b.pts.length=np) (hp:PtsOk b.pts) (h0:y0.length=5) (hz:zs.length=5) (hy: ∀k,k<5→y0.getD k 0=xs.getD k 0) (h: ∀k,k<5→zs.getD k 0=if k<np then jg5 b y0 k else y0.getD k 0):padR zs=padR y0↔je9 b xs:=by
 have h5:=hp.five
 rw [jeB hz,jeB h0];have hlo: ∀k,k<np→(b.pts.getD k default).lo≤(b.pts.getD k default).hi:=fun k hk=>(hp.ok _ (jai.2 ⟨k,by omega,rfl⟩)).2.1.2.1
 constructor
 ·rintro rfl i hi;have:=h i (by omega)
  rw [if_pos (by omega),jg5] at this
  have:=hy i (by omega)
  have:=hlo i (by omega)
  omega
 ·intro hs
  refine jhy (by omega) fun k hk=>?_
  rw [h k (by omega)];by_cases e:k<np
  ·have:=hs k (by omega)
   have:=hy k (by omega)
   rw [if_pos e,jg5];omega
  ·rw [if_neg e]
section
variable {P:Program} {B:Array Obj} {m:Md P B} {ops:Array Oper} {l l':List Value} {S h h' H:Hp} {C:List Value→Hp→Prop} {i:Nat} {kd:Kd} {r:List (Nat×Kd)}
 {d:Option Tmp} {ty:TypeId} {pos:String} {af:Array Edge} {g:Option (Nat×Bool)}
theorem k_eqR {t u e:Nat} {x y:Operand} {xs ys:List Int} (ho:ops[i]?=some ⟨d,.binOp .eql t x y u,ty,pos,af,g⟩) (hw:Wt ops l g) [KHeap kd S h H] [ex:OpV l x (.agg (rws xs).toArray)] [ey:OpV l y (.agg (rws ys).toArray)] [ArrayT P t 5 e 1] [Scal P e]
  (he:P.underlying e=some (.int .i64)) (hg:P.eqGuardType P.depth t=false) [PutV l d (.bool (decide (padR xs=padR ys))) l'] (q:RegK m S ops r l' h C):RegK m S ops ((i,kd)::r) l h C:=
 k_eqA (ex:=ex) (ey:=ey) (n:=5) ho hw he hg (jbp _) (jbp _) q
end
theorem f30_c (m:Md Tryz.prog B) (h:Hp) (rdp:Rp B h b pp np cp) (hp:np≤1000) (rdt:Rt B h b pt nt ct) (ht:nt≤1000) (rdk:Rk B h b pk nk ck) (hk:nk≤1000) {p:Option Addr} {n c:Nat} {xs:List Int} (rd:RdS B h 1 (.slice p n c) n (ints xs)) (hn:n≤1000):FnC m 30 #[fbV b pp np cp pt nt ct pk nk ck,.slice p n c] h fun v h'=>h'=h∧ ∃w,v= .tuple [w,.int .i64 (jaU b xs)].toArray∧IsB (jaU b xs=0∧je9 b xs∧jbO b xs) w:=by
 have hml:=rdp.elen (by decide)
 have hl:=rd.ilen
 refine jad Tryz.func30 rfl rfl (l:=(fbV b pp np cp pt nt ct pk nk ck)::(.slice p n c)::uu52) rfl ?_
 intro cf cs K hK
 refine rs3 ?_;refine jaq rfl zq (fun q2=>k_hp (jac ?_));refine d54 ?_;refine rs12 ?_;refine d77 ?_
 refine jae (Post:=jjp (jaU b xs) (fbV b pp np cp pt nt ct pk nk ck) xs) rfl zq (by kernel_rfl) (fun H' hH=>f44_c m H' (rdp.keeps (sq hH)) hp (rdt.keeps (sq hH)) ht (rdk.keeps (sq hH)) hk (rd.keeps (sq hH)) hn) ?_;rintro v ⟨x1,p1,n1,c1,p2,n2,c2,p3,n3,c3,yl,rfl,hz⟩;refine d92 ?_;refine jfi rfl zq ?_
 refine jaw rfl zq (fun q6=>k_hp (jac ?_));refine jaw rfl zq (fun q7=>k_hp (jac ?_));refine jaO rfl zq rfl ?_;refine jaO rfl zq (by first|rfl|exact jaf _) ?_;refine d108 ?_
 refine jaF rfl zq (fun hc=>?_) (fun hc=>?_)
 ·refine d146 ?_
  refine jab (h) rfl Tryz.func30 rfl jaa ?_;refine hK _ _ ?_;first
   |exact ⟨rfl,_,rfl,IsB.no (fun e=>absurd e.1 (by assumption))⟩
   |exact ⟨rfl,_,by rw [hz0],IsB.yes ⟨hz0,by assumption,by assumption⟩⟩
   |exact ⟨rfl,_,by rw [hz0],IsB.no (fun e=>absurd e.2.2 (by assumption))⟩
   |exact ⟨rfl,_,by rw [hz0],IsB.no (fun e=>absurd e.2.1 (by assumption))⟩
 ·refine d9 ?_;refine rs3 ?_
  have hz0:jaU b xs=0:=by omega
  obtain ⟨hz1,rfl⟩:=hz hz0
  injection hz1 with hz1
  injection hz1 with hz1
  injection hz1 with z1 hz1
  injection hz1 with z2 hz1
  injection hz1 with z3 hz1
  injection hz1 with z4 hz1
  injection z1 with _ z1
  injection z2 with u1 u2 u3
  injection z3 with u4 u5 u6
  injection z4 with u7 u8 u9
  subst z1 u1 u2 u3 u4 u5 u6 u7 u8 u9
  obtain ⟨hzb,hzl⟩:=jcK hz0
  have hv:=jaH hzb
  obtain ⟨hln,hs⟩:=jeP hzl
  have hpo:=hv.pts
  have h1:=hpo.two
  have h5:=hpo.five
  obtain ⟨y0,hy0,hyl,hyk⟩: ∃y0:List Int,rws xs=rws y0∧y0.length=5∧ ∀k,k<5→y0.getD k 0=xs.getD k 0:=⟨padR xs,jlN xs,jbp xs,fun k hk=>jh8 xs hk⟩
  rw [show rwV xs=rwV y0 by rw [rwV,hy0],hy0];have hsy: ∀k,k<5→0≤y0.getD k 0∧y0.getD k 0≤959:=fun k hk=>by rw [hyk k hk];exact hs k
  have hpk:=hv.plank
  refine jaT rfl zq ?_;refine jaw rfl zq (fun q9=>k_hp (jac ?_));refine jaO rfl zq (by first|rfl|exact jaf _) ?_;refine d25 ?_;refine rs4 ?_;refine d1 ?_;refine d130 ?_
  refine jag (fun nn l h'=> ∃(j:Nat) (zs:List Int),nn=np-j∧(j≤np)∧(zs.length=5)∧(∀k,k<5→zs.getD k 0=if k<j then jg5 b y0 k else y0.getD k 0)∧(∃U:Nat→Value,l=((fbV b pp np cp pt nt ct pk nk ck)::(.slice p n c)::(.pointer (some ⟨q2,0,none⟩))::(U 3)::(U 4)::(U 5)::(.pointer (some ⟨q6,0,none⟩))::(.pointer (some ⟨q7,0,none⟩))::(U 8)::(.pointer (some ⟨q9,0,none⟩))::vw14 U 10 ((.slice pp np cp)::(.int .i64 (np:Int))::(.int .i64 (j:Int))::vw27 U 27 [])))∧h++[⟨true,q2,.cells (fbL b pp np cp pt nt ct pk nk ck).toArray 26 (0,0)⟩,⟨true,q6,.cells (fbL b pp np cp pt nt ct pk nk ck).toArray 96 (0,0)⟩,⟨true,q7,.cells (rws y0).toArray 98 (0,0)⟩,⟨true,q9,.cells (rws zs).toArray 98 (0,0)⟩]=h') _ ⟨0,y0,rfl,by omega,hyl,fun k hk=>by rw [if_neg (by omega)],exU rfl,rfl⟩ ?_;rintro nn l h' ⟨j,zs,rfl,hj,hzl5,hzk,⟨U,rfl⟩,rfl⟩ hnext;refine rs1 ?_;refine jap rfl zq (fun hc=>?_) (fun hc=>?_)
  ·refine d106 ?_;refine rs6 ?_;refine mq rfl ?_
   obtain ⟨rdp_b,rdp_o,rfl⟩:=rdp.ptr (by omega)
   refine jaJ rfl zq (by first|rfl|assumption) (by omega) (by omega) ?_;refine jbf (vs:=[.int .i64 (b.pts.getD j default).h,.int .i64 (b.pts.getD j default).lo,.int .i64 (b.pts.getD j default).hi]) rfl zq rfl (rdp.eat j (by omega) (by omega)) ?_;refine jaw rfl zq (fun q11=>k_hp (jac ?_));refine k_as rfl zq ?_;refine d71 ?_;refine jah [(0,.pure),(1,.pure),(2,.pure),(4,.pure),(5,.pure),(8,.pure),(9,.pure),(3,.read),(6,.read),(7,.pure),(10,.read),(11,.pure),(12,.pure),(13,.free)] (by kernel_rfl) (by kernel_rfl) (List.Sublist.refl _) ?_;refine d139 ?_;refine d8 ?_;refine d8 ?_
   refine k_ld rfl zq (jcS j (by omega) (by omega)) ?_;refine jbb rfl zq ?_;refine jja rfl zq ?_;refine jbb rfl zq ?_;refine k_min rfl zq ?_;refine jdZ rfl zq (by omega) (by omega) ?_;haveI hs1:=jgA (ys:=zs) (j:=(j:Int)) (i:=j) (jg5 b y0 j) rfl (by omega) hzl5
   refine d59 ?_;refine jay ?_;refine d78 ?_
   exact m.weak jaa (hnext _ _ _ (by omega) ⟨j+1,zs.set j (jg5 b y0 j),rfl,by omega,by simp [hzl5],fun k hk=>by
    rw [getD_set _ _ _ _ (by omega)];by_cases e:k=j
    ·subst e
     rw [if_pos rfl,if_pos (by omega)]
    ·rw [if_neg e,hzk k hk];by_cases e2:k<j
     ·rw [if_pos e2,if_pos (by omega)]
     ·rw [if_neg e2,if_neg (by omega)],exU rfl,rfl⟩)
  ·refine d107 ?_;refine rs11 ?_;refine d137 ?_
   obtain rfl:j=np:=by omega
   have hcl:=jjh (by omega) hml hpo hyl hzl5 hyk hzk
   by_cases hsp:je9 b xs
   ·refine k_eqR (e:=3) rfl zq (by kernel_rfl) (by kernel_rfl) ?_;first|rw [decide_eq_true (hcl.2 hsp)]|rw [decide_eq_false (fun e=>hsp (hcl.1 e))]
    refine d104 ?_
    refine jf0 rfl rfl (fun qm=>k_hp (jac ?_));refine jaT rfl rfl ?_;refine jjW (Post:=fun v es'=>OkE es'∧IsB (jbO b xs) v) qm rfl rfl (by kernel_rfl) (by rw [←hy0];exact CallF.mono (f74_c m _ qm [] OkE.nil (rdp.keeps SubH.sub) hp (rdt.keeps SubH.sub) ht (rdk.keeps SubH.sub) hk (by omega) hv hs) fun v h' ⟨e',h1,h2,h3⟩=>⟨e',h1,h2,h3⟩) ?_;rintro v es2 ⟨hes2,(⟨hc,rfl⟩|⟨hc,rfl⟩)⟩
    ·refine d94 ?_;refine d34 ?_
     refine jab (h) rfl Tryz.func30 rfl jaa ?_;refine hK _ _ ?_;first
      |exact ⟨rfl,_,rfl,IsB.no (fun e=>absurd e.1 (by assumption))⟩
      |exact ⟨rfl,_,by rw [hz0],IsB.yes ⟨hz0,by assumption,by assumption⟩⟩
      |exact ⟨rfl,_,by rw [hz0],IsB.no (fun e=>absurd e.2.2 (by assumption))⟩
      |exact ⟨rfl,_,by rw [hz0],IsB.no (fun e=>absurd e.2.1 (by assumption))⟩
    ·refine d94 ?_;refine d34 ?_
     refine jab (h) rfl Tryz.func30 rfl jaa ?_;refine hK _ _ ?_;first
      |exact ⟨rfl,_,rfl,IsB.no (fun e=>absurd e.1 (by assumption))⟩
      |exact ⟨rfl,_,by rw [hz0],IsB.yes ⟨hz0,by assumption,by assumption⟩⟩
      |exact ⟨rfl,_,by rw [hz0],IsB.no (fun e=>absurd e.2.2 (by assumption))⟩
      |exact ⟨rfl,_,by rw [hz0],IsB.no (fun e=>absurd e.2.1 (by assumption))⟩
   ·refine k_eqR (e:=3) rfl zq (by kernel_rfl) (by kernel_rfl) ?_;first|rw [decide_eq_true (hcl.2 hsp)]|rw [decide_eq_false (fun e=>hsp (hcl.1 e))]
    refine d49 ?_;refine jau rfl zq ?_;refine d34 ?_
    refine jab (h) rfl Tryz.func30 rfl jaa ?_;refine hK _ _ ?_;first
     |exact ⟨rfl,_,rfl,IsB.no (fun e=>absurd e.1 (by assumption))⟩
     |exact ⟨rfl,_,by rw [hz0],IsB.yes ⟨hz0,by assumption,by assumption⟩⟩
     |exact ⟨rfl,_,by rw [hz0],IsB.no (fun e=>absurd e.2.2 (by assumption))⟩
     |exact ⟨rfl,_,by rw [hz0],IsB.no (fun e=>absurd e.2.1 (by assumption))⟩
end Go.Proofs
namespace Go.Proofs
open Go.Lo
open Go.Conc (G)
set_option maxRecDepth 100000
set_option synthInstance.maxSize 100000
set_option synthInstance.maxHeartbeats 1000000
set_option maxHeartbeats 4000000
variable {b:Fb} {pp:Option Addr} {np cp:Nat} {pt:Option Addr} {nt ct:Nat} {pk:Option Addr} {nk ck:Nat}
variable {B:Array Obj}
def okM (x:Sp):Prop:=0≤x.lo∧x.lo≤x.hi∧x.hi≤959∧x.hi-x.lo<3
theorem spanL_length (x:Sp):(spanL x).length=(x.hi-x.lo+1).toNat:=by simp [spanL]
theorem spanL_getD (x:Sp) (j:Nat) (h:j<(x.hi-x.lo+1).toNat):(spanL x).getD j 0=x.lo+j:=by
 rw [spanL,List.getD_eq_getElem?_getD,List.getElem?_map,List.getElem?_range h];rfl
def linesOf (ms:List Sp):List (List Int):=ms.foldl extL [[]]
theorem linesOf_take (ms:List Sp) (k:Nat) (h:k<ms.length):linesOf (ms.take (k+1))=extL (linesOf (ms.take k)) (ms.getD k default):=by
 rw [jfF ms k h,linesOf,List.foldl_append];rfl
theorem jmV (all:List (List Int)) (x:Sp) (k:Nat) (h:k<all.length):extL (all.take (k+1)) x=extL (all.take k) x++ext1 (all.getD k []) (spanL x):=by
 rw [jb0 all k h,extL,List.flatMap_append];simp [extL]
theorem jmW (l:List Int) (x:Sp) (j:Nat) (h:j<(x.hi-x.lo+1).toNat):ext1 l ((spanL x).take (j+1))=ext1 l ((spanL x).take j)++[l++[x.lo+j]]:=by
 rw [take_snoc' _ j (by rw [spanL_length];exact h),spanL_getD x j h,ext1,List.map_append];rfl
theorem extL_length (all:List (List Int)) (x:Sp):(extL all x).length=all.length*(x.hi-x.lo+1).toNat:=by
 induction all with
 |nil=>simp [extL]
 |cons a r ih=>
  have:extL (a::r) x=ext1 a (spanL x)++extL r x:=by simp [extL]
  rw [this,List.length_append,ih,ext1,List.length_map,spanL_length,List.length_cons,Nat.add_mul,Nat.one_mul];omega
theorem linesOf_small {ms:List Sp} (hk: ∀x∈ms,okM x): ∀k,k≤ms.length→(linesOf (ms.take k)).length≤3^k
 |0,_=>by simp [linesOf]
 |k+1,h=>by
  have ih:=linesOf_small hk k (by omega)
  have ho:=hk _ (jai.2 ⟨k,by omega,rfl⟩)
  rw [linesOf_take ms k (by omega),extL_length];unfold okM at ho
  exact Nat.mul_le_mul ih (by omega)
theorem mem_extL {all:List (List Int)} {x:Sp} {l:List Int}:l∈extL all x↔ ∃a∈all,∃n∈spanL x,l=a++[n]:=by
 simp only [extL,ext1,List.mem_flatMap,List.mem_map]
 constructor
 ·rintro ⟨a,ha,n,hn,rfl⟩;exact ⟨a,ha,n,hn,rfl⟩
 ·rintro ⟨a,ha,n,hn,rfl⟩;exact ⟨a,ha,n,hn,rfl⟩
theorem mem_spanL {x:Sp} {n:Int}:n∈spanL x↔x.lo≤n∧n≤x.hi:=by
 simp only [spanL,List.mem_map,List.mem_range]
 constructor
 ·rintro ⟨i,hi,rfl⟩;omega
 ·intro h
  exact ⟨(n-x.lo).toNat,by omega,by omega⟩
def jfP (ll:List (List Int)) (x:Sp) (k j:Nat):List (List Int):=extL (ll.take k) x++ext1 (ll.getD k []) ((spanL x).take j)
theorem jgN (ll:List (List Int)) (x:Sp) (k:Nat):jfP ll x k 0=extL (ll.take k) x:=by simp [jfP,ext1]
theorem jkE (ll:List (List Int)) (x:Sp) (k j:Nat) (h:j<(x.hi-x.lo+1).toNat):jfP ll x k (j+1)=jfP ll x k j++[ll.getD k []++[x.lo+j]]:=by
 rw [jfP,jmW _ _ _ h,←List.append_assoc];rfl
theorem jkF (ll:List (List Int)) (x:Sp) (k j:Nat) (hk:k<ll.length) (hj:(x.hi-x.lo+1).toNat≤j):jfP ll x k j=extL (ll.take (k+1)) x:=by
 rw [jfP,show (spanL x).take j=spanL x from List.take_of_length_le (by rw [spanL_length];exact hj),jmV ll x k hk]
theorem partL_le (ll:List (List Int)) (x:Sp) (k j:Nat) (hk:k<ll.length) (hx:x.hi-x.lo<3):(jfP ll x k j).length≤3*ll.length+3:=by
 rw [jfP,List.length_append,extL_length,ext1,List.length_map,List.length_take,List.length_take,spanL_length];have:min k ll.length*(x.hi-x.lo+1).toNat≤ll.length*3:=Nat.mul_le_mul (by omega) (by omega)
 omega
theorem mem_linesOf {ms:List Sp}: ∀{k:Nat} {l:List Int},k≤ms.length→(l∈linesOf (ms.take k)↔l.length=k∧ ∀i,i<k→(ms.getD i default).lo≤l.getD i 0∧l.getD i 0≤(ms.getD i default).hi)
 |0,l,_=>by
  simp only [List.take_zero,linesOf,List.foldl_nil,List.mem_singleton]
  constructor
  ·rintro rfl;exact ⟨rfl,fun i hi=>by omega⟩
  ·rintro ⟨h,_⟩;exact List.length_eq_zero_iff.1 h
 |k+1,l,h=>by
  rw [linesOf_take ms k (by omega),mem_extL];constructor
  ·rintro ⟨a,ha,n,hn,rfl⟩;obtain ⟨h1,h2⟩:=(mem_linesOf (by omega)).1 ha
   have hn':=mem_spanL.1 hn
   refine ⟨by simp [h1],fun i hi=>?_⟩
   rcases Nat.lt_or_ge i k with h3|h3
   ·have:=h2 i h3
    simp only [List.getD_eq_getElem?_getD] at this⊢
    rw [List.getElem?_append_left (by omega)];exact this
   ·obtain rfl:i=k:=by omega
    simp only [List.getD_eq_getElem?_getD] at hn'⊢
    rw [List.getElem?_append_right (by omega),h1,Nat.sub_self];exact hn'
  ·rintro ⟨h1,h2⟩;refine ⟨l.take k,(mem_linesOf (by omega)).2 ⟨by simp;omega,fun i hi=>?_⟩,l.getD k 0,mem_spanL.2 (h2 k (by omega)),?_⟩
   ·have:=h2 i (by omega)
    simp only [List.getD_eq_getElem?_getD] at this⊢
    rw [List.getElem?_take,if_pos hi];exact this
   ·rw [←take_snoc' l k (by omega),List.take_of_length_le (by omega)]
def spsOf (b:Fb):List Sp:=b.pts.map fun p=>⟨p.lo,p.hi⟩
abbrev spI (b:Fb) (i:Nat):Sp:=⟨(b.pts.getD i default).lo,(b.pts.getD i default).hi⟩
theorem jbl (b:Fb):(spsOf b).length=b.pts.length:=by simp [spsOf]
theorem jdJ (b:Fb) {i:Nat} (h:i<b.pts.length):(spsOf b).getD i default=spI b i:=by
 rw [spsOf,List.getD_eq_getElem?_getD,List.getElem?_map,spI,List.getD_eq_getElem?_getD,List.getElem?_eq_getElem h];rfl
theorem sps_ok {b:Fb} (hp:PtsOk b.pts): ∀x∈spsOf b,okM x:=fun x hx=>by
 obtain ⟨p,hp',rfl⟩:=List.mem_map.1 hx
 have:=hp.ok p hp'
 exact ⟨this.2.1.1,this.2.1.2.1,this.2.1.2.2,this.2.2⟩
def ja7 (b:Fb) (k:Nat):List (List Int):=linesOf ((spsOf b).take k)
theorem ji7 (b:Fb) {i:Nat} (h:i<b.pts.length):ja7 b (i+1)=extL (ja7 b i) (spI b i):=by
 rw [ja7,linesOf_take _ _ (by rw [jbl];exact h),jdJ b h];rfl
theorem jif {b:Fb} (hp:PtsOk b.pts) (k:Nat) (h:k≤b.pts.length):(ja7 b k).length≤243:=by
 have h1:=linesOf_small (sps_ok hp) k (by rw [jbl];exact h)
 have h2:=hp.five
 have h3:3^k≤3^5:=Nat.pow_le_pow_right (by omega) (by omega)
 unfold ja7
 omega
theorem jdR {b:Fb} {k:Nat} {l:List Int} (h:k≤b.pts.length):l∈ja7 b k↔l.length=k∧ ∀i,i<k→(b.pts.getD i default).lo≤l.getD i 0∧l.getD i 0≤(b.pts.getD i default).hi:=by
 rw [ja7,mem_linesOf (by rw [jbl];exact h)];constructor
 ·rintro ⟨h1,h2⟩;exact ⟨h1,fun i hi=>by have:=h2 i hi;rwa [jdJ b (by omega)] at this⟩
 ·rintro ⟨h1,h2⟩;exact ⟨h1,fun i hi=>by rw [jdJ b (by omega)];exact h2 i hi⟩
def boatsOf (b:Fb):List (List Int):=(ja7 b b.pts.length).filter fun l=>decide (jbO b l)
def boatsF (b:Fb) (ll:List (List Int)) (e:Nat):List (List Int):=(ll.take e).filter fun l=>decide (jbO b l)
theorem jlj (b:Fb) (ll:List (List Int)) (e:Nat) (h:e<ll.length) (hb:jbO b (ll.getD e [])):boatsF b ll (e+1)=boatsF b ll e++[ll.getD e []]:=by
 rw [boatsF,jb0 ll e h,List.filter_append,List.filter_cons,if_pos (decide_eq_true hb)];rfl
theorem jm8 (b:Fb) (ll:List (List Int)) (e:Nat) (h:e<ll.length) (hb: ¬jbO b (ll.getD e [])):boatsF b ll (e+1)=boatsF b ll e:=by
 rw [boatsF,jb0 ll e h,List.filter_append,List.filter_cons,if_neg (by simpa using hb)];simp [boatsF]
theorem boatsF_le (b:Fb) (ll:List (List Int)) (e:Nat):(boatsF b ll e).length≤ll.length:=by
 have:=List.length_filter_le (fun l=>decide (jbO b l)) (ll.take e)
 rw [List.length_take] at this
 unfold boatsF
 omega
theorem jjR {b:Fb} (hp:PtsOk b.pts) {l:List Int} (hl:l∈ja7 b b.pts.length):SmL l:=fun j=>by
 obtain ⟨h1,h2⟩:=(jdR (Nat.le_refl _)).1 hl
 by_cases h:j<l.length
 ·have h3:=h2 j (by omega)
  have h4:=hp.ok _ (jai.2 ⟨j,by omega,rfl⟩:b.pts.getD j default∈b.pts)
  unfold okPt at h4
  omega
 ·rw [getD_out _ _ (by omega)];omega
theorem jbG {b:Fb} {l:List Int}:l∈boatsOf b↔l.length=b.pts.length∧je9 b l∧jbO b l:=by
 rw [boatsOf,List.mem_filter,jdR (Nat.le_refl _),decide_eq_true_iff];exact ⟨fun ⟨⟨h1,h2⟩,h3⟩=>⟨h1,fun i hi=>h2 i (by omega),h3⟩,fun ⟨h1,h2,h3⟩=>⟨⟨h1,fun i hi=>h2 i (by omega)⟩,h3⟩⟩
theorem jbN {b:Fb} (hp:PtsOk b.pts) {l:List Int} (hl:l∈boatsOf b):SmL l:=jjR hp (List.mem_filter.1 hl).1
theorem f13_c (m:Md Tryz.prog B) (h:Hp) (rdp:Rp B h b pp np cp) (hp:np≤1000) (rdt:Rt B h b pt nt ct) (ht:nt≤1000) (rdk:Rk B h b pk nk ck) (hk:nk≤1000) (hv:FOk b):FnC m 13 #[fbV b pp np cp pt nt ct pk nk ck] h fun v h'=> ∃new,h'=h++new∧ ∃vs,RdS B new 1 v (boatsOf b).length vs∧RdE B new vs (boatsOf b):=by
 have hml:=rdp.elen (by decide)
 have hpo:=hv.pts
 have hv1:=hpo.five
 refine jad Tryz.func13 rfl rfl (l:=(fbV b pp np cp pt nt ct pk nk ck)::uu74) rfl ?_
 intro cf cs K hK
 refine rs2 ?_;refine jaq rfl zq (fun q1=>k_hp (jac ?_));refine aq rfl ?_;refine rs2 ?_
 refine k_bs kdq rfl zq (by decide) (by decide) rfl (fun q10=>k_hp (jac ?_));refine d10 ?_;refine d98 ?_
 refine jag (fun nn l h'=> ∃(i:Nat) (L:Hp) (pa:Option Addr) (na ca:Nat) (vs:List Value),nn=np-i∧(i≤np)∧(na=(ja7 b i).length)∧(RdS B L 1 (.slice pa na ca) na vs)∧(RdE B L vs (ja7 b i))∧(∃U:Nat→Value,l=((fbV b pp np cp pt nt ct pk nk ck)::(.pointer (some ⟨q1,0,none⟩))::(U 2)::(.slice pa na ca)::(.int .i64 (i:Int))::vw70 U 5 []))∧(h++[⟨true,q1,.cells (fbL b pp np cp pt nt ct pk nk ck).toArray 26 (0,0)⟩])++L=h') _ ⟨0,[⟨true,q10,.cells [.slice none 0 0].toArray 34 (0,0)⟩],some ⟨q10,0,none⟩,1,1,[.slice none 0 0],rfl,by omega,rfl,jdj (by rfl),RdE.nil.snoc (xs:=[]) rfl ⟨none,0,rfl,rfl,.inl ⟨rfl,rfl⟩⟩ (Nat.le_refl _),exU rfl,(by simp)⟩ ?_;rintro nn l h' ⟨i,L,pa,na,ca,vs,rfl,hi,hna,hra,hea,⟨U,rfl⟩,rfl⟩ hnext1;have hle:=jif hpo i (by omega)
 refine d158 ?_;refine d95 ?_
 refine jap rfl zq (fun hc=>?_) (fun hc=>?_)
 ·refine d75 ?_;refine d67 ?_;refine d98 ?_
  refine jag (fun nn l h'=> ∃(k:Nat) (M W:Hp) (w:Value) (ws:List Value),nn=na-k∧(k≤na)∧(OwnS 34 1 w (extL ((ja7 b i).take k) (spI b i)).length ws W)∧(RdE B M ws (extL ((ja7 b i).take k) (spI b i)))∧(∃U:Nat→Value,l=((fbV b pp np cp pt nt ct pk nk ck)::(.pointer (some ⟨q1,0,none⟩))::(U 2)::(.slice pa na ca)::(.int .i64 (i:Int))::w::(.int .i64 (k:Int))::vw68 U 7 []))∧(h++[⟨true,q1,.cells (fbL b pp np cp pt nt ct pk nk ck).toArray 26 (0,0)⟩])++L++M++W=h') _ ⟨0,[],[],_,[],rfl,by omega,OwnS.nil,RdE.nil,exU rfl,(by simp)⟩ ?_;rintro nn l h' ⟨k,M,W,w,ws,rfl,hk,how,hew,⟨U,rfl⟩,rfl⟩ hnext2;refine d114 ?_
  refine jap rfl zq (fun hc=>?_) (fun hc=>?_)
  ·refine d75 ?_;refine rs8 ?_
   have hok:okPt (b.pts.getD i default):=hpo.ok _ (jai.2 ⟨i,by omega,rfl⟩)
   unfold okPt at hok
   refine d1 ?_;refine mq rfl ?_
   obtain ⟨rdp_b,rdp_o,rfl⟩:=rdp.ptr (by omega)
   refine jaJ rfl zq (by first|rfl|assumption) (by omega) (by omega) ?_;refine d8 ?_;refine k_ld rfl zq (rdp.fat (v:= .int .i64 (b.pts.getD i default).lo) i 1 (by omega) (by omega) rfl) ?_;refine d39 ?_
   refine jag (fun nn l h'=> ∃(j:Nat) (n7:Int) (M3 W3:Hp) (w3:Value) (ws3:List Value),nn=((b.pts.getD i default).hi-(b.pts.getD i default).lo+1).toNat-j∧(n7=(b.pts.getD i default).lo+(j:Int))∧(j≤((b.pts.getD i default).hi-(b.pts.getD i default).lo+1).toNat)∧(OwnS 34 1 w3 (jfP (ja7 b i) (spI b i) k j).length ws3 W3)∧(RdE B M3 ws3 (jfP (ja7 b i) (spI b i) k j))∧(∃U:Nat→Value,l=((fbV b (some ⟨rdp_b,rdp_o,none⟩) np cp pt nt ct pk nk ck)::(.pointer (some ⟨q1,0,none⟩))::(U 2)::(.slice pa na ca)::(.int .i64 (i:Int))::w3::(.int .i64 (k:Int))::(.int .i64 n7)::vw67 U 8 []))∧(h++[⟨true,q1,.cells (fbL b (some ⟨rdp_b,rdp_o,none⟩) np cp pt nt ct pk nk ck).toArray 26 (0,0)⟩])++L++M3++W3=h') _ ⟨0,_,M,W,w,ws,rfl,by exact (Int.add_zero _).symm,by omega,by rw [jgN];exact how,by rw [jgN];exact hew,exU rfl,rfl⟩ ?_;rintro nn l h' ⟨j,n7,M3,W3,w3,ws3,rfl,rfl,hj,how3,hew3,⟨U,rfl⟩,rfl⟩ hnext3;refine jak ?_;refine rs9 ?_;refine mq rfl ?_;refine d1 ?_;refine d43 ?_;refine d8 ?_;refine k_ld rfl zq (rdp.fat (v:= .int .i64 (b.pts.getD i default).hi) i 2 (by omega) (by omega) rfl) ?_;refine ja1 rfl zq (fun hc=>?_) (fun hc=>?_)
   ·refine d75 ?_;refine rr13 ?_
    obtain ⟨ep,ec,ee,er⟩:=hea.2 k (by omega)
    have hlen:((ja7 b i).getD k []).length=i:=((jdR (by omega)).1 (jai.2 ⟨k,by omega,rfl⟩)).1
    have hpl:=partL_le (ja7 b i) (spI b i) k j (by omega) (by show (b.pts.getD i default).hi-(b.pts.getD i default).lo<3;omega)
    refine mq rfl ?_
    refine jf1 kdq rfl zq (fun q43=>k_hp (jac ?_));refine d3 ?_
    obtain ⟨hra_b,hra_o,rfl⟩:=hra.ptr (by omega)
    refine jaJ rfl zq (by first|rfl|assumption) (by omega) (by omega) ?_;refine k_ld (v:= .slice ep ((ja7 b i).getD k []).length ec) rfl zq (by rw [←ee];exact hra.vat k (by omega) (by omega)) ?_;refine jhr (F:=(h++[⟨true,q1,.cells (fbL b (some ⟨rdp_b,rdp_o,none⟩) np cp pt nt ct pk nk ck).toArray 26 (0,0)⟩])++L++M3++W3) rfl zq jaa OwnS.zero er.up (jdT _) (.inl rfl) (by omega) (by omega) (fun w6 n6 o6=>jac ?_);refine mq rfl ?_
    refine k_bs kdq rfl zq (by decide) (by decide) rfl (fun q50=>k_hp (jac ?_));refine jik (F:=(h++[⟨true,q1,.cells (fbL b (some ⟨rdp_b,rdp_o,none⟩) np cp pt nt ct pk nk ck).toArray 26 (0,0)⟩])++L++M3++W3) rfl zq rfl o6 kdq (by omega) (by omega) (fun w9 n9 o9=>jac ?_);obtain ⟨p9,c9,rfl,_⟩:=o9.len
    have r9:RdS B n9 1 (.slice p9 _ c9) _ _:=(o9.rd')
    refine k_bs kdq rfl zq (by decide) (by decide) rfl (fun q52=>k_hp (jac ?_));refine jmB (F:=(h++[⟨true,q1,.cells (fbL b (some ⟨rdp_b,rdp_o,none⟩) np cp pt nt ct pk nk ck).toArray 26 (0,0)⟩])++L++M3++n9) rfl zq rfl how3 (Weak.trans jaa (Weak.mid ((h++[⟨true,q1,.cells (fbL b (some ⟨rdp_b,rdp_o,none⟩) np cp pt nt ct pk nk ck).toArray 26 (0,0)⟩])++L++M3) W3 n9)) (.inl rfl) (by omega) (by omega) (fun w11 n11 o11=>jac ?_);refine d167 ?_
    have hps:=jkE (ja7 b i) (spI b i) k j (by show j<((b.pts.getD i default).hi-(b.pts.getD i default).lo+1).toNat;omega)
    exact hnext3 _ _ _ (by omega) ⟨j+1,_,M3++n9,n11,w11,ws3++[.slice p9 (0+((ja7 b i).getD k []).length+1) c9],rfl,by omega,by omega,by rw [hps,List.length_append];exact o11,by rw [hps];exact hew3.up.snoc (by simp) (by rw [jbg];exact r9.up) o9.cap,exU rfl,by simp⟩
   ·refine d41 ?_;refine d170 ?_
    rw [jkF _ _ _ _ (by omega) (by show ((b.pts.getD i default).hi-(b.pts.getD i default).lo+1).toNat≤j;omega)] at how3 hew3
    exact m.weak jaa (hnext2 _ _ _ (by omega) ⟨k+1,M3,W3,w3,ws3,rfl,by omega,how3,hew3,exU rfl,rfl⟩)
  ·refine d41 ?_;refine d149 ?_;refine d167 ?_
   obtain rfl:k=na:=by omega
   rw [List.take_of_length_le (by omega),←ji7 b (by omega)] at how hew
   obtain ⟨wp,wc,rfl,_⟩:=how.len
   refine m.weak (h':=(h++[⟨true,q1,.cells (fbL b pp np cp pt nt ct pk nk ck).toArray 26 (0,0)⟩])++M++W) jaa ?_
   exact hnext1 _ _ _ (by omega) ⟨i+1,M++W,wp,_,wc,ws,rfl,by omega,rfl,how.rd',hew.up,exU rfl,by simp⟩
 ·refine d41 ?_;refine rs1 ?_
  obtain rfl:np=i:=by omega
  refine d10 ?_;refine d98 ?_
  refine jag (fun nn l h'=> ∃(e:Nat) (W4:Hp) (w4:Value) (ws4:List Value),nn=na-e∧(e≤na)∧(OwnS 34 1 w4 (boatsF b (ja7 b np) e).length ws4 W4)∧(RdE B L ws4 (boatsF b (ja7 b np) e))∧(∃U:Nat→Value,l=((fbV b pp np cp pt nt ct pk nk ck)::(.pointer (some ⟨q1,0,none⟩))::(U 2)::(.slice pa na ca)::vw4 U 4 (w4::(.int .i64 (e:Int))::vw65 U 10 [])))∧(h++[⟨true,q1,.cells (fbL b pp np cp pt nt ct pk nk ck).toArray 26 (0,0)⟩])++L++W4=h') _ ⟨0,[],_,[],rfl,by omega,OwnS.nil,RdE.nil,exU rfl,(by simp)⟩ ?_;rintro nn l h' ⟨e,W4,w4,ws4,rfl,he,how4,hew4,⟨U,rfl⟩,rfl⟩ hnext4;have hbl:=boatsF_le b (ja7 b np) e
  refine d114 ?_
  refine jap rfl zq (fun hc=>?_) (fun hc=>?_)
  ·refine d97 ?_
   refine jah [(1,.pure),(2,.pure),(3,.pure),(0,.read),(4,.read),(5,.keep)] (by kernel_rfl) (by kernel_rfl) (List.Sublist.refl _) ?_;refine d3 ?_
   obtain ⟨hra_b,hra_o,rfl⟩:=hra.ptr (by omega)
   refine jaJ rfl zq (by first|rfl|assumption) (by omega) (by omega) ?_;obtain ⟨ep,ec,ee,er⟩:=hea.2 e (by omega)
   have hmem:(ja7 b np).getD e []∈(ja7 b np):=jai.2 ⟨e,by omega,rfl⟩
   have hlen:=((jdR (by omega)).1 hmem).1
   refine jaT rfl zq ?_;refine k_ld (v:= .slice ep ((ja7 b np).getD e []).length ec) rfl zq (by rw [←ee];exact hra.vat e (by omega) (by omega)) ?_;refine jae (Post:=fun v=>IsB _ v) rfl zq (by kernel_rfl) (fun H' hH=>f53_c m H' (rdp.keeps (sq hH)) hp (rdt.keeps (sq hH)) ht (rdk.keeps (sq hH)) hk (er.keeps (sq hH)) (by omega) (by omega) hv (jjR hpo (by rw [hml];exact hmem))) ?_;rintro v (⟨hc,rfl⟩|⟨hc,rfl⟩)
   ·refine jac ?_;refine d7 ?_;refine rr8 ?_;refine d3 ?_;refine d43 ?_;refine k_ld (v:= .slice ep ((ja7 b np).getD e []).length ec) rfl zq (by rw [←ee];exact hra.vat e (by omega) (by omega)) ?_;refine k_bs kdq rfl zq (by decide) (by decide) rfl (fun q72=>k_hp (jac ?_));refine jik (F:=(h++[⟨true,q1,.cells (fbL b pp np cp pt nt ct pk nk ck).toArray 26 (0,0)⟩])++L) rfl zq rfl how4 kdq (by omega) (by omega) (fun w19 n19 o19=>jac ?_);refine d167 ?_
    have hps:=jlj b (ja7 b np) e (by omega) (by assumption)
    exact m.weak jaa (hnext4 _ _ _ (by omega) ⟨e+1,n19,w19,ws4++[.slice ep ((ja7 b np).getD e []).length ec],rfl,by omega,by rw [hps,List.length_append];exact o19,by rw [hps];exact hew4.snoc rfl er (hea.cap (by omega) ee),exU rfl,rfl⟩)
   ·refine jac ?_;refine d105 ?_;have hps:=jm8 b (ja7 b np) e (by omega) (by assumption)
    exact m.weak jaa (hnext4 _ _ _ (by omega) ⟨e+1,W4,w4,ws4,rfl,by omega,by rw [hps];exact how4,by rw [hps];exact hew4,exU rfl,rfl⟩)
  ·refine d176 ?_
   refine jab ((h++L)++W4) rfl Tryz.func13 rfl jaa ?_;refine hK _ _ ?_;obtain rfl:e=na:=by omega
   have e1:boatsF b (ja7 b np) (ja7 b np).length=boatsOf b:=by rw [boatsF,List.take_length,boatsOf,hml]
   rw [hna,e1] at how4 hew4
   exact ⟨L++W4,by simp,ws4,how4.rd',hew4.up⟩
end Go.Proofs
