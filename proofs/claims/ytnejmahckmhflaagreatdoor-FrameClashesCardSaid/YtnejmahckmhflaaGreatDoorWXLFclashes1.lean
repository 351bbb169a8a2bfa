/- A part of the proof of a law: my own separation logic over the machine, and walks of the program. Condition of each theorem: as its statement says. -/
import Derived.Test.YtnejmahckmhflaaGreatDoorWB9
set_option linter.all false
namespace Go.Lo
open Go.Conc (G)
section
variable {B:Array Obj} {h:Hp}
theorem RdS.okp {k n c:Nat} {p:Option Addr} {ys:List Value} (rd:RdS B h k (.slice p n c) n ys):OkP p:=by
 obtain ⟨p',c',e,_,⟨rfl,_⟩|⟨b,o,rfl,_⟩⟩:=rd
 ·exact .inl (Value.slice.inj e).1
 ·exact .inr ⟨b,o,(Value.slice.inj e).1⟩
theorem RdS.cut {k n c:Nat} {p:Option Addr} {ys:List Value} (rd:RdS B h k (.slice p n c) n ys) {lo:Nat} (hlo:lo≤n) (hc:n≤c):RdS B h k (.slice (cutP k p c lo) (n-lo) (c-lo)) (n-lo) (ys.drop (lo*k)):=by
 obtain ⟨p',c',e,hl,hr⟩:=rd
 obtain ⟨rfl,_,rfl⟩:=Value.slice.inj e
 refine ⟨_,_,rfl,by rw [List.length_drop,hl,Nat.sub_mul],?_⟩
 rcases hr with ⟨rfl,rfl⟩|⟨b,o,rfl,rd⟩
 ·refine .inl ⟨?_,by omega⟩
  unfold cutP
  split<;>rfl
 ·have out: ∀o',(c=lo→o'=o)→(c≠lo→o'=o+lo*k)→RdN B h b o' (ys.drop (lo*k)):=fun o' h1 h2 j hj=>by
   rw [List.length_drop,hl] at hj
   have hne:c≠lo:=by
    rintro rfl;have:n=c:=by omega
    subst this
    omega
   have:=rd (lo*k+j) (by omega)
   rw [List.getD_eq_getElem?_getD] at this⊢
   rw [List.getElem?_drop,h2 hne,Nat.add_assoc];exact this
  unfold cutP
  split
  ·rename_i e1
   exact .inr ⟨b,o,rfl,out o (fun _=>rfl) (fun e=>absurd e1 e)⟩
  ·rename_i e1
   exact .inr ⟨b,o+lo*k,by simp [Addr.add_none],out _ (fun e=>absurd e e1) (fun _=>rfl)⟩
end
section
variable {P:Program} {B:Array Obj} {m:Md P B} {ops:Array Oper} {l l':List Value} {S h h' H:Hp} {C:List Value→Hp→Prop} {i:Nat} {kd:Kd} {r:List (Nat×Kd)}
 {d:Option Tmp} {ty:TypeId} {pos:String} {af:Array Edge} {g:Option (Nat×Bool)}
end
end Go.Lo
namespace Go.Proofs
open Go.Lo
open Go.Conc (G)
set_option maxRecDepth 100000
set_option synthInstance.maxHeartbeats 1000000
section
variable {P:Program} {B:Array Obj} {m:Md P B} {ops:Array Oper} {l l':List Value} {S h h' H:Hp} {C:List Value→Hp→Prop} {i:Nat} {kd:Kd} {r:List (Nat×Kd)}
 {d:Option Tmp} {ty:TypeId} {pos:String} {af:Array Edge} {g:Option (Nat×Bool)}
theorem k_eqlF {t u:TypeId} {x y:Operand} {a b:Int} {k:IntKind} (ho:ops[i]?=some ⟨d,.binOp .eql t x y u,ty,pos,af,g⟩) (hw:Wt ops l g) [kh:KHeap kd S h H] [ex:OpV l x (.int k a)] [ey:OpV l y (.int k b)] (e:a≠b) [pt:PutV l d (.bool false) l'] (q:RegK m S ops r l' h C):RegK m S ops ((i,kd)::r) l h C:=by
 have pq:=pt;rw [←decide_eq_false e] at pq;exact k_eql (l':=l') ho hw q
theorem k_gtrF {t u:TypeId} {x y:Operand} {a b:Int} {k:IntKind} (ho:ops[i]?=some ⟨d,.binOp .gtr t x y u,ty,pos,af,g⟩) (hw:Wt ops l g) [kh:KHeap kd S h H] [ex:OpV l x (.int k a)] [ey:OpV l y (.int k b)] (e: ¬b<a) [pt:PutV l d (.bool false) l'] (q:RegK m S ops r l' h C):RegK m S ops ((i,kd)::r) l h C:=by
 have pq:=pt;rw [←decide_eq_false e] at pq;exact k_gtr (l':=l') ho hw q
theorem k_gtrT {t u:TypeId} {x y:Operand} {a b:Int} {k:IntKind} (ho:ops[i]?=some ⟨d,.binOp .gtr t x y u,ty,pos,af,g⟩) (hw:Wt ops l g) [kh:KHeap kd S h H] [ex:OpV l x (.int k a)] [ey:OpV l y (.int k b)] (e:b<a) [pt:PutV l d (.bool true) l'] (q:RegK m S ops r l' h C):RegK m S ops ((i,kd)::r) l h C:=by
 have pq:=pt;rw [←decide_eq_true e] at pq;exact k_gtr (l':=l') ho hw q
theorem reads_eqBoolK {t:TypeId} (hb:P.underlying t=some .bool) (a c:Bool):Reads P B (Op.equal t (.bool a) (.bool c)) H (a==c):=by
 show Reads P B (Op.equalIn 10000 t (.bool a) (.bool c)) H (a==c)
 unfold Op.equalIn
 exact Reads.bind (still_und hb).reads (Reads.pure _)
theorem k_neqBF {t u:TypeId} {x y:Operand} {a c:Bool} (ho:ops[i]?=some ⟨d,.binOp .neq t x y u,ty,pos,af,g⟩) (hw:Wt ops l g) (hb:P.underlying t=some .bool) [KHeap kd S h H] [ex:OpV l x (.bool a)] [ey:OpV l y (.bool c)] (e:a=c) [PutV l d (.bool false) l'] (q:RegK m S ops r l' h C):RegK m S ops ((i,kd)::r) l h C:=
 RegK.rd (v:= .bool false) ho hw (by
  subst e
  simp only [execOp,ex.eq,ey.eq]
  refine Reads.value (Reads.bind (a:=()) (Reads.pure _) ?_)
  show Reads P B (Op.equal t (.bool a) (.bool a)>>=fun b=>pure (Value.bool !b)) H _
  have:=reads_eqBoolK (P:=P) (B:=B) (H:=H) hb a a
  rw [beq_self_eq_true] at this
  exact Reads.bind this (Reads.pure _)) q
end
end Go.Proofs
namespace Go.Proofs
open Go.Lo
open Go.Conc (G)
set_option maxRecDepth 100000
set_option synthInstance.maxSize 100000
set_option synthInstance.maxHeartbeats 1000000
set_option maxHeartbeats 4000000
variable {B:Array Obj}
theorem getD_drop (xs:List Int) (k:Nat) (h:k<xs.length):xs.drop k=xs.getD k 0::xs.drop (k+1):=by
 rw [List.drop_eq_getElem_cons h,List.getD_eq_getElem?_getD,List.getElem?_eq_getElem h];rfl
theorem f142_c (m:Md Tryz.prog B) (h:Hp) {p p2:Option Addr} {n c n2 c2:Nat} {xs ys:List Int} (rd:RdS B h 1 (.slice p n c) n (ints xs)) (hn:n≤1000000) (rd2:RdS B h 1 (.slice p2 n2 c2) n2 (ints ys)):FnC m 142 #[.slice p n c,.slice p2 n2 c2] h fun v h'=>h'=h∧IsB (before xs ys=true) v:=by
 have hl:=rd.ilen
 have hl2:=rd2.ilen
 refine fn_enter Tryz.func142 rfl rfl (l:=[.slice p n c,.slice p2 n2 c2,undef,undef,undef,undef,undef,undef,undef,undef,undef,undef,undef,undef,undef,undef,undef,undef,undef,undef,undef,undef,undef,undef,undef,undef,undef,undef,undef,undef,undef,undef,undef,undef,undef,undef,undef,undef,undef,undef,undef]) rfl ?_
 intro cf cs K hK
 refine d93 ?_;refine d142 ?_
 refine run_loop (fun nn l h'=> ∃(k:Nat),nn=n-k∧(k≤n)∧(k≤n2)∧(before xs ys=before (xs.drop k) (ys.drop k))∧(∃U:Nat→Value,l=((.slice p n c)::(.slice p2 n2 c2)::(U 2)::(U 3)::(U 4)::(.int .i64 (k:Int))::(U 6)::vw34 U 7 []))∧h=h') _ ⟨0,rfl,by omega,by omega,rfl,exU rfl,rfl⟩ ?_;rintro nn l h' ⟨k,rfl,hk,hk2,he,⟨U,rfl⟩,rfl⟩ hnext;refine run_seq ?_;refine rs10 ?_;refine d3 ?_;refine k_len rfl zq ?_;refine k_lssS rfl zq (fun hc=>?_) (fun hc=>?_)
 ·refine d23 ?_;refine k_mv rfl rfl ?_;refine k_len rfl rfl ?_
  refine k_lssS rfl rfl (fun hc=>?_) (fun hc=>?_)
  ·refine k_pickT rfl zq ?_;refine d98 ?_;refine run_seq ?_;refine run_draw [(0,.pure),(1,.pure),(2,.pure),(4,.pure),(5,.pure),(6,.pure),(3,.read),(7,.read),(8,.pure)] (by kernel_rfl) (by kernel_rfl) (List.Sublist.refl _) ?_;refine d3 ?_
   obtain ⟨rd_b,rd_o,rfl⟩:=rd.ptr (by omega)
   refine k_ixs rfl zq (by first|rfl|assumption) (by omega) (by omega) ?_;refine d3 ?_;obtain ⟨rd2_b,rd2_o,rfl⟩:=rd2.ptr (by omega)
   refine k_ixs rfl zq (by first|rfl|assumption) (by omega) (by omega) ?_;refine k_ld rfl zq (rd.iat k (by omega) (by omega)) ?_;refine k_ld rfl zq (rd2.iat k (by omega) (by omega)) ?_;refine k_neqS rfl zq (fun hc=>?_) (fun hc=>?_)
   ·refine d7 ?_;refine run_seq ?_
    refine run_draw [(0,.pure),(1,.pure),(2,.pure),(4,.pure),(5,.pure),(6,.pure),(3,.read),(7,.read),(8,.pure),(9,.pure)] (by kernel_rfl) (by kernel_rfl) (List.Sublist.refl _) ?_;refine d11 ?_;refine d11 ?_
    refine k_ld rfl zq (rd.iat k (by omega) (by omega)) ?_;refine k_ld rfl zq (rd2.iat k (by omega) (by omega)) ?_;refine k_lssS rfl zq (fun hc=>?_) (fun hc=>?_)
    ·refine d0 ?_
     refine run_res (h) rfl Tryz.func142 rfl weakSub ?_;refine hK _ _ ?_;exact ⟨rfl,IsB.yes (by rw [he,getD_drop xs k (by omega),getD_drop ys k (by omega),before,if_neg (by assumption)];exact decide_eq_true (by assumption))⟩
    ·refine d0 ?_
     refine run_res (h) rfl Tryz.func142 rfl weakSub ?_;refine hK _ _ ?_;exact ⟨rfl,IsB.no (by rw [he,getD_drop xs k (by omega),getD_drop ys k (by omega),before,if_neg (by assumption)];rw [decide_eq_true_iff];omega)⟩
   ·refine d13 ?_;refine d109 ?_
    exact m.weak weakSub (hnext _ _ _ (by omega) ⟨k+1,rfl,by omega,by omega,by
     rw [he,getD_drop xs k (by omega),getD_drop ys k (by omega),before,if_pos (by assumption)],exU rfl,rfl⟩)
  ·refine d73 ?_;refine d22 ?_;refine rs6 ?_;refine mq rfl ?_;refine d67 ?_;refine k_len rfl zq ?_
   refine k_lssS rfl zq (fun hc=>?_) (fun hc=>?_)
   ·refine d0 ?_
    refine run_res (h) rfl Tryz.func142 rfl weakSub ?_;refine hK _ _ ?_;first|exact ⟨rfl,IsB.yes (by rw [he,List.drop_eq_nil_of_le (by omega),getD_drop ys k (by omega)];rfl)⟩|exact ⟨rfl,IsB.no (by rw [he,show ys.drop k=[] from List.drop_eq_nil_of_le (by omega)];cases xs.drop k<;>simp [before])⟩
   ·refine d0 ?_
    refine run_res (h) rfl Tryz.func142 rfl weakSub ?_;refine hK _ _ ?_;first|exact ⟨rfl,IsB.yes (by rw [he,List.drop_eq_nil_of_le (by omega),getD_drop ys k (by omega)];rfl)⟩|exact ⟨rfl,IsB.no (by rw [he,show ys.drop k=[] from List.drop_eq_nil_of_le (by omega)];cases xs.drop k<;>simp [before])⟩
 ·refine d66 ?_;refine k_pickF rfl zq ?_;refine d75 ?_;refine rs6 ?_;refine mq rfl ?_;refine d67 ?_;refine k_len rfl zq ?_
  refine k_lssS rfl zq (fun hc=>?_) (fun hc=>?_)
  ·refine d0 ?_
   refine run_res (h) rfl Tryz.func142 rfl weakSub ?_;refine hK _ _ ?_;first|exact ⟨rfl,IsB.yes (by rw [he,List.drop_eq_nil_of_le (by omega),getD_drop ys k (by omega)];rfl)⟩|exact ⟨rfl,IsB.no (by rw [he,show ys.drop k=[] from List.drop_eq_nil_of_le (by omega)];cases xs.drop k<;>simp [before])⟩
  ·refine d0 ?_
   refine run_res (h) rfl Tryz.func142 rfl weakSub ?_;refine hK _ _ ?_;first|exact ⟨rfl,IsB.yes (by rw [he,List.drop_eq_nil_of_le (by omega),getD_drop ys k (by omega)];rfl)⟩|exact ⟨rfl,IsB.no (by rw [he,show ys.drop k=[] from List.drop_eq_nil_of_le (by omega)];cases xs.drop k<;>simp [before])⟩
theorem f67_c (m:Md Tryz.prog B) (h:Hp) {p p2:Option Addr} {n c n2 c2:Nat} {xs ys:List Int} (rd:RdS B h 1 (.slice p n c) n (ints xs)) (hn:n≤1000000) (rd2:RdS B h 1 (.slice p2 n2 c2) n2 (ints ys)):FnC m 67 #[.slice p n c,.slice p2 n2 c2] h fun v h'=>h'=h∧IsB (fewer xs ys) v:=by
 have hl:=rd.ilen
 have hl2:=rd2.ilen
 refine fn_enter Tryz.func67 rfl rfl (l:=(.slice p n c)::(.slice p2 n2 c2)::uu20) rfl ?_
 intro cf cs K hK
 refine d93 ?_
 refine run_region [(0,.free),(1,.free),(2,.free),(3,.free),(4,.free),(5,.free),(6,.free),(7,.free),(8,.free),(9,.free),(10,.free),(11,.free),(12,.free),(13,.free),(14,.free),(15,.free),(16,.free),(17,.free)] (by kernel_rfl) (by kernel_rfl) ?_;refine mq rfl ?_;refine d67 ?_;refine k_len rfl zq ?_
 refine k_lssS rfl zq (fun hc=>?_) (fun hc=>?_)
 ·refine d115 ?_;refine d5 ?_;refine d92 ?_
  refine run_res (h) rfl Tryz.func67 rfl weakSub ?_;refine hK _ _ ?_;unfold fewer
  rw [hl,hl2];first|exact ⟨rfl,IsB.yes (.inl (by omega))⟩|exact ⟨rfl,IsB.yes (.inr ⟨by omega,by assumption⟩)⟩|exact ⟨rfl,IsB.no (by rintro (h1|⟨h1,h2⟩)<;>first|omega|contradiction)⟩
 ·refine d23 ?_;refine k_len rfl rfl ?_;refine k_mv rfl rfl ?_;refine k_len rfl rfl ?_
  refine k_eqlS rfl rfl (fun hc=>?_) (fun hc=>?_)
  ·refine k_mv rfl rfl ?_;refine k_mv rfl rfl ?_;refine k_mv rfl rfl ?_;refine k_calP (Post:=fun v=>IsB _ v) rfl rfl (by kernel_rfl) (fun H' hH=>f142_c m H' (rd.keeps hH) hn (rd2.keeps hH)) ?_;rintro v (⟨hc,rfl⟩|⟨hc,rfl⟩)
   ·refine k_put ?_;refine k_pickT rfl rfl ?_;refine d108 ?_;refine run_res (h) rfl Tryz.func67 rfl weakSub ?_;refine hK _ _ ?_;unfold fewer
    rw [hl,hl2];first|exact ⟨rfl,IsB.yes (.inl (by omega))⟩|exact ⟨rfl,IsB.yes (.inr ⟨by omega,by assumption⟩)⟩|exact ⟨rfl,IsB.no (by rintro (h1|⟨h1,h2⟩)<;>first|omega|contradiction)⟩
   ·refine k_put ?_;refine k_pickT rfl rfl ?_;refine d108 ?_;refine run_res (h) rfl Tryz.func67 rfl weakSub ?_;refine hK _ _ ?_;unfold fewer
    rw [hl,hl2];first|exact ⟨rfl,IsB.yes (.inl (by omega))⟩|exact ⟨rfl,IsB.yes (.inr ⟨by omega,by assumption⟩)⟩|exact ⟨rfl,IsB.no (by rintro (h1|⟨h1,h2⟩)<;>first|omega|contradiction)⟩
  ·refine k_mv rfl rfl ?_;refine d5 ?_;refine k_off rfl rfl ?_;refine k_pickF rfl rfl ?_;refine d108 ?_;refine run_res (h) rfl Tryz.func67 rfl weakSub ?_;refine hK _ _ ?_;unfold fewer
   rw [hl,hl2];first|exact ⟨rfl,IsB.yes (.inl (by omega))⟩|exact ⟨rfl,IsB.yes (.inr ⟨by omega,by assumption⟩)⟩|exact ⟨rfl,IsB.no (by rintro (h1|⟨h1,h2⟩)<;>first|omega|contradiction)⟩
theorem asc_at {xs:List Int} (h:Asc xs) {i j:Nat} (hij:i<j) (hj:j<xs.length):xs.getD i 0<xs.getD j 0:=by
 rw [List.getD_eq_getElem?_getD,List.getD_eq_getElem?_getD,List.getElem?_eq_getElem (show i<xs.length by omega),List.getElem?_eq_getElem hj];exact List.pairwise_iff_getElem.1 h i j (by omega) hj hij
theorem f63_c (m:Md Tryz.prog B) (h:Hp) {p:Option Addr} {n c:Nat} {xs:List Int} (rd:RdS B h 1 (.slice p n c) n (ints xs)) (hn:n≤1000) {N:Int} (hN:0≤N∧N≤1000) (ha:Asc xs) (hr: ∀x∈xs,0≤x∧x≤N-1):FnC m 63 #[.slice p n c,.int .i64 N] h fun v h'=>h'=h∧v= .int .i64 0:=by
 have hl:=rd.ilen
 refine fn_enter Tryz.func63 rfl rfl (l:=(.slice p n c)::(.int .i64 N)::uu32) rfl ?_
 intro cf cs K hK
 refine d93 ?_;refine d142 ?_
 refine run_loop (fun nn l h'=> ∃(k:Nat),nn=n-k∧(k≤n)∧(∃U:Nat→Value,l=((.slice p n c)::(.int .i64 N)::(U 2)::(U 3)::(U 4)::(.int .i64 (k:Int))::(U 6)::vw27 U 7 []))∧h=h') _ ⟨0,rfl,by omega,exU rfl,rfl⟩ ?_;rintro nn l h' ⟨k,rfl,hk,⟨U,rfl⟩,rfl⟩ hnext;refine run_seq ?_;refine d120 ?_;refine k_lssS rfl zq (fun hc=>?_) (fun hc=>?_)
 ·refine d98 ?_;refine run_seq ?_;refine rs8 ?_;refine d3 ?_
  obtain ⟨rd_b,rd_o,rfl⟩:=rd.ptr (by omega)
  refine k_ixs rfl zq (by first|rfl|assumption) (by omega) (by omega) ?_;refine k_ld rfl zq (rd.iat k (by omega) (by omega)) ?_;refine d36 ?_
  refine k_calP (Post:=fun v=>IsB _ v) rfl zq (by kernel_rfl) (fun H' hH=>f55_c m H' _ _ _) ?_;rintro v (⟨hc,rfl⟩|⟨hc,rfl⟩)
  ·refine d43 ?_;refine d37 ?_
   refine run_draw [(0,.pure),(1,.pure),(2,.pure),(3,.pure),(4,.pure),(5,.pure),(7,.pure),(8,.pure),(9,.pure),(10,.pure),(6,.read),(11,.read),(12,.pure),(13,.pure)] (by kernel_rfl) (by kernel_rfl) (List.Sublist.refl _) ?_;refine mq rfl ?_
   refine k_gtrS rfl zq (fun hc=>?_) (fun hc=>?_)
   ·refine d23 ?_;refine d130 ?_;refine k_mv rfl rfl ?_;refine d80 ?_
    refine k_ld rfl rfl (rd.iat k (by omega) (by omega)) ?_;refine k_ld rfl rfl (rd.iat (k-1) (by omega) (by omega)) ?_;have hlt:=asc_at ha (i:=k-1) (j:=k) (by omega) (by omega)
    refine k_leqS rfl rfl (fun hc=>?_) (fun hc=>?_)
    ·exfalso
     omega
    ·refine k_pickT rfl zq ?_;refine d13 ?_;refine d109 ?_;exact m.weak weakSub (hnext _ _ _ (by omega) ⟨k+1,rfl,by omega,exU rfl,rfl⟩)
   ·refine d115 ?_;refine d5 ?_;refine d126 ?_;refine d109 ?_
    exact m.weak weakSub (hnext _ _ _ (by omega) ⟨k+1,rfl,by omega,exU rfl,rfl⟩)
  ·refine k_put ?_;exact absurd (hr _ (mem_getD.2 ⟨k,by omega,rfl⟩)) hc
 ·refine d75 ?_;refine d38 ?_
  refine run_res (h) rfl Tryz.func63 rfl weakSub ?_;refine hK _ _ ?_;exact ⟨rfl,rfl⟩
theorem f66_c (m:Md Tryz.prog B) (h:Hp) {p:Option Addr} {n c:Nat} {xs:List Int} (rd:RdS B h 1 (.slice p n c) n (ints xs)) (hn:n≤1000) (hnc:n≤c) (i:Nat) (hi:i<n):FnC m 66 #[.slice p n c,.int .i64 (i:Int)] h fun v h'=> ∃nw,h'=h++nw∧OwnS 3 1 v (n-1) (ints (xs.take i++xs.drop (i+1))) nw:=by
 have hl:=rd.ilen
 refine fn_enter Tryz.func66 rfl rfl (l:=(.slice p n c)::(.int .i64 (i:Int))::uu13) rfl ?_
 intro cf cs K hK
 refine d93 ?_
 refine run_draw [(1,.pure),(2,.pure),(3,.pure),(5,.pure),(6,.pure),(7,.pure),(8,.pure),(0,.keep),(4,.free),(9,.free),(10,.pure)] (by kernel_rfl) (by kernel_rfl) (List.Sublist.refl _) ?_;refine d3 ?_
 refine k_slTo (b:=i) rfl zq rd.okp rfl (by omega) ?_;refine d3 ?_;refine k_add rfl zq (by unfold In64;omega) ?_
 refine k_slFrom (a:=i+1) rfl zq rfl (by omega) ?_;refine k_bs0 kdq rfl zq (fun q5=>k_hp (k_put ?_));refine k_app (F:=h) rfl zq weakSub OwnS.zero (rd.pre (m:=i) (by omega)).up (fun u hu=>ints_one _ u (List.mem_of_mem_take hu)) kdq (by omega) (by omega) (fun w9 n9 o9=>k_put ?_);refine k_app (F:=h) rfl zq weakSub o9 (rd.cut (lo:=i+1) (by omega) hnc).up (fun u hu=>ints_one _ u (List.mem_of_mem_drop hu)) kdq (by omega) (by omega) (fun w8 n8 o8=>k_put ?_);refine d0 ?_
 refine run_res (h++n8) rfl Tryz.func66 rfl weakSub ?_;refine hK _ _ ?_;refine ⟨n8,rfl,?_⟩
 have e:[]++(ints xs).take (i*1)++(ints xs).drop ((i+1)*1)=ints (xs.take i++xs.drop (i+1)):=by simp [List.map_take,List.map_drop]
 rw [e,show 0+i+(n-(i+1))=n-1 by omega] at o8
 exact o8
section
variable {P:Program} {B:Array Obj} {m:Md P B} {ops:Array Oper} {l l':List Value} {S h h' H:Hp} {C:List Value→Hp→Prop} {i:Nat} {kd:Kd} {r:List (Nat×Kd)}
 {d:Option Tmp} {ty:TypeId} {pos:String} {af:Array Edge} {g:Option (Nat×Bool)}
end
section
variable {P:Program} {B:Array Obj} {m:Md P B} {ops:Array Oper} {l l':List Value} {S h h' H:Hp} {C:List Value→Hp→Prop} {i:Nat} {kd:Kd} {r:List (Nat×Kd)}
 {d:Option Tmp} {ty:TypeId} {pos:String} {af:Array Edge} {g:Option (Nat×Bool)}
end
end Go.Proofs
namespace Go.Proofs
open Go.Lo
set_option maxRecDepth 100000
set_option maxHeartbeats 4000000
theorem but_facts {g:List Int} (ha:Asc g) {n:Int} (hx: ∀x∈g,0≤x∧x<n) {i:Nat} (hi:i<g.length):Asc (g.take i++g.drop (i+1))∧(∀x∈g.take i++g.drop (i+1),0≤x∧x<n)∧fewer (g.take i++g.drop (i+1)) g:=by
 have hs:(g.take i++g.drop (i+1)).Sublist g:=by
  have h1:(g.take i++g.drop (i+1)).Sublist (g.take i++g.drop i):=(List.Sublist.refl _).append (List.drop_sublist_drop_left g (by omega))
  rwa [List.take_append_drop] at h1
 refine ⟨List.Pairwise.sublist hs ha,fun x h=>hx x (hs.subset h),.inl ?_⟩
 rw [List.length_append,List.length_take,List.length_drop];omega
theorem onlyI_nil {b:Fb} (v:FOk b):boatsOf (onlyI b [])≠[]:=fun e=>by
 have:(b.pts.map (·.lo))∈boatsOf (onlyI b []):=mem_boats.2 ⟨by simp [onlyI],fun i hi=>by
  rw [List.length_map] at hi
  have hk:=v.pts.ok _ (mem_getDR.2 ⟨i,hi,rfl⟩)
  obtain ⟨_,⟨h1,h2,h3⟩,_⟩:=hk
  have e1:(b.pts.map (·.lo)).getD i 0=(b.pts.getD i default).lo:=by
   rw [List.getD_eq_getElem?_getD,List.getD_eq_getElem?_getD,List.getElem?_map,List.getElem?_eq_getElem hi];rfl
  rw [e1];exact ⟨Int.le_refl _,h2⟩,⟨fun t ht=>by simp [onlyI,onlyT] at ht,fun t ht=>by simp [onlyI,onlyK] at ht⟩⟩
 rw [e] at this
 simp at this
theorem g_split {b:Fb}: ∀{g:List Int},Asc g→gT b g++(gK b g).map (· +(b.tapes.length:Int))=g
 |[],_=>rfl
 |x::r,h=>by
  obtain ⟨h1,h2⟩:=List.pairwise_cons.1 h
  have ih:=g_split (b:=b) h2
  by_cases e:x<b.tapes.length
  ·have e1:gT b (x::r)=x::gT b r:=by unfold gT;rw [List.filter_cons,if_pos (isT_yes e)]
   have e2:gK b (x::r)=gK b r:=by unfold gK;rw [List.filter_cons,if_neg (by rw [isT_yes e];simp)]
   rw [e1,e2,List.cons_append,ih]
  ·have e0: ∀y∈r,¬y<b.tapes.length:=fun y hy=>by have:=h1 y hy;omega
   have e1:gT b (x::r)=[]:=by
    unfold gT
    refine List.filter_eq_nil_iff.2 fun y hy=>?_
    unfold isT
    rw [decide_eq_true_iff];rcases List.mem_cons.1 hy with rfl|hy
    ·exact e
    ·exact e0 y hy
   have e2:gT b r=[]:=by
    unfold gT
    refine List.filter_eq_nil_iff.2 fun y hy=>?_
    unfold isT
    rw [decide_eq_true_iff];exact e0 y hy
   rw [e2,List.nil_append] at ih
   have e3:gK b (x::r)=(x-(b.tapes.length:Int))::gK b r:=by unfold gK;rw [List.filter_cons,if_pos (by rw [isT_no e];rfl)];rfl
   rw [e1,e3,List.nil_append,List.map_cons,ih];simp
theorem gT_asc {b:Fb} {g:List Int} (h:Asc g):Asc (gT b g):=asc_filter h _
theorem gK_asc {b:Fb} {g:List Int} (h:Asc g):Asc (gK b g):=asc_shift (asc_filter h _) _
theorem gT_in {b:Fb} {g:List Int} (h:InB b g): ∀x∈gT b g,0≤x∧x<b.tapes.length:=fun x hx=>by
 obtain ⟨h1,h2⟩:=List.mem_filter.1 hx
 exact ⟨(h x h1).1,of_decide_eq_true h2⟩
theorem gK_in {b:Fb} {g:List Int} (h:InB b g): ∀x∈gK b g,0≤x∧x<b.sticks.length:=fun x hx=>by
 obtain ⟨y,h1,rfl⟩:=List.mem_map.1 hx
 obtain ⟨h1,h2⟩:=List.mem_filter.1 h1
 have h2: ¬y<b.tapes.length:=of_decide_eq_false (by simpa [isT] using h2)
 have:=h y h1
 unfold allN at this
 omega
theorem g_len {b:Fb} {g:List Int} (h:Asc g):(gT b g).length+(gK b g).length=g.length:=by
 have:=congrArg List.length (g_split (b:=b) h)
 rwa [List.length_append,List.length_map] at this
end Go.Proofs
namespace Go.Proofs
open Go.Lo
open Go.Conc (G)
set_option maxRecDepth 100000
set_option synthInstance.maxSize 100000
set_option synthInstance.maxHeartbeats 1000000
set_option maxHeartbeats 4000000
variable {b:Fb} {pp:Option Addr} {np cp:Nat} {pt:Option Addr} {nt ct:Nat} {pk:Option Addr} {nk ck:Nat}
variable {B:Array Obj}
theorem f65_c (m:Md Tryz.prog B) (h:Hp) (rdt:Rt B h b pt nt ct) (ht:nt≤1000) (rdk:Rk B h b pk nk ck) (hk:nk≤1000) {p:Option Addr} {n c:Nat} {xs:List Int} (rd:RdS B h 1 (.slice p n c) n (ints xs)) (hn:n≤1000) (hx:InB b xs):FnC m 65 #[fbV b pp np cp pt nt ct pk nk ck,.slice p n c] h fun v h'=> ∃new,h'=h++new∧ ∃tp tc kp kc,v=fbV (onlyI b xs) pp np cp tp (onlyT b xs).length tc kp (onlyK b xs).length kc∧RdS B new 4 (.slice tp (onlyT b xs).length tc) (onlyT b xs).length (encs (onlyT b xs))∧RdS B new 3 (.slice kp (onlyK b xs).length kc) (onlyK b xs).length (encs (onlyK b xs))∧(onlyT b xs).length≤tc∧(onlyK b xs).length≤kc:=by
 have htl0:=rdt.elen (by decide)
 have hkl0:=rdk.elen (by decide)
 have hxl:=rd.ilen
 unfold InB allN at hx
 refine fn_enter Tryz.func65 rfl rfl (l:=(fbV b pp np cp pt nt ct pk nk ck)::(.slice p n c)::uu53) rfl ?_
 intro cf cs K hK
 refine rs2 ?_;refine k_box rfl zq (fun q2=>k_hp (k_put ?_));refine k_new rfl zq (fun q4=>k_hp (k_put ?_));refine k_nil ?_;refine d94 ?_;refine k_new rfl zq (fun q5=>k_hp (k_put ?_));refine d48 ?_;refine rs4 ?_;refine d50 ?_;refine d50 ?_;refine d24 ?_;refine d142 ?_
 refine run_loop (fun nn l h'=> ∃(k:Nat) (tp:Option Addr) (tc:Nat) (nT:Hp) (kp:Option Addr) (kc:Nat) (nK:Hp),nn=n-k∧(k≤n)∧(OwnS 99 4 (.slice tp (onlyT b (xs.take k)).length tc) (onlyT b (xs.take k)).length (encs (onlyT b (xs.take k))) nT)∧(OwnS 73 3 (.slice kp (onlyK b (xs.take k)).length kc) (onlyK b (xs.take k)).length (encs (onlyK b (xs.take k))) nK)∧(∃U:Nat→Value,l=((fbV b pp np cp pt nt ct pk nk ck)::(.slice p n c)::(.pointer (some ⟨q2,0,none⟩))::(U 3)::(.pointer (some ⟨q4,0,none⟩))::(.pointer (some ⟨q5,0,none⟩))::(.int .i64 (k:Int))::vw48 U 7 []))∧h++[⟨true,q2,.cells (fbL b pp np cp pt nt ct pk nk ck).toArray 26 (0,0)⟩,⟨true,q4,.cells ([.int .i64 0,.slice none 0 0,.slice none 0 0,.slice none 0 0]:List Value).toArray 26 (0,0)⟩,⟨true,q5,.cells ([.int .i64 b.plank,.slice pp np cp,.slice tp (onlyT b (xs.take k)).length tc,.slice kp (onlyK b (xs.take k)).length kc]:List Value).toArray 26 (0,0)⟩]++nT++nK=h') _ ⟨0,none,0,[],none,0,[],rfl,by omega,OwnS.nil,OwnS.nil,exU rfl,(by simp [onlyT,onlyK])⟩ ?_;rintro nn l h' ⟨k,tp,tc,nT,kp,kc,nK,rfl,hk1,hot,hok,⟨U,rfl⟩,rfl⟩ hnext;have htl:=Nat.le_trans (onlyT_len b (xs.take k)) (List.length_take_le _ _)
 have hkl:=Nat.le_trans (onlyK_len b (xs.take k)) (List.length_take_le _ _)
 refine run_seq ?_;refine d120 ?_;refine k_lssS rfl zq (fun hc=>?_) (fun hc=>?_)
 ·refine d98 ?_;refine run_seq ?_
  refine run_draw [(0,.pure),(1,.pure),(2,.pure),(4,.pure),(3,.read),(5,.read),(6,.pure),(7,.pure)] (by kernel_rfl) (by kernel_rfl) (List.Sublist.refl _) ?_;obtain ⟨hx0,hxn⟩:=hx _ (mem_getD.2 ⟨k,by omega,rfl⟩)
  obtain ⟨xn,hxe⟩:=Int.eq_ofNat_of_zero_le hx0
  refine d3 ?_
  obtain ⟨rd_b,rd_o,rfl⟩:=rd.ptr (by omega)
  refine d20 ?_
  refine k_ld rfl zq (rd.iat k (by omega) (by omega)) ?_;refine k_ldh rfl zq ?_;refine k_len rfl zq ?_;refine k_lssS rfl zq (fun hc=>?_) (fun hc=>?_)
  ·have hlt:xs.getD k 0<b.tapes.length:=by omega
   refine d7 ?_
   obtain ⟨tb,to,rfl⟩:=rdt.ptr (by omega)
   have hok1:=hok
   rw [←onlyK_no (b:=b) hlt,←gT_take (by omega)] at hok1
   refine run_draw [(0,.pure),(2,.pure),(4,.pure),(5,.pure),(6,.pure),(1,.read),(3,.read),(7,.read),(8,.pure),(9,.read),(10,.keep),(11,.free),(12,.pure),(13,.free)] (by kernel_rfl) (by kernel_rfl) (List.Sublist.refl _) ?_;refine d8 ?_;refine d11 ?_;refine d81 ?_
   refine k_ld rfl zq (rd.iat k (by omega) (by omega)) ?_;refine k_ixs rfl zq (by first|rfl|assumption) (by omega) (by omega) ?_;refine k_ldN (vs:=tpL (b.tapes.getD xn default)) rfl zq rfl (rdt.eat xn (by omega) (by omega)) ?_;refine k_bs kdq rfl zq (by decide) (by decide) rfl (fun q34=>k_hp (k_put ?_));refine k_app1O rfl zq rfl hot kdq (by omega) (by omega) (fun w35 n35 o35=>k_put ?_);replace o35:OwnS 99 4 w35 (onlyT b (xs.take (k+1))).length (encs (onlyT b (xs.take (k+1)))) n35:=by
    rw [gT_take (by omega),onlyT_yes hlt,show (xs.getD k 0).toNat=xn by omega,encs_append,encs_tp,List.length_append];exact o35
   obtain ⟨p35,c35,rfl,_⟩:=o35.len
   refine d141 ?_;refine d109 ?_
   rw [←show onlyK b (xs.take (k+1))=onlyK b (xs.take k) by rw [gT_take (by omega),onlyK_no hlt]];refine m.weak (h':=h++[⟨true,q2,.cells (fbL b pp np cp (some ⟨tb,to,none⟩) nt ct pk nk ck).toArray 26 (0,0)⟩,⟨true,q4,.cells ([.int .i64 0,.slice none 0 0,.slice none 0 0,.slice none 0 0]:List Value).toArray 26 (0,0)⟩,⟨true,q5,.cells ([.int .i64 b.plank,.slice pp np cp,.slice p35 (onlyT b (xs.take (k+1))).length c35,.slice kp (onlyK b (xs.take (k+1))).length kc]:List Value).toArray 26 (0,0)⟩]++n35++nK) weakOff2 ?_
   exact hnext _ _ _ (by omega) ⟨k+1,_,_,n35,_,_,nK,rfl,by omega,o35,hok1,exU rfl,rfl⟩
  ·have hge: ¬xs.getD k 0<b.tapes.length:=by omega
   refine k_nil ?_;refine run_no ?_;obtain ⟨kb,ko,rfl⟩:=rdk.ptr (by omega)
   have hot1:=hot
   rw [←onlyT_no (b:=b) hge,←gT_take (by omega)] at hot1
   refine run_draw [(0,.pure),(2,.pure),(4,.pure),(5,.pure),(6,.pure),(8,.pure),(1,.read),(3,.read),(7,.read),(9,.read),(10,.pure),(11,.pure),(12,.pure),(13,.read),(14,.keep),(15,.free),(16,.pure),(17,.free)] (by kernel_rfl) (by kernel_rfl) (List.Sublist.refl _) ?_;refine d8 ?_;refine d11 ?_;refine d2 ?_;refine k_ldh rfl zq ?_
   refine k_ld rfl zq (rd.iat k (by omega) (by omega)) ?_;refine k_ldh rfl zq ?_;refine d71 ?_;refine k_ixs rfl zq (by first|rfl|assumption) (by omega) (by omega) ?_;refine k_ldN (vs:=skL (b.sticks.getD (xn-nt) default)) rfl zq rfl (rdk.eat (xn-nt) (by omega) (by omega)) ?_;refine k_bs kdq rfl zq (by decide) (by decide) rfl (fun q51=>k_hp (k_put ?_));refine k_app1O rfl zq rfl hok kdq (by omega) (by omega) (fun w52 n52 o52=>k_put ?_);replace o52:OwnS 73 3 w52 (onlyK b (xs.take (k+1))).length (encs (onlyK b (xs.take (k+1)))) n52:=by
    rw [gT_take (by omega),onlyK_yes hge,show (xs.getD k 0-(b.tapes.length:Int)).toNat=xn-nt by omega,encs_append,encs_sk,List.length_append];exact o52
   obtain ⟨p52,c52,rfl,_⟩:=o52.len
   refine d141 ?_;refine d109 ?_
   rw [←show onlyT b (xs.take (k+1))=onlyT b (xs.take k) by rw [gT_take (by omega),onlyT_no hge]];refine m.weak (h':=h++[⟨true,q2,.cells (fbL b pp np cp pt nt ct (some ⟨kb,ko,none⟩) nk ck).toArray 26 (0,0)⟩,⟨true,q4,.cells ([.int .i64 0,.slice none 0 0,.slice none 0 0,.slice none 0 0]:List Value).toArray 26 (0,0)⟩,⟨true,q5,.cells ([.int .i64 b.plank,.slice pp np cp,.slice tp (onlyT b (xs.take (k+1))).length tc,.slice p52 (onlyK b (xs.take (k+1))).length c52]:List Value).toArray 26 (0,0)⟩]++nT++n52) weakOff2 ?_
   exact hnext _ _ _ (by omega) ⟨k+1,_,_,nT,_,_,n52,rfl,by omega,hot1,o52,exU rfl,rfl⟩
 ·refine d75 ?_;refine d113 ?_;refine d91 ?_
  refine run_res (h++nT++nK) rfl Tryz.func65 rfl weakSub ?_;refine hK _ _ ?_;obtain rfl:k=n:=by omega
  rw [List.take_of_length_le (by omega)] at hot hok
  rw [List.take_of_length_le (show xs.length≤k by omega)];exact ⟨nT++nK,by rw [List.append_assoc],tp,tc,kp,kc,rfl,(hot.rd (List.Sublist.refl _)).keeps (List.sublist_append_left _ _),(hok.rd (List.Sublist.refl _)).keeps (List.sublist_append_right _ _),hot.cap,hok.cap⟩
end Go.Proofs
namespace Go.Proofs
open Go.Lo
open Go.Conc (G)
set_option maxRecDepth 100000
set_option synthInstance.maxSize 100000
set_option synthInstance.maxHeartbeats 1000000
set_option maxHeartbeats 4000000
variable {b:Fb} {pp:Option Addr} {np cp:Nat} {pt:Option Addr} {nt ct:Nat} {pk:Option Addr} {nk ck:Nat}
variable {B:Array Obj}
variable [LaidF B]
theorem f48_c (m:Md Tryz.prog B) (h:Hp) (rdp:Rp B h b pp np cp) (rdt:Rt B h b pt nt ct) (rdk:Rk B h b pk nk ck):FnC m 48 #[fbV b pp np cp pt nt ct pk nk ck] h fun v h'=>h'=h∧IsB (np≤20∧nt≤20∧nk≤20∧fbS b=0) v:=by
 refine fn_enter Tryz.func48 rfl rfl (l:=(fbV b pp np cp pt nt ct pk nk ck)::uu10) rfl ?_
 intro cf cs K hK
 refine rs2 ?_;refine k_box rfl zq (fun q1=>k_hp (k_put ?_));refine aq rfl ?_;refine rs9 ?_;refine k_ldA rfl zq ?_
 refine k_calP (Post:=fun v=>IsB _ v) rfl zq (by kernel_rfl) (fun H' hH=>f17_c m H') ?_;rintro v (⟨hc,rfl⟩|⟨hc,rfl⟩)
 ·refine d43 ?_;refine d52 ?_;refine d72 ?_;refine d0 ?_
  refine run_res (h) rfl Tryz.func48 rfl weakSub ?_;refine hK _ _ ?_;first|exact ⟨rfl,IsB.yes ⟨by omega,by omega,by omega,by omega⟩⟩|exact ⟨rfl,IsB.no (by omega)⟩
 ·refine d44 ?_;refine mq rfl ?_;refine k_ldA rfl rfl ?_
  refine k_calP (Post:=fun v=>v=_) rfl rfl (by kernel_rfl) (fun H' hH=>f22_c m H' (rdp.keeps (sq hH)) (by omega) (rdt.keeps (sq hH)) (by omega) (rdk.keeps (sq hH)) (by omega)) ?_;rintro v rfl;refine k_put ?_;refine k_eqlS rfl rfl (fun hc=>?_) (fun hc=>?_)
  ·refine d92 ?_
   refine run_res (h) rfl Tryz.func48 rfl weakSub ?_;refine hK _ _ ?_;first|exact ⟨rfl,IsB.yes ⟨by omega,by omega,by omega,by omega⟩⟩|exact ⟨rfl,IsB.no (by omega)⟩
  ·refine d92 ?_
   refine run_res (h) rfl Tryz.func48 rfl weakSub ?_;refine hK _ _ ?_;first|exact ⟨rfl,IsB.yes ⟨by omega,by omega,by omega,by omega⟩⟩|exact ⟨rfl,IsB.no (by omega)⟩
end Go.Proofs
namespace Go.Proofs
open Go.Lo
open Go.Conc (G)
set_option maxRecDepth 100000
set_option synthInstance.maxSize 100000
set_option synthInstance.maxHeartbeats 1000000
set_option maxHeartbeats 4000000
variable {B:Array Obj}
variable [LaidF B]
theorem ptsS_of {pts:List Pt} (k:PtsOk pts):ptsS pts=0:=by
 have h2:=k.two
 have h5:=k.five
 unfold ptsS
 rw [if_neg (by omega)];refine scanS_all fun i hi=>?_
 obtain ⟨o1,o2,o3⟩:=k.ok (pts.getD i default) (mem_getDR.2 ⟨i,hi,rfl⟩)
 unfold ptS
 rw [if_neg (by omega),if_neg,if_neg (by omega)];rintro ⟨h0,h1⟩;have:=k.up (i-1) (by omega)
 rw [show i-1+1=i by omega] at this
 omega
theorem fbS_of {b:Fb} (v:FOk b):fbS b=0:=by
 have hp:=v.plank
 have hf:=v.few
 have hf':=v.few'
 have e1:plankS b=0:=by rw [plankS,if_neg (by omega),ptsS_of v.pts]
 have e2:tapesS b=0:=by
  unfold tapesS
  rw [if_neg (by omega)];refine scanS_all fun i hi=>?_
  have h:=v.tapes (b.tapes.getD i default) (mem_getDR.2 ⟨i,hi,rfl⟩)
  generalize b.tapes.getD i default=q at h
  unfold okTp at h
  show tpS b.pts.length q=0
  unfold tpS
  have e:ordS b.pts.length q.f q.t=0:=by rw [ordS,if_neg (by omega),if_neg (by omega)]
  rw [e,if_neg (fun x=>x rfl),if_neg (by omega)]
 have e3:sticksS b=0:=by
  unfold sticksS
  rw [if_neg (by omega)];refine scanS_all fun i hi=>?_
  have h:=v.sticks (b.sticks.getD i default) (mem_getDR.2 ⟨i,hi,rfl⟩)
  generalize b.sticks.getD i default=q at h
  unfold okSk at h
  show skS b.pts q=0
  unfold skS
  rw [if_neg (by omega)]
 rw [fbS,e1,if_neg (fun x=>x rfl),e2,if_neg (fun x=>x rfl),e3]
end Go.Proofs
namespace Go.Proofs
open Go.Lo
open Go.Conc (G)
set_option maxRecDepth 100000
set_option synthInstance.maxSize 100000
set_option synthInstance.maxHeartbeats 1000000
set_option maxHeartbeats 4000000
variable {b:Fb} {pp:Option Addr} {np cp:Nat} {pt:Option Addr} {nt ct:Nat} {pk:Option Addr} {nk ck:Nat}
variable {B:Array Obj}
variable [LaidF B]
def shiftL (t:Nat) (ys:List Int):List Int:=ys.map fun y=>(t:Int)+y
theorem shiftL_take {t:Nat} {ys:List Int} {k:Nat} (h:k<ys.length):shiftL t (ys.take (k+1))=shiftL t (ys.take k)++[(t:Int)+ys.getD k 0]:=by
 unfold shiftL
 rw [List.take_add_one,List.getElem?_eq_getElem h,List.map_append,List.getD_eq_getElem?_getD,List.getElem?_eq_getElem h];rfl
theorem f64_c (m:Md Tryz.prog B) (h:Hp) (hnt:nt≤1000) {p:Option Addr} {n c:Nat} {xs:List Int} (rd:RdS B h 1 (.slice p n c) n (ints xs)) (hn:n≤1000) {p2:Option Addr} {n2 c2:Nat} {ys:List Int} (rd2:RdS B h 1 (.slice p2 n2 c2) n2 (ints ys)) (hn2:n2≤1000) (hy: ∀j,0≤ys.getD j 0∧ys.getD j 0≤1000):FnC m 64 #[fbV b pp np cp pt nt ct pk nk ck,.slice p n c,.slice p2 n2 c2] h fun v h'=> ∃new,h'=h++new∧OwnS 3 1 v (n+n2) (ints (xs++shiftL nt ys)) new:=by
 refine fn_enter Tryz.func64 rfl rfl (l:=(fbV b pp np cp pt nt ct pk nk ck)::(.slice p n c)::(.slice p2 n2 c2)::uu27) rfl ?_
 intro cf cs K hK
 refine rs2 ?_;refine k_box rfl zq (fun q3=>k_hp (k_put ?_));refine aq rfl ?_;refine rs4 ?_
 refine k_bs0 kdq rfl zq (fun q9=>k_hp (k_put ?_));refine mq rfl ?_
 refine k_appO rfl zq (OwnS.zero (q:=q9)) rd.up (ints_one _) kdq (by omega) (by omega) (fun w12 n12 o12=>k_put ?_);replace o12:OwnS 3 1 w12 n (ints xs) n12:=by simpa using o12
 refine d12 ?_;refine d142 ?_
 refine run_loop (fun nn l h'=> ∃(k:Nat) (w:Value) (new:Hp),nn=n2-k∧(k≤n2)∧(OwnS 3 1 w (n+k) (ints (xs++shiftL nt (ys.take k))) new)∧(∃U:Nat→Value,l=((fbV b pp np cp pt nt ct pk nk ck)::(.slice p n c)::(.slice p2 n2 c2)::(.pointer (some ⟨q3,0,none⟩))::(U 4)::(U 5)::(U 6)::w::(.int .i64 (k:Int))::(U 9)::vw20 U 10 []))∧h++[⟨true,q3,.cells ((fbL b pp np cp pt nt ct pk nk ck).toArray) 26 (0,0)⟩]++new=h') _ ⟨0,_,_,rfl,by omega,by simpa [shiftL] using o12,exU rfl,(by simp)⟩ ?_;rintro nn l h' ⟨k,w,new,rfl,hkk,ho,⟨U,rfl⟩,rfl⟩ hnext;have hyk:=hy k
 have hyl:=rd2.ilen
 refine run_seq ?_;refine d120 ?_;refine k_lssS rfl zq (fun hc=>?_) (fun hc=>?_)
 ·refine d98 ?_
  refine run_draw [(0,.pure),(1,.pure),(4,.pure),(5,.pure),(6,.pure),(2,.read),(3,.pure),(7,.read),(8,.pure),(9,.keep),(10,.free),(11,.pure)] (by kernel_rfl) (by kernel_rfl) (List.Sublist.refl _) ?_;refine mq rfl ?_;(first|refine k_fa0 rfl zq ?_|refine k_fa rfl zq ?_);refine d3 ?_
  obtain ⟨rd2_b,rd2_o,rfl⟩:=rd2.ptr (by omega)
  refine k_ixs rfl zq (by first|rfl|assumption) (by omega) (by omega) ?_;refine k_ldh rfl zq ?_;refine k_len rfl zq ?_;refine k_ld rfl zq (rd2.iat k (by omega) (by omega)) ?_;refine k_add rfl zq (by unfold In64;omega) ?_;refine k_bs kdq rfl zq (by decide) (by decide) rfl (fun q27=>k_hp (k_put ?_));refine k_app1O rfl zq rfl ho kdq (by omega) (by omega) (fun w2 n22 ho2=>k_put ?_);replace ho2:OwnS 3 1 w2 (n+(k+1)) (ints (xs++(shiftL nt (ys.take k)++[(nt:Int)+ys.getD k 0]))) n22:=by simpa [←List.append_assoc,Nat.add_assoc] using ho2
  refine d45 ?_;refine rr3 ?_;refine d61 ?_
  exact m.weak weakSub (hnext _ _ _ (by omega) ⟨k+1,_,_,rfl,by omega,by rw [shiftL_take (by omega)];exact ho2,exU rfl,rfl⟩)
 ·refine d75 ?_;refine run_seq ?_
  obtain rfl:n2=k:=by omega
  refine rr2 ?_;refine mq rfl ?_;refine d0 ?_;refine run_res (h++new) rfl Tryz.func64 rfl weakSub ?_;refine hK _ _ ?_;exact ⟨new,rfl,by rw [List.take_of_length_le (by have:=rd2.ilen;omega)] at ho;exact ho⟩
end Go.Proofs
namespace Go.Lo
set_option maxRecDepth 100000
section
variable {P:Program} {B:Array Obj} {m:Md P B} {ops:Array Oper} {l l':List Value} {S h h' H:Hp} {C:List Value→Hp→Prop} {i:Nat} {kd:Kd} {r:List (Nat×Kd)}
 {d:Option Tmp} {ty:TypeId} {pos:String} {af:Array Edge} {g:Option (Nat×Bool)}
theorem k_and8 {t u:TypeId} {x y:Operand} {a b:Int} (v:Int) (ho:ops[i]?=some ⟨d,.binOp .and t x y u,ty,pos,af,g⟩) (hw:Wt ops l g) [KHeap kd S h H] [ex:OpV l x (.int .u8 a)] [ey:OpV l y (.int .u8 b)] (hv:IntKind.wrap .u8 ((BitVec.ofInt 8 a&&&BitVec.ofInt 8 b).toNat:Int)=v) [PutV l d (.int .u8 v) l'] (q:RegK m S ops r l' h C):RegK m S ops ((i,kd)::r) l h C:=
 RegK.rd (v:= .int .u8 v) ho hw (reads_int ex.eq ey.eq (by simp) (by rw [←hv];rfl)) q
end
theorem shr8 (mm k:Nat) (hk:k≤8):(mm:Int).fdiv (2^(min (k:Int).toNat IntKind.u8.bits))=((mm/2^k:Nat):Int):=by
 rw [Int.fdiv_eq_ediv_of_nonneg _ (Int.le_of_lt (Int.pow_pos (by decide))),Int.toNat_natCast,show min k IntKind.u8.bits=k from Nat.min_eq_left hk];rw [show ((2:Int)^k)=((2^k:Nat):Int) by push_cast;rfl];exact (Int.natCast_ediv _ _).symm
theorem and8: ∀a:Nat,a<256→IntKind.wrap .u8 ((BitVec.ofInt 8 (a:Int)&&&BitVec.ofInt 8 1).toNat:Int)=((a%2:Nat):Int):=by decide
end Go.Lo
namespace Go.Proofs
open Go.Lo
open Go.Conc (G)
set_option maxRecDepth 100000
set_option synthInstance.maxSize 100000
set_option synthInstance.maxHeartbeats 1000000
set_option maxHeartbeats 4000000
variable {b:Fb} {pp:Option Addr} {np cp:Nat} {pt:Option Addr} {nt ct:Nat} {pk:Option Addr} {nk ck:Nat}
variable {B:Array Obj}
variable [LaidF B]
theorem clash_facts {b:Fb} {gg:List Int} (h0:fbS b=0) (hb:boatsOf b=[]) (ok:ClashOk b gg):Asc gg∧InB b gg∧boatsOf (onlyI b gg)=[]∧(∀xs,Asc xs→InB b xs→boatsOf (onlyI b xs)=[]→ ¬fewer xs gg)∧0<gg.length:=by
 rw [ClashOk,if_neg (by rintro (e|e);exact e h0;exact e hb)] at ok
 refine ⟨ok.1,ok.2.1,ok.2.2.1,ok.2.2.2,List.length_pos_iff.2 fun e=>?_⟩
 have:=ok.2.2.1
 rw [e] at this
 exact onlyI_nil (fbS_zero h0) this
theorem clash_sum {b:Fb} {gg:List Int} (h:Asc gg):gT b gg++shiftL b.tapes.length (gK b gg)=gg:=by
 have:=g_split (b:=b) h
 have e:shiftL b.tapes.length (gK b gg)=(gK b gg).map (· +(b.tapes.length:Int)):=by
  unfold shiftL
  exact List.map_congr_left fun y _=>Int.add_comm _ _
 rw [e];exact this
theorem gK_getD {b:Fb} {gg:List Int} (h:InB b gg) (hk:b.sticks.length≤1000): ∀j,0≤(gK b gg).getD j 0∧(gK b gg).getD j 0≤1000:=fun j=>by
 rcases Nat.lt_or_ge j (gK b gg).length with hj|hj
 ·have:=gK_in h _ (mem_getD.2 ⟨j,hj,rfl⟩)
  omega
 ·rw [List.getD_eq_getElem?_getD,List.getElem?_eq_none hj];decide
theorem f12_t (h:Hp) (rdp:Rp B h b pp np cp) (rdt:Rt B h b pt nt ct) (rdk:Rk B h b pk nk ck) (z:Nat) (hzz:z≤255):(Md.starS Tryz.prog B).R (AtEnd Tryz.prog B fun v _=>v= .bool true) (G (Frame.enter Tryz.prog 12 #[fbV b pp np cp pt nt ct pk nk ck,.int .u8 (z:Int)] .normal) []) h:=by
 refine top_enter Tryz.func12 rfl rfl (l:=[fbV b pp np cp pt nt ct pk nk ck,.int .u8 (z:Int),undef,undef,undef,undef,undef,undef,undef,undef,undef,undef,undef,undef,undef,undef,undef,undef,undef,undef,undef,undef,undef,undef,undef,undef,undef,undef,undef,undef,undef,undef,undef,undef,undef,undef,undef,undef,undef,undef,undef,undef,undef,undef,undef,undef,undef,undef,undef,undef,undef,undef,undef,undef,undef,undef,undef,undef,undef,undef,undef,undef,undef,undef,undef,undef,undef,undef,undef,undef,undef,undef,undef,undef,undef,undef,undef,undef,undef,undef,undef,undef,undef,undef,undef,undef,undef,undef,undef,undef,undef,undef,undef,undef,undef,undef,undef,undef,undef,undef,undef,undef,undef,undef,undef,undef,undef,undef,undef,undef,undef,undef,undef,undef,undef,undef,undef,undef,undef,undef,undef,undef,undef,undef,undef,undef,undef,undef,undef,undef,undef,undef,undef,undef,undef,undef,undef,undef,undef,undef,undef,undef,undef,undef,undef,undef,undef,undef,undef,undef,undef]) rfl ?_
 refine rs2 ?_;refine k_box rfl zq (fun q2=>k_hp (k_put ?_));refine d12 ?_;refine d94 ?_
 refine k_calP (Post:=fun v=>IsB _ v) rfl zq (by kernel_rfl) (fun H' hH=>f48_c _ H' (rdp.keeps (sq hH)) (rdt.keeps (sq hH)) (rdk.keeps (sq hH))) ?_;rintro v (⟨hc,rfl⟩|⟨hc,rfl⟩)
 ·refine d43 ?_;refine d37 ?_
  have hp:np≤1000:=by omega
  have ht:nt≤1000:=by omega
  have hk:nk≤1000:=by omega
  have h0:fbS b=0:=by omega
  have hv:=fbS_zero h0
  have hv1:=hv.pts.five
  have hv2:=hv.pts.two
  have hml:=rdp.elen (by decide)
  have hbn:=boatsOf_le hv.pts
  have hmt:=rdt.elen (by decide)
  have hmk:=rdk.elen (by decide)
  have hf3:=hv.few
  have hf4:=hv.few'
  refine rr9 ?_;refine k_ldA rfl zq ?_;refine k_cal rfl zq (by kernel_rfl) (f53_c _ (b:=b) (rdp.keeps SubH.sub) hp (rdt.keeps SubH.sub) ht (rdk.keeps SubH.sub) hk) ?_;rintro v h' ⟨nC,rfl,wT,wK,gg,rfl,⟨pT,cT,rfl,rdT⟩,⟨pK,cK,rfl,rdK⟩,okC⟩;refine k_put ?_;rw [h0];refine d40 ?_;refine k_ext2 rfl zq ?_;refine k_as rfl zq ?_;refine d46 ?_;refine rs7 ?_;refine k_ldA rfl zq ?_
  refine k_calP (Post:=fun v=>v= .tuple [.int .i64 (((boatsOf b).length:Nat):Int),.int .i64 0].toArray) rfl zq (by kernel_rfl) (fun H' hH=>by have:=f34_c (Md.starS Tryz.prog B) H' (b:=b) (rdp.ro.keeps (sq hH)) hp (rdt.ro.keeps (sq hH)) ht (rdk.ro.keeps (sq hH)) hk;rw [orNo_yes h0] at this;exact this) ?_;rintro v rfl;refine d78 ?_;refine d97 ?_;refine run_seq ?_
  obtain ⟨hA,hI,hL⟩:=clash_le okC
  have hsum:=g_len (b:=b) hA
  have hgt:=asc_len (gT_asc (b:=b) hA) (gT_in hI)
  have hgk:=asc_len (gK_asc (b:=b) hA) (gK_in hI)
  have hall:allN b=b.tapes.length+b.sticks.length:=rfl
  by_cases hne:boatsOf b=[]
  ·have en:(boatsOf b).length=0:=by rw [hne];rfl
   obtain ⟨_,_,hB,hmin,hgl⟩:=clash_facts h0 hne okC
   refine run_region [(0,.free),(1,.free),(2,.free),(3,.free),(4,.free),(5,.free),(6,.free),(7,.free),(8,.free),(9,.free),(10,.free),(11,.free),(12,.free),(13,.free),(14,.free),(15,.free),(16,.free),(17,.free),(18,.free),(19,.free),(20,.free),(21,.free),(22,.free),(23,.free),(24,.free),(25,.free),(26,.free),(27,.free),(28,.free),(29,.free),(30,.free),(31,.free),(32,.free)] (by kernel_rfl) (by kernel_rfl) ?_;refine mq rfl ?_;refine k_neqF rfl zq rfl ?_;refine d23 ?_;refine k_neqF rfl rfl rfl ?_;refine k_pickF rfl zq ?_;refine d23 ?_;refine d25 ?_;refine k_len rfl rfl ?_
   refine k_calP (Post:=fun v=>v= .int .i64 0) rfl rfl (by kernel_rfl) (fun H' hH=>f63_c _ H' (rdT.keeps (sq hH)) (by omega) (N:=(nt:Int)) ⟨by omega,by omega⟩ (gT_asc hA) (fun x hx=>by have:=gT_in hI x hx;omega)) ?_;rintro v rfl;refine k_put ?_;refine k_neqF rfl rfl rfl ?_;refine k_pickF rfl zq ?_;refine d23 ?_;refine d25 ?_;refine k_len rfl rfl ?_;refine k_calP (Post:=fun v=>v= .int .i64 0) rfl rfl (by kernel_rfl) (fun H' hH=>f63_c _ H' (rdK.keeps (sq hH)) (by omega) (N:=(nk:Int)) ⟨by omega,by omega⟩ (gK_asc hA) (fun x hx=>by have:=gK_in hI x hx;omega)) ?_;rintro v rfl;refine k_put ?_;refine k_neqF rfl rfl rfl ?_;refine k_pickF rfl zq ?_;refine d23 ?_;refine k_eqlT rfl rfl (by omega) ?_;refine k_mv rfl rfl ?_;refine k_len rfl rfl ?_;refine k_mv rfl rfl ?_;refine k_len rfl rfl ?_;refine k_add rfl rfl (by unfold In64;omega) ?_;refine k_gtrT rfl rfl (by omega) ?_;refine k_neqBF rfl rfl (by kernel_rfl) rfl ?_;refine k_pickF rfl zq ?_;refine d37 ?_;refine d18 ?_;refine k_gtrF rfl zq (by omega) ?_;refine d13 ?_;refine rs5 ?_;refine k_ldA rfl zq ?_;refine d3 ?_
   refine k_calC rfl zq (by kernel_rfl) (Post:=fun v new=>OwnS 3 1 v gg.length (ints gg) new) (fun H' hH=>(f64_c _ H' (b:=b) ht (rdT.keeps (sq hH)) (by omega) (rdK.keeps (sq hH)) (by omega) (gK_getD hI (by omega))).mono fun v h' e=>by obtain ⟨nw,e1,e2⟩:=e;exact ⟨nw,e1,by rw [show nt=b.tapes.length by omega,clash_sum hA,g_len hA] at e2;exact e2⟩) ?_;rintro v n64 o64;obtain ⟨p64,c64,rfl,hc64,r64⟩:=own_rdA (B:=B) o64
   refine k_hpA (k_put ?_);refine d12 ?_;refine rs9 ?_;refine d69 ?_
   refine k_calC rfl zq (by kernel_rfl) (Post:=fun v new=> ∃tp tc kp kc,v=fbV (onlyI b (gg)) pp np cp tp (onlyT b (gg)).length tc kp (onlyK b (gg)).length kc∧RdS B new 4 (.slice tp (onlyT b (gg)).length tc) (onlyT b (gg)).length (encs (onlyT b (gg)))∧RdS B new 3 (.slice kp (onlyK b (gg)).length kc) (onlyK b (gg)).length (encs (onlyK b (gg)))∧(onlyT b (gg)).length≤tc∧(onlyK b (gg)).length≤kc) (fun H' hH=>f65_c _ H' (b:=b) (rdt.ro.keeps (sq hH)) ht (rdk.ro.keeps (sq hH)) hk (r64.keeps (sq hH)) (by omega) hI) ?_;rintro v n65a ⟨tpa,tca,kpa,kca,rfl,rta,rka,_,_⟩;refine k_hpA (k_put ?_);have htla:=onlyT_le hA hI
   have hkla:=onlyK_le hA hI
   refine k_calP (Post:=fun v=>v= .tuple [.int .i64 (((boatsOf (onlyI b (gg))).length:Nat):Int),.int .i64 0].toArray) rfl zq (by kernel_rfl) (fun H' hH=>by have:=f34_c (Md.starS Tryz.prog B) H' (b:=onlyI b (gg)) (rdp.ro.keeps (sq hH)) hp (rta.keeps (sq hH)) (by omega) (rka.keeps (sq hH)) (by omega);rw [orNo_yes (fbS_of (onlyI_ok hv hA hI))] at this;exact this) ?_;rintro v rfl;refine k_put ?_;rw [hB];refine d40 ?_;refine d46 ?_;refine rs6 ?_;refine mq rfl ?_;refine k_neqF rfl zq rfl ?_;refine d23 ?_;refine k_neqF rfl rfl rfl ?_;refine k_pickF rfl zq ?_;refine d37 ?_;refine d142 ?_
   refine run_loop (fun nn l h'=> ∃(k:Nat),nn=gg.length-k∧(k≤gg.length)∧(∃U:Nat→Value,l=((fbV b pp np cp pt nt ct pk nk ck)::(.int .u8 (z:Int))::(.pointer (some ⟨q2,0,none⟩))::vw7 U 3 ((.slice p64 gg.length c64)::(U 11)::(U 12)::(.int .i64 (k:Int))::(U 14)::(U 15)::vw135 U 16 [])))∧ro (h++[⟨true,q2,.cells ((fbL b pp np cp pt nt ct pk nk ck).toArray) 26 (0,0)⟩])++nC++n64++n65a=h') _ ⟨0,rfl,by omega,exU rfl,rfl⟩ ?_;rintro nn l h' ⟨k,rfl,hk1,⟨U,rfl⟩,rfl⟩ hnext;refine run_seq ?_;refine d120 ?_;refine k_lssS rfl zq (fun hc=>?_) (fun hc=>?_)
   ·refine d98 ?_;refine run_seq ?_
    obtain ⟨hb1,hb2,hb3⟩:=but_facts (n:=(allN b:Int)) hA hI (show k<gg.length by omega)
    have hb4:boatsOf (onlyI b (gg.take k++gg.drop (k+1)))≠[]:=fun e=>hmin _ hb1 hb2 e hb3
    have hb5:=List.length_pos_iff.2 hb4
    have hbl:(gg.take k++gg.drop (k+1)).length=gg.length-1:=by rw [List.length_append,List.length_take,List.length_drop];omega
    refine run_draw [(1,.pure),(2,.pure),(0,.read),(3,.keep),(4,.keep),(5,.keep),(6,.pure),(7,.pure),(8,.pure),(9,.pure),(10,.pure)] (by kernel_rfl) (by kernel_rfl) (List.Sublist.refl _) ?_;refine d3 ?_;refine k_ldA rfl zq ?_
    refine k_calC rfl zq (by kernel_rfl) (Post:=fun v new=>OwnS 3 1 v (gg.length-1) (ints (gg.take k++gg.drop (k+1))) new) (fun H' hH=>f66_c _ H' (r64.keeps (sq hH)) (by omega) hc64 k (by omega)) ?_;rintro v n66 o66;obtain ⟨p66,c66,rfl,hc66,r66⟩:=own_rdA (B:=B) o66
    refine k_hpA (k_put ?_);refine k_calC rfl zq (by kernel_rfl) (Post:=fun v new=> ∃tp tc kp kc,v=fbV (onlyI b (gg.take k++gg.drop (k+1))) pp np cp tp (onlyT b (gg.take k++gg.drop (k+1))).length tc kp (onlyK b (gg.take k++gg.drop (k+1))).length kc∧RdS B new 4 (.slice tp (onlyT b (gg.take k++gg.drop (k+1))).length tc) (onlyT b (gg.take k++gg.drop (k+1))).length (encs (onlyT b (gg.take k++gg.drop (k+1))))∧RdS B new 3 (.slice kp (onlyK b (gg.take k++gg.drop (k+1))).length kc) (onlyK b (gg.take k++gg.drop (k+1))).length (encs (onlyK b (gg.take k++gg.drop (k+1))))∧(onlyT b (gg.take k++gg.drop (k+1))).length≤tc∧(onlyK b (gg.take k++gg.drop (k+1))).length≤kc) (fun H' hH=>f65_c _ H' (b:=b) (rdt.ro.keeps (sq hH)) ht (rdk.ro.keeps (sq hH)) hk (r66.keeps (sq hH)) (by omega) hb2) ?_;rintro v n65c ⟨tpc,tcc,kpc,kcc,rfl,rtc,rkc,_,_⟩;refine k_hpA (k_put ?_);have htlc:=onlyT_le hb1 hb2
    have hklc:=onlyK_le hb1 hb2
    refine k_calP (Post:=fun v=>v= .tuple [.int .i64 (((boatsOf (onlyI b (gg.take k++gg.drop (k+1)))).length:Nat):Int),.int .i64 0].toArray) rfl zq (by kernel_rfl) (fun H' hH=>by have:=f34_c (Md.starS Tryz.prog B) H' (b:=onlyI b (gg.take k++gg.drop (k+1))) (rdp.ro.keeps (sq hH)) hp (rtc.keeps (sq hH)) (by omega) (rkc.keeps (sq hH)) (by omega);rw [orNo_yes (fbS_of (onlyI_ok hv hb1 hb2))] at this;exact this) ?_;rintro v rfl;refine d134 ?_;refine rs6 ?_;refine mq rfl ?_;refine k_neqF rfl zq rfl ?_;refine d23 ?_
    refine k_eqlF rfl rfl (by omega) ?_;refine d126 ?_;refine d109 ?_
    exact (Md.starS Tryz.prog B).weak weakSub (hnext _ _ _ (by omega) ⟨k+1,rfl,by omega,exU rfl,rfl⟩)
   ·refine d75 ?_;refine d93 ?_;refine d142 ?_
    refine run_loop (fun nn l h'=> ∃(k:Nat) (p18:Option Addr) (c18:Nat) (n18:Hp),nn=nt+nk-k∧(k≤nt+nk)∧(OwnS 3 1 (.slice p18 (keptI z k).length c18) (keptI z k).length (ints (keptI z k)) n18)∧(∃U:Nat→Value,l=((fbV b pp np cp pt nt ct pk nk ck)::(.int .u8 (z:Int))::(.pointer (some ⟨q2,0,none⟩))::vw7 U 3 ((.slice p64 gg.length c64)::vw5 U 11 ((.slice p18 (keptI z k).length c18)::(.int .i64 (k:Int))::(U 18)::vw132 U 19 []))))∧ro (h++[⟨true,q2,.cells ((fbL b pp np cp pt nt ct pk nk ck).toArray) 26 (0,0)⟩])++nC++n64++n65a++n18=h') _ ⟨0,none,0,[],rfl,by omega,OwnS.nil,exU rfl,(by simp [keptI,firsts])⟩ ?_;rintro nn l h' ⟨k,p18,c18,n18,rfl,hk2,ho,⟨U,rfl⟩,rfl⟩ hnext;have hil:=keptI_le z k
    refine run_seq ?_;refine rs9 ?_;refine mq rfl ?_;refine d114 ?_;refine d114 ?_;refine k_add rfl zq (by unfold In64;omega) ?_;refine k_lssS rfl zq (fun hc=>?_) (fun hc=>?_)
    ·refine d98 ?_;refine rs5 ?_;refine d3 ?_
     refine k_shr ((z/2^k:Nat):Int) rfl zq (by omega) (shr8 z k (by omega)) ?_;refine k_and8 ((z/2^k%2:Nat):Int) rfl zq (and8 _ (Nat.lt_of_le_of_lt (Nat.div_le_self _ _) (by omega))) ?_;refine k_eqlS rfl zq (fun hc=>?_) (fun hc=>?_)
     ·have hbit:bitN z k=1:=by unfold bitN;omega
      refine d7 ?_;refine rr5 ?_;refine d3 ?_
      refine k_bs kdq rfl zq (by decide) (by decide) rfl (fun q127=>k_hp (k_put ?_));refine k_app1 (F:=ro (h++[⟨true,q2,.cells ((fbL b pp np cp pt nt ct pk nk ck).toArray) 26 (0,0)⟩])++nC++n64++n65a) rfl zq rfl ho kdq (by omega) (by omega) (fun w9 n9 o9=>k_put ?_);replace o9:OwnS 3 1 w9 (keptI z (k+1)).length (ints (keptI z (k+1))) n9:=by
       rw [keptI_yes hbit,ints_append,List.length_append];exact o9
      obtain ⟨p9,c9,rfl,hc9,r9⟩:=own_rdA (B:=B) o9
      refine d45 ?_;refine rr3 ?_;refine d61 ?_
      exact (Md.starS Tryz.prog B).weak weakSub (hnext _ _ _ (by omega) ⟨k+1,_,_,n9,rfl,by omega,o9,exU rfl,rfl⟩)
     ·have hbit:bitN z k≠1:=by unfold bitN;omega
      refine d13 ?_;refine d109 ?_
      rw [←keptI_no hbit];rw [←keptI_no hbit] at ho
      exact (Md.starS Tryz.prog B).weak weakSub (hnext _ _ _ (by omega) ⟨k+1,_,_,n18,rfl,by omega,ho,exU rfl,rfl⟩)
    ·refine d75 ?_;refine run_seq ?_
     obtain rfl:k=nt+nk:=by omega
     have r18:=ho.rd (List.Sublist.refl _) (B:=B)
     have ho18:=keptI_le z (nt+nk)
     have hoa:=asc_keptI z (nt+nk)
     have hor:InB b (keptI z (nt+nk)):=by rw [show nt+nk=allN b by omega];exact inB_kept b z
     generalize keptI z (nt+nk)=oo at r18 ho18 hoa hor⊢
     refine rr9 ?_;refine d69 ?_;refine k_calC rfl zq (by kernel_rfl) (Post:=fun v new=> ∃tp tc kp kc,v=fbV (onlyI b (oo)) pp np cp tp (onlyT b (oo)).length tc kp (onlyK b (oo)).length kc∧RdS B new 4 (.slice tp (onlyT b (oo)).length tc) (onlyT b (oo)).length (encs (onlyT b (oo)))∧RdS B new 3 (.slice kp (onlyK b (oo)).length kc) (onlyK b (oo)).length (encs (onlyK b (oo)))∧(onlyT b (oo)).length≤tc∧(onlyK b (oo)).length≤kc) (fun H' hH=>f65_c _ H' (b:=b) (rdt.ro.keeps (sq hH)) ht (rdk.ro.keeps (sq hH)) hk (r18.keeps (sq hH)) (by omega) hor) ?_;rintro v n65d ⟨tpd,tcd,kpd,kcd,rfl,rtd,rkd,_,_⟩;refine k_hpA (k_put ?_);have htld:=onlyT_le hoa hor
     have hkld:=onlyK_le hoa hor
     refine k_calP (Post:=fun v=>v= .tuple [.int .i64 (((boatsOf (onlyI b (oo))).length:Nat):Int),.int .i64 0].toArray) rfl zq (by kernel_rfl) (fun H' hH=>by have:=f34_c (Md.starS Tryz.prog B) H' (b:=onlyI b (oo)) (rdp.ro.keeps (sq hH)) hp (rtd.keeps (sq hH)) (by omega) (rkd.keeps (sq hH)) (by omega);rw [orNo_yes (fbS_of (onlyI_ok hv hoa hor))] at this;exact this) ?_;rintro v rfl;refine d78 ?_;refine d97 ?_
     refine run_region [(0,.free),(1,.free),(2,.free),(3,.free),(4,.free),(5,.free),(6,.free),(7,.free),(8,.free),(9,.free),(10,.free),(11,.free),(12,.free),(13,.free),(14,.free),(15,.free)] (by kernel_rfl) (by kernel_rfl) ?_;refine mq rfl ?_;refine k_eqlT rfl zq rfl ?_;refine d23 ?_
     refine k_gtrS rfl rfl (fun hc=>?_) (fun hc=>?_)
     ·refine k_mv rfl rfl ?_;refine d5 ?_;refine d5 ?_;refine k_pickT rfl rfl ?_;refine k_pickT rfl zq ?_;refine mq rfl ?_;refine k_cal rfl rfl (by kernel_rfl) (f18_c _) ?_;rintro v h' ⟨nF,rfl,rfl⟩;refine k_put ?_;refine d92 ?_;refine run_top rfl Tryz.func12 (by kernel_rfl) rfl ?_;rfl
     ·refine k_mv rfl rfl ?_;refine k_mv rfl rfl ?_;refine k_mv rfl rfl ?_;refine k_calP (Post:=fun v=>IsB _ v) rfl rfl (by kernel_rfl) (fun H' hH=>f67_c _ H' (r18.keeps (sq hH)) (by omega) (r64.keeps (sq hH))) ?_;rintro v (⟨hc,rfl⟩|⟨hc,rfl⟩)
      ·refine k_put ?_;exact absurd hc (hmin _ hoa hor (List.length_eq_zero_iff.1 (by omega)))
      ·refine d100 ?_;refine k_pickF rfl rfl ?_;refine k_pickT rfl zq ?_;refine mq rfl ?_
       refine k_cal rfl rfl (by kernel_rfl) (f18_c _) ?_;rintro v h' ⟨nF,rfl,rfl⟩;refine k_put ?_;refine d92 ?_;refine run_top rfl Tryz.func12 (by kernel_rfl) rfl ?_;rfl
  ·have en:=List.length_pos_iff.2 hne
   obtain rfl:gg=[]:=by rw [ClashOk,if_pos (.inr hne)] at okC;exact okC
   have hg1:(gT b []).length=0:=rfl
   have hg2:(gK b []).length=0:=rfl
   refine run_region [(0,.free),(1,.free),(2,.free),(3,.free),(4,.free),(5,.free),(6,.free),(7,.free),(8,.free),(9,.free),(10,.free),(11,.free),(12,.free),(13,.free),(14,.free),(15,.free),(16,.free),(17,.free),(18,.free),(19,.free),(20,.free),(21,.free),(22,.free),(23,.free),(24,.free),(25,.free),(26,.free),(27,.free),(28,.free),(29,.free),(30,.free),(31,.free),(32,.free)] (by kernel_rfl) (by kernel_rfl) ?_;refine mq rfl ?_;refine k_neqF rfl zq rfl ?_;refine d23 ?_;refine k_neqF rfl rfl rfl ?_;refine k_pickF rfl zq ?_;refine d23 ?_;refine d25 ?_;refine k_len rfl rfl ?_
   refine k_calP (Post:=fun v=>v= .int .i64 0) rfl rfl (by kernel_rfl) (fun H' hH=>f63_c _ H' (rdT.keeps (sq hH)) (by omega) (N:=(nt:Int)) ⟨by omega,by omega⟩ (gT_asc hA) (fun x hx=>by have:=gT_in hI x hx;omega)) ?_;rintro v rfl;refine k_put ?_;refine k_neqF rfl rfl rfl ?_;refine k_pickF rfl zq ?_;refine d23 ?_;refine d25 ?_;refine k_len rfl rfl ?_;refine k_calP (Post:=fun v=>v= .int .i64 0) rfl rfl (by kernel_rfl) (fun H' hH=>f63_c _ H' (rdK.keeps (sq hH)) (by omega) (N:=(nk:Int)) ⟨by omega,by omega⟩ (gK_asc hA) (fun x hx=>by have:=gK_in hI x hx;omega)) ?_;rintro v rfl;refine k_put ?_;refine k_neqF rfl rfl rfl ?_;refine k_pickF rfl zq ?_;refine d23 ?_;refine k_eqlF rfl rfl (by omega) ?_;refine k_mv rfl rfl ?_;refine k_len rfl rfl ?_;refine k_mv rfl rfl ?_;refine k_len rfl rfl ?_;refine k_add rfl rfl (by unfold In64;omega) ?_;refine k_gtrF rfl rfl (by omega) ?_;refine k_neqBF rfl rfl (by kernel_rfl) rfl ?_;refine k_pickF rfl zq ?_;refine d37 ?_;refine d18 ?_;refine k_gtrT rfl zq (by omega) ?_;refine d7 ?_;refine rs2 ?_
   refine k_cal rfl zq (by kernel_rfl) (f18_c _) ?_;rintro v h' ⟨nF,rfl,rfl⟩;refine d110 ?_
   refine run_top rfl Tryz.func12 (by kernel_rfl) rfl ?_;rfl
 ·refine d44 ?_;refine d7 ?_;refine rs2 ?_
  refine k_cal rfl zq (by kernel_rfl) (f18_c _) ?_;rintro v h' ⟨nF,rfl,rfl⟩;refine d110 ?_
  refine run_top rfl Tryz.func12 (by kernel_rfl) rfl ?_;rfl
end Go.Proofs
