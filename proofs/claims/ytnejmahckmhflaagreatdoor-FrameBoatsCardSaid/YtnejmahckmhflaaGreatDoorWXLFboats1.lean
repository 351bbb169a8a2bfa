/- A part of the proof of a law: my own separation logic over the machine, and walks of the program. Condition of each theorem: as its statement says. -/
import Derived.Test.YtnejmahckmhflaaGreatDoorWB9
set_option linter.all false
namespace Go.Lo
open Go.Conc (G)
section
variable {B:Array Obj} {h H:Hp}
theorem RdE.up {vs:List Value} {ll:List (List Int)} (r:RdE B h vs ll) [s:SubH h H]:RdE B H vs ll:=r.keeps s.sub
theorem RdE.cap {vs:List Value} {ll:List (List Int)} (r:RdE B h vs ll) {i:Nat} (hi:i<ll.length) {p:Option Addr} {n c:Nat} (e:vs.getD i undef= .slice p n c):n≤c:=by
 have hl:=r.1.1
 refine r.1.2 (vs.getD i undef) ?_ p n c e
 rw [List.getD_eq_getElem?_getD,List.getElem?_eq_getElem (by omega)];exact List.getElem_mem _
end
section
variable {P:Program} {B:Array Obj} {m:Md P B} {ops:Array Oper} {l l':List Value} {S h h' H:Hp} {C:List Value→Hp→Prop} {i:Nat} {kd:Kd} {r:List (Nat×Kd)}
 {d:Option Tmp} {ty:TypeId} {pos:String} {af:Array Edge} {g:Option (Nat×Bool)}
end
end Go.Lo
namespace Go.Lo
open Go.Conc (G)
section
variable {B:Array Obj} {h:Hp}
theorem RdS.okp {k n c:Nat} {p:Option Addr} {ys:List Value} (rd:RdS B h k (.slice p n c) n ys):OkP p:=by
 obtain ⟨p',c',e,_,⟨rfl,_⟩|⟨b,o,rfl,_⟩⟩:=rd
 ·exact .inl (Value.slice.inj e).1
 ·exact .inr ⟨b,o,(Value.slice.inj e).1⟩
theorem RdS.cut {k n c:Nat} {p:Option Addr} {ys:List Value} (rd:RdS B h k (.slice p n c) n ys) {lo:Nat} (hlo:lo≤n) (hc:n≤c):RdS B h k (.slice (cutP k p c lo) (n-lo) (c-lo)) (n-lo) (ys.drop (lo*k)):=by
 obtain ⟨p',c',e,hl,hr⟩:=rd
 obtain ⟨rfl,_,rfl⟩:=Value.slice.inj e
 refine ⟨_,_,rfl,by rw [List.length_drop,hl,Nat.sub_mul],?_⟩
 rcases hr with ⟨rfl,rfl⟩|⟨b,o,rfl,rd⟩
 ·refine .inl ⟨?_,by omega⟩
  unfold cutP
  split<;>rfl
 ·have out: ∀o',(c=lo→o'=o)→(c≠lo→o'=o+lo*k)→RdN B h b o' (ys.drop (lo*k)):=fun o' h1 h2 j hj=>by
   rw [List.length_drop,hl] at hj
   have hne:c≠lo:=by
    rintro rfl;have:n=c:=by omega
    subst this
    omega
   have:=rd (lo*k+j) (by omega)
   rw [List.getD_eq_getElem?_getD] at this⊢
   rw [List.getElem?_drop,h2 hne,Nat.add_assoc];exact this
  unfold cutP
  split
  ·rename_i e1
   exact .inr ⟨b,o,rfl,out o (fun _=>rfl) (fun e=>absurd e1 e)⟩
  ·rename_i e1
   exact .inr ⟨b,o+lo*k,by simp [Addr.add_none],out _ (fun e=>absurd e e1) (fun _=>rfl)⟩
end
section
variable {P:Program} {B:Array Obj} {m:Md P B} {ops:Array Oper} {l l':List Value} {S h h' H:Hp} {C:List Value→Hp→Prop} {i:Nat} {kd:Kd} {r:List (Nat×Kd)}
 {d:Option Tmp} {ty:TypeId} {pos:String} {af:Array Edge} {g:Option (Nat×Bool)}
end
end Go.Lo
namespace Go.Proofs
open Go.Lo
open Go.Conc (G)
set_option maxRecDepth 100000
set_option synthInstance.maxSize 100000
set_option synthInstance.maxHeartbeats 1000000
set_option maxHeartbeats 4000000
variable {B:Array Obj}
theorem getD_drop (xs:List Int) (k:Nat) (h:k<xs.length):xs.drop k=xs.getD k 0::xs.drop (k+1):=by
 rw [List.drop_eq_getElem_cons h,List.getD_eq_getElem?_getD,List.getElem?_eq_getElem h];rfl
def RdLL (B:Array Obj) (h:Hp) (v:Value) (ll:List (List Int)):Prop:= ∃p c vs,v= .slice p ll.length c∧RdS B h 1 (.slice p ll.length c) ll.length vs∧RdE B h vs ll
theorem f125_c (m:Md Tryz.prog B) (h:Hp) (x y:Int):FnC m 125 #[.int .i64 x,.int .i64 y] h fun v h'=>h'=h∧v= .int .i64 (if x=0 then 2 else if x=y then 1 else 0):=by
 refine fn_enter Tryz.func125 rfl rfl (l:=(.int .i64 x)::(.int .i64 y)::uu8) rfl ?_
 intro cf cs K hK
 refine rs1 ?_;refine d68 ?_;refine k_eqlS rfl zq (fun hc=>?_) (fun hc=>?_)
 ·refine d58 ?_
  refine run_res (h) rfl Tryz.func125 rfl weakSub ?_;refine hK _ _ ?_;refine ⟨rfl,?_⟩
  first|(rw [if_pos (by assumption)];done)|(rw [if_neg (by assumption),if_pos (by assumption)];done)|(rw [if_neg (by assumption),if_neg (by assumption)];done)
 ·refine d37 ?_;refine rs3 ?_;refine d3 ?_
  refine k_eqlS rfl zq (fun hc=>?_) (fun hc=>?_)
  ·refine d58 ?_
   refine run_res (h) rfl Tryz.func125 rfl weakSub ?_;refine hK _ _ ?_;refine ⟨rfl,?_⟩
   first|(rw [if_pos (by assumption)];done)|(rw [if_neg (by assumption),if_pos (by assumption)];done)|(rw [if_neg (by assumption),if_neg (by assumption)];done)
  ·refine d13 ?_;refine d38 ?_
   refine run_res (h) rfl Tryz.func125 rfl weakSub ?_;refine hK _ _ ?_;refine ⟨rfl,?_⟩
   first|(rw [if_pos (by assumption)];done)|(rw [if_neg (by assumption),if_pos (by assumption)];done)|(rw [if_neg (by assumption),if_neg (by assumption)];done)
theorem take_lt {ys:List Int} {x:Int} {j:Nat} (hj:j≤ys.length) (h: ∀i,i<j→ys.getD i 0<x): ∀z∈ys.take j,z<x:=fun z hz=>by
 obtain ⟨i,h1,rfl⟩:=mem_getD.1 hz
 rw [List.length_take] at h1
 have:=h i (by omega)
 rw [List.getD_eq_getElem?_getD] at this⊢
 rw [List.getElem?_take,if_pos (by omega)];exact this
theorem Asc.ins {ys:List Int} (ha:Asc ys) {x:Int} {j:Nat} (hj:j≤ys.length) (h: ∀i,i<j→ys.getD i 0<x) (hx:j<ys.length→x<ys.getD j 0):Asc (ys.take j++x::ys.drop j):=by
 unfold Asc at*
 have ha':=ha
 rw [←List.take_append_drop j ys,List.pairwise_append] at ha'
 obtain ⟨a1,a2,a3⟩:=ha'
 rw [List.pairwise_append,List.pairwise_cons];have hd: ∀z∈ys.drop j,x<z:=by
  intro z hz
  have hlt:j<ys.length:=by
   rcases Nat.lt_or_ge j ys.length with h1|h1
   ·exact h1
   ·rw [List.drop_eq_nil_of_le h1] at hz
    simp at hz
  rw [getD_drop ys j hlt] at hz a2
  rcases List.mem_cons.1 hz with rfl|hz
  ·exact hx hlt
  ·exact Int.lt_trans (hx hlt) ((List.pairwise_cons.1 a2).1 z hz)
 refine ⟨a1,⟨hd,a2⟩,fun a ha b hb=>?_⟩
 rcases List.mem_cons.1 hb with rfl|hb
 ·exact take_lt hj h a ha
 ·exact a3 a ha b hb
theorem mem_ins {ys:List Int} {x z:Int} {j:Nat}:z∈ys.take j++x::ys.drop j↔z∈ys∨z=x:=by
 rw [List.mem_append,List.mem_cons];have:z∈ys↔z∈ys.take j∨z∈ys.drop j:=by rw [←List.mem_append,List.take_append_drop]
 rw [this];constructor
 ·rintro (h|h|h)
  ·exact .inl (.inl h)
  ·exact .inr h
  ·exact .inl (.inr h)
 ·rintro ((h|h)|h)
  ·exact .inl h
  ·exact .inr (.inr h)
  ·exact .inr (.inl h)
theorem mem_take_succ {xs:List Int} {k:Nat} (h:k<xs.length) {z:Int}:z∈xs.take (k+1)↔z∈xs.take k∨z=xs.getD k 0:=by
 rw [take_snoc' xs k h,List.mem_append,List.mem_singleton]
theorem f116_c (m:Md Tryz.prog B) (h:Hp) {p:Option Addr} {n c:Nat} {xs:List Int} (rd:RdS B h 1 (.slice p n c) n (ints xs)) (hn:n≤100000):FnC m 116 #[.slice p n c] h fun v h'=> ∃new,h'=h++new∧ ∃ys,Asc ys∧(∀z,z∈ys↔z∈xs)∧OwnS 3 1 v ys.length (ints ys) new:=by
 have hl:=rd.ilen
 refine fn_enter Tryz.func116 rfl rfl (l:=(.slice p n c)::uu57) rfl ?_
 intro cf cs K hK
 refine d82 ?_;refine d93 ?_;refine d142 ?_
 refine run_loop (fun nn l h'=> ∃(k:Nat) (new:Hp) (ys:List Int) (wp:Option Addr) (wc:Nat),nn=n-k∧(k≤n)∧(OwnS 3 1 (.slice wp ys.length wc) ys.length (ints ys) new)∧(Asc ys)∧(∀z,z∈ys↔z∈xs.take k)∧(ys.length≤k)∧(∃U:Nat→Value,l=((.slice p n c)::(U 1)::(U 2)::(.slice wp ys.length wc)::(.int .i64 (k:Int))::(U 5)::(U 6)::(U 7)::vw50 U 8 []))∧h++new=h') _ ⟨0,[],[],_,_,rfl,by omega,OwnS.nil,List.Pairwise.nil,by simp,by simp,exU rfl,(by simp)⟩ ?_;rintro nn l h' ⟨k,new,ys,wp,wc,rfl,hk,ho,ha,hm,hyl,⟨U,rfl⟩,rfl⟩ hnext1;have hw:RdS B new 1 (.slice wp ys.length wc) ys.length (ints ys):=ho.rd'
 have hcap:=ho.cap
 refine run_seq ?_;refine d120 ?_;refine k_lssS rfl zq (fun hc=>?_) (fun hc=>?_)
 ·refine d98 ?_;refine d93 ?_;refine run_block ?_
  refine run_loop (fun nn l h'=> ∃(j:Nat),nn=ys.length-j∧(j≤ys.length)∧(∀i,i<j→ys.getD i 0<xs.getD k 0)∧(∃U:Nat→Value,l=((.slice p n c)::(U 1)::(U 2)::(.slice wp ys.length wc)::(.int .i64 (k:Int))::(.int .i64 (j:Int))::(U 6)::(U 7)::vw50 U 8 []))∧h++new=h') _ ⟨0,rfl,by omega,by omega,exU rfl,rfl⟩ ?_;rintro nn l h' ⟨j,rfl,hj,hlt,⟨U,rfl⟩,rfl⟩ hnext2;refine d90 ?_
  refine run_draw [(0,.pure),(1,.pure),(2,.pure),(3,.pure),(4,.pure),(5,.pure),(6,.pure),(7,.pure),(9,.pure),(10,.pure),(11,.pure),(8,.read),(12,.read),(13,.pure),(14,.pure)] (by kernel_rfl) (by kernel_rfl) (List.Sublist.refl _) ?_;refine d3 ?_;refine k_len rfl zq ?_
  refine k_lssS rfl zq (fun hc=>?_) (fun hc=>?_)
  ·refine d23 ?_;refine k_mv rfl rfl ?_
   obtain ⟨hw_b,hw_o,rfl⟩:=hw.ptr (by omega)
   refine k_ixs rfl rfl (by first|rfl|assumption) (by omega) (by omega) ?_;refine k_mv rfl rfl ?_;refine k_mv rfl rfl ?_;obtain ⟨rd_b,rd_o,rfl⟩:=rd.ptr (by omega)
   refine k_ixs rfl rfl (by first|rfl|assumption) (by omega) (by omega) ?_;refine k_ld rfl rfl (hw.iat j (by omega) (by omega)) ?_;refine k_ld rfl rfl (rd.iat k (by omega) (by omega)) ?_;refine k_lssS rfl rfl (fun hc=>?_) (fun hc=>?_)
   ·refine k_pickT rfl zq ?_;refine d7 ?_;refine d103 ?_;refine rr3 ?_;refine d4 ?_;refine d45 ?_;exact m.weak weakSub (hnext2 _ _ _ (by omega) ⟨j+1,rfl,by omega,fun i hi=>by
     rcases Nat.lt_or_ge i j with h1|h1
     ·exact hlt i h1
     ·obtain rfl:i=j:=by omega
      first|assumption|(exfalso;omega),exU rfl,rfl⟩)
   ·refine d73 ?_;refine d22 ?_;refine run_seq ?_
    refine run_draw [(0,.pure),(1,.pure),(2,.pure),(3,.pure),(4,.pure),(5,.pure),(6,.pure),(7,.pure),(9,.pure),(10,.pure),(11,.pure),(8,.read),(12,.read),(13,.pure),(14,.pure)] (by kernel_rfl) (by kernel_rfl) (List.Sublist.refl _) ?_;refine d3 ?_;refine k_len rfl zq ?_
    refine k_eqlS rfl zq (fun hc=>?_) (fun hc=>?_)
    ·refine d115 ?_;refine k_off rfl rfl ?_;refine k_pickT rfl zq ?_;refine d7 ?_
     refine run_draw [(0,.pure),(1,.pure),(2,.pure),(3,.pure),(4,.pure),(5,.pure),(8,.pure),(9,.pure),(10,.pure),(6,.read),(7,.keep),(11,.free),(12,.free),(13,.pure)] (by kernel_rfl) (by kernel_rfl) (List.Sublist.refl _) ?_;refine d3 ?_
     refine k_slTo (b:=j) rfl zq hw.okp rfl (by omega) ?_;refine d11 ?_;refine d3 ?_
     refine k_slFrom (a:=j) rfl zq rfl (by omega) ?_;refine k_ld rfl zq (rd.iat k (by omega) (by omega)) ?_;refine k_bs kdq rfl zq (by decide) (by decide) rfl (fun q51=>k_hp (k_put ?_));refine k_app (F:=h++new) rfl zq weakSub (OwnS.full (n:=1) (cs:=[.int .i64 (xs.getD k 0)]) rfl) (hw.cut (lo:=j) (by omega) (by omega)).up (by rw [Nat.mul_one,←ints_drop];exact ints_one _) kdq (by omega) (by omega) (fun w6 n6 o6=>k_put ?_);obtain ⟨p6,c6,rfl,_⟩:=o6.len
     have r6:RdS B n6 1 (.slice p6 _ c6) _ _:=(o6.rd')
     refine k_app (F:=h++n6) rfl zq (Weak.mid h new n6) (ho.pre (m:=j) (by omega)) r6.up (by rw [Nat.mul_one,←ints_drop];intro u hu;rcases List.mem_cons.1 hu with rfl|hu;rfl;exact ints_one _ u hu) kdq (by omega) (by omega) (fun w7 n7 o7=>k_put ?_);obtain ⟨p7,c7,rfl,_⟩:=o7.len
     have hys:(ints ys).take (j*1)++([Value.int .i64 (xs.getD k 0)]++(ints ys).drop (j*1))=ints (ys.take j++xs.getD k 0::ys.drop j):=by
      rw [Nat.mul_one,ints_append,ints_take];simp
     have hyn:j+(1+(ys.length-j))=(ys.take j++xs.getD k 0::ys.drop j).length:=by simp;omega
     rw [hys,hyn] at o7
     rw [hyn];refine d45 ?_;refine rr3 ?_;refine d61 ?_
     exact m.weak weakSub (hnext1 _ _ _ (by omega) ⟨k+1,_,ys.take j++xs.getD k 0::ys.drop j,p7,c7,rfl,by omega,o7,by first|(exfalso;omega)|exact ha.ins (by omega) hlt (fun _=>by omega),fun z=>by rw [mem_ins,mem_take_succ (by omega),hm],by rw [←hyn];omega,exU rfl,rfl⟩)
    ·refine d23 ?_;refine d130 ?_;refine d21 ?_
     refine k_ld rfl rfl (hw.iat j (by omega) (by omega)) ?_;refine k_ld rfl rfl (rd.iat k (by omega) (by omega)) ?_;refine k_neqS rfl rfl (fun hc=>?_) (fun hc=>?_)
     ·refine k_pickF rfl zq ?_;refine d7 ?_;refine run_draw [(0,.pure),(1,.pure),(2,.pure),(3,.pure),(4,.pure),(5,.pure),(8,.pure),(9,.pure),(10,.pure),(6,.read),(7,.keep),(11,.free),(12,.free),(13,.pure)] (by kernel_rfl) (by kernel_rfl) (List.Sublist.refl _) ?_;refine d3 ?_
      refine k_slTo (b:=j) rfl zq hw.okp rfl (by omega) ?_;refine d11 ?_;refine d3 ?_
      refine k_slFrom (a:=j) rfl zq rfl (by omega) ?_;refine k_ld rfl zq (rd.iat k (by omega) (by omega)) ?_;refine k_bs kdq rfl zq (by decide) (by decide) rfl (fun q51=>k_hp (k_put ?_));refine k_app (F:=h++new) rfl zq weakSub (OwnS.full (n:=1) (cs:=[.int .i64 (xs.getD k 0)]) rfl) (hw.cut (lo:=j) (by omega) (by omega)).up (by rw [Nat.mul_one,←ints_drop];exact ints_one _) kdq (by omega) (by omega) (fun w6 n6 o6=>k_put ?_);obtain ⟨p6,c6,rfl,_⟩:=o6.len
      have r6:RdS B n6 1 (.slice p6 _ c6) _ _:=(o6.rd')
      refine k_app (F:=h++n6) rfl zq (Weak.mid h new n6) (ho.pre (m:=j) (by omega)) r6.up (by rw [Nat.mul_one,←ints_drop];intro u hu;rcases List.mem_cons.1 hu with rfl|hu;rfl;exact ints_one _ u hu) kdq (by omega) (by omega) (fun w7 n7 o7=>k_put ?_);obtain ⟨p7,c7,rfl,_⟩:=o7.len
      have hys:(ints ys).take (j*1)++([Value.int .i64 (xs.getD k 0)]++(ints ys).drop (j*1))=ints (ys.take j++xs.getD k 0::ys.drop j):=by
       rw [Nat.mul_one,ints_append,ints_take];simp
      have hyn:j+(1+(ys.length-j))=(ys.take j++xs.getD k 0::ys.drop j).length:=by simp;omega
      rw [hys,hyn] at o7
      rw [hyn];refine d45 ?_;refine rr3 ?_;refine d61 ?_
      exact m.weak weakSub (hnext1 _ _ _ (by omega) ⟨k+1,_,ys.take j++xs.getD k 0::ys.drop j,p7,c7,rfl,by omega,o7,by first|(exfalso;omega)|exact ha.ins (by omega) hlt (fun hlt2=>by have:=hlt2;omega),fun z=>by rw [mem_ins,mem_take_succ (by omega),hm],by rw [←hyn];omega,exU rfl,rfl⟩)
     ·refine d126 ?_;refine d109 ?_
      exact m.weak weakSub (hnext1 _ _ _ (by omega) ⟨k+1,_,ys,_,_,rfl,by omega,ho,ha,fun z=>by
       rw [mem_take_succ (by omega),←hm];refine ⟨.inl,?_⟩
       rintro (h1|rfl)
       ·exact h1
       ·first|(exfalso;omega)|exact mem_getD.2 ⟨j,by omega,by assumption⟩,by omega,exU rfl,rfl⟩)
  ·refine d115 ?_;refine d72 ?_;refine d75 ?_;refine run_seq ?_
   refine run_draw [(0,.pure),(1,.pure),(2,.pure),(3,.pure),(4,.pure),(5,.pure),(6,.pure),(7,.pure),(9,.pure),(10,.pure),(11,.pure),(8,.read),(12,.read),(13,.pure),(14,.pure)] (by kernel_rfl) (by kernel_rfl) (List.Sublist.refl _) ?_;refine d3 ?_;refine k_len rfl zq ?_
   refine k_eqlS rfl zq (fun hc=>?_) (fun hc=>?_)
   ·refine d115 ?_;refine k_off rfl rfl ?_;refine k_pickT rfl zq ?_;refine d7 ?_
    refine run_draw [(0,.pure),(1,.pure),(2,.pure),(3,.pure),(4,.pure),(5,.pure),(8,.pure),(9,.pure),(10,.pure),(6,.read),(7,.keep),(11,.free),(12,.free),(13,.pure)] (by kernel_rfl) (by kernel_rfl) (List.Sublist.refl _) ?_;refine d3 ?_
    refine k_slTo (b:=j) rfl zq hw.okp rfl (by omega) ?_;refine d3 ?_
    obtain ⟨rd_b,rd_o,rfl⟩:=rd.ptr (by omega)
    refine k_ixs rfl zq (by first|rfl|assumption) (by omega) (by omega) ?_;refine d3 ?_;refine k_slFrom (a:=j) rfl zq rfl (by omega) ?_;refine k_ld rfl zq (rd.iat k (by omega) (by omega)) ?_;refine k_bs kdq rfl zq (by decide) (by decide) rfl (fun q51=>k_hp (k_put ?_));refine k_app (F:=h++new) rfl zq weakSub (OwnS.full (n:=1) (cs:=[.int .i64 (xs.getD k 0)]) rfl) (hw.cut (lo:=j) (by omega) (by omega)).up (by rw [Nat.mul_one,←ints_drop];exact ints_one _) kdq (by omega) (by omega) (fun w6 n6 o6=>k_put ?_);obtain ⟨p6,c6,rfl,_⟩:=o6.len
    have r6:RdS B n6 1 (.slice p6 _ c6) _ _:=(o6.rd')
    refine k_app (F:=h++n6) rfl zq (Weak.mid h new n6) (ho.pre (m:=j) (by omega)) r6.up (by rw [Nat.mul_one,←ints_drop];intro u hu;rcases List.mem_cons.1 hu with rfl|hu;rfl;exact ints_one _ u hu) kdq (by omega) (by omega) (fun w7 n7 o7=>k_put ?_);obtain ⟨p7,c7,rfl,_⟩:=o7.len
    have hys:(ints ys).take (j*1)++([Value.int .i64 (xs.getD k 0)]++(ints ys).drop (j*1))=ints (ys.take j++xs.getD k 0::ys.drop j):=by
     rw [Nat.mul_one,ints_append,ints_take];simp
    have hyn:j+(1+(ys.length-j))=(ys.take j++xs.getD k 0::ys.drop j).length:=by simp;omega
    rw [hys,hyn] at o7
    rw [hyn];refine d45 ?_;refine rr3 ?_;refine d61 ?_
    exact m.weak weakSub (hnext1 _ _ _ (by omega) ⟨k+1,_,ys.take j++xs.getD k 0::ys.drop j,p7,c7,rfl,by omega,o7,by first|(exfalso;omega)|exact ha.ins (by omega) hlt (fun _=>by omega),fun z=>by rw [mem_ins,mem_take_succ (by omega),hm],by rw [←hyn];omega,exU rfl,rfl⟩)
   ·refine d23 ?_;refine k_mv rfl rfl ?_
    obtain ⟨hw_b,hw_o,rfl⟩:=hw.ptr (by omega)
    refine k_ixs rfl rfl (by first|rfl|assumption) (by omega) (by omega) ?_;refine k_mv rfl rfl ?_;refine k_mv rfl rfl ?_;obtain ⟨rd_b,rd_o,rfl⟩:=rd.ptr (by omega)
    refine k_ixs rfl rfl (by first|rfl|assumption) (by omega) (by omega) ?_;refine k_ld rfl rfl (hw.iat j (by omega) (by omega)) ?_;refine k_ld rfl rfl (rd.iat k (by omega) (by omega)) ?_;refine k_neqS rfl rfl (fun hc=>?_) (fun hc=>?_)
    ·refine k_pickF rfl zq ?_;refine d7 ?_;refine run_draw [(0,.pure),(1,.pure),(2,.pure),(3,.pure),(4,.pure),(5,.pure),(8,.pure),(9,.pure),(10,.pure),(6,.read),(7,.keep),(11,.free),(12,.free),(13,.pure)] (by kernel_rfl) (by kernel_rfl) (List.Sublist.refl _) ?_;refine d3 ?_
     refine k_slTo (b:=j) rfl zq hw.okp rfl (by omega) ?_;refine d11 ?_;refine d3 ?_
     refine k_slFrom (a:=j) rfl zq rfl (by omega) ?_;refine k_ld rfl zq (rd.iat k (by omega) (by omega)) ?_;refine k_bs kdq rfl zq (by decide) (by decide) rfl (fun q51=>k_hp (k_put ?_));refine k_app (F:=h++new) rfl zq weakSub (OwnS.full (n:=1) (cs:=[.int .i64 (xs.getD k 0)]) rfl) (hw.cut (lo:=j) (by omega) (by omega)).up (by rw [Nat.mul_one,←ints_drop];exact ints_one _) kdq (by omega) (by omega) (fun w6 n6 o6=>k_put ?_);obtain ⟨p6,c6,rfl,_⟩:=o6.len
     have r6:RdS B n6 1 (.slice p6 _ c6) _ _:=(o6.rd')
     refine k_app (F:=h++n6) rfl zq (Weak.mid h new n6) (ho.pre (m:=j) (by omega)) r6.up (by rw [Nat.mul_one,←ints_drop];intro u hu;rcases List.mem_cons.1 hu with rfl|hu;rfl;exact ints_one _ u hu) kdq (by omega) (by omega) (fun w7 n7 o7=>k_put ?_);obtain ⟨p7,c7,rfl,_⟩:=o7.len
     have hys:(ints ys).take (j*1)++([Value.int .i64 (xs.getD k 0)]++(ints ys).drop (j*1))=ints (ys.take j++xs.getD k 0::ys.drop j):=by
      rw [Nat.mul_one,ints_append,ints_take];simp
     have hyn:j+(1+(ys.length-j))=(ys.take j++xs.getD k 0::ys.drop j).length:=by simp;omega
     rw [hys,hyn] at o7
     rw [hyn];refine d45 ?_;refine rr3 ?_;refine d61 ?_
     exact m.weak weakSub (hnext1 _ _ _ (by omega) ⟨k+1,_,ys.take j++xs.getD k 0::ys.drop j,p7,c7,rfl,by omega,o7,by first|(exfalso;omega)|exact ha.ins (by omega) hlt (fun hlt2=>by have:=hlt2;omega),fun z=>by rw [mem_ins,mem_take_succ (by omega),hm],by rw [←hyn];omega,exU rfl,rfl⟩)
    ·refine d126 ?_;refine d109 ?_
     exact m.weak weakSub (hnext1 _ _ _ (by omega) ⟨k+1,_,ys,_,_,rfl,by omega,ho,ha,fun z=>by
      rw [mem_take_succ (by omega),←hm];refine ⟨.inl,?_⟩
      rintro (h1|rfl)
      ·exact h1
      ·first|(exfalso;omega)|exact mem_getD.2 ⟨j,by omega,by assumption⟩,by omega,exU rfl,rfl⟩)
 ·refine d75 ?_;refine d99 ?_
  refine run_res (h++new) rfl Tryz.func116 rfl weakSub ?_;refine hK _ _ ?_;obtain rfl:k=n:=by omega
  rw [List.take_of_length_le (by omega)] at hm
  exact ⟨_,rfl,ys,ha,hm,ho⟩
end Go.Proofs
namespace Go.Proofs
open Go.Lo
open Go.Conc (G)
set_option maxRecDepth 100000
set_option synthInstance.maxSize 100000
set_option synthInstance.maxHeartbeats 1000000
set_option maxHeartbeats 4000000
variable {b:Fb} {pp:Option Addr} {np cp:Nat} {pt:Option Addr} {nt ct:Nat} {pk:Option Addr} {nk ck:Nat}
variable {B:Array Obj}
theorem root_step {n k s:Nat} (h1:k*k≤n) (h2:n<(k+2*s)*(k+2*s)):(((k+s)*(k+s)≤n)→(k+s)*(k+s)≤n∧n<(k+s+s)*(k+s+s))∧(¬(k+s)*(k+s)≤n→k*k≤n∧n<(k+s)*(k+s)):=
 ⟨fun h=>⟨h,by rw [show k+s+s=k+2*s by omega];exact h2⟩,fun h=>⟨h1,by omega⟩⟩
theorem sum_cast (k s:Nat):((k:Int)+(s:Int))*((k:Int)+(s:Int))=(((k+s)*(k+s):Nat):Int):=by rw [Int.natCast_mul];rfl
theorem half_pow {s e:Nat} (hs:s=2^(e-1)) (h1:1≤e) (h2:e≤21):(s/2=0∧s=1∧e-1=0)∨(s=2*(s/2)∧s/2=2^(e-1-1)∧1≤e-1∧e-1≤21):=by
 by_cases he:e=1
 ·subst he
  subst hs
  exact .inl (by decide)
 ·obtain ⟨d,rfl⟩: ∃d,e=d+2:=⟨e-2,by omega⟩
  have:2^(d+2-1)=2*2^d:=by rw [show d+2-1=d+1 by omega,Nat.pow_succ,Nat.mul_comm]
  rw [hs,this];exact .inr ⟨by omega,by rw [show d+2-1-1=d by omega];omega,by omega,by omega⟩
theorem f85_c (m:Md Tryz.prog B) (h:Hp) (n:Nat) (hn:n≤4000000):FnC m 85 #[.int .i64 (n:Int)] h fun v h'=>h'=h∧v= .int .i64 (rootI n):=by
 refine fn_enter Tryz.func85 rfl rfl (l:=(.int .i64 (n:Int))::uu21) rfl ?_
 intro cf cs K hK
 refine d82 ?_;refine d93 ?_;refine d142 ?_
 refine run_loop (fun nn l h'=> ∃(k s w:Nat) (e:Nat),nn=e*1∧(k*k≤n)∧(n<(k+w)*(k+w))∧(k≤2000)∧((s=0∧w=1∧e=0)∨(w=2*s∧s=2^(e-1)∧1≤e∧e≤21))∧(∃U:Nat→Value,l=((.int .i64 (n:Int))::(U 1)::(U 2)::(.int .i64 (k:Int))::(.int .i64 (s:Int))::vw17 U 5 []))∧h=h') _ ⟨0,1048576,2097152,21,rfl,by omega,by omega,by omega,.inr (by decide),exU rfl,rfl⟩ ?_;rintro nn l h' ⟨k,s,w,e,rfl,hk,hkw,hk2,hse,⟨U,rfl⟩,rfl⟩ hnext;have hs20:s≤1048576:=by
  rcases hse with ⟨rfl,_⟩|⟨_,rfl,_,he⟩
  ·omega
  ·exact Nat.pow_le_pow_right (n:=2) (by omega) (show e-1≤20 by omega)
 have hsq:(k+s)*(k+s)≤1100000*1100000:=sq_le (by omega)
 have hkc:=sum_cast k s
 refine run_seq ?_;refine d18 ?_;refine k_gtrS rfl zq (fun hc=>?_) (fun hc=>?_)
 ·refine d98 ?_;refine rs9 ?_;refine d3 ?_;refine k_add rfl zq (by unfold In64;omega) ?_;refine d3 ?_;refine k_add rfl zq (by unfold In64;omega) ?_;refine k_mul rfl zq (by unfold In64;omega) ?_;refine mq rfl ?_
  refine k_leqS rfl zq (fun hc=>?_) (fun hc=>?_)
  ·refine d7 ?_;refine rr4 ?_;refine d3 ?_;refine k_add rfl zq (by unfold In64;omega) ?_;refine d45 ?_;refine rr3 ?_;refine mq rfl ?_
   refine k_quo s 2 rfl zq rfl rfl (by omega) (by omega) ?_;refine aq rfl ?_
   obtain ⟨rfl,hs,he1,he2⟩:=hse.resolve_left (by omega)
   have hrs:=(root_step hk hkw).1 (by omega)
   have hk2000:k+s≤2000:=by
    rcases Nat.lt_or_ge 2000 (k+s) with h3|h3
    ·have:=sq_le (show 2001≤k+s by omega);omega
    ·exact h3
   exact m.weak weakSub (hnext _ _ _ (by rcases hse with ⟨_,_,_⟩|⟨_,_,_,_⟩<;>omega) ⟨k+s,s/2,s,e-1,rfl,hrs.1,hrs.2,hk2000,half_pow hs he1 he2,exU rfl,rfl⟩)
  ·refine d13 ?_;refine d62 ?_;refine mq rfl ?_
   refine k_quo s 2 rfl zq rfl rfl (by omega) (by omega) ?_;refine aq rfl ?_
   obtain ⟨rfl,hs,he1,he2⟩:=hse.resolve_left (by omega)
   have hrs:=(root_step hk hkw).2 (by omega)
   exact m.weak weakSub (hnext _ _ _ (by rcases hse with ⟨_,_,_⟩|⟨_,_,_,_⟩<;>omega) ⟨k,s/2,s,e-1,rfl,hrs.1,hrs.2,hk2,half_pow hs he1 he2,exU rfl,rfl⟩)
 ·refine d75 ?_;refine d99 ?_
  refine run_res (h) rfl Tryz.func85 rfl weakSub ?_;refine hK _ _ ?_;obtain rfl:s=0:=by omega
  obtain ⟨_,rfl,_⟩:=hse.resolve_right (by rintro ⟨h1,h2,h3,_⟩;have:=Nat.pow_pos (n:=e-1) (show 0<2 by omega);omega)
  refine ⟨rfl,?_⟩
  rw [show rootI (n:Int)=(k:Int) by rw [rootI,Int.toNat_natCast,rootN_eq hk hkw]]
theorem f97_c (m:Md Tryz.prog B) (h:Hp) (f t:Int) (hp:np≤1000):FnC m 97 #[fbV b pp np cp pt nt ct pk nk ck,.int .i64 f,.int .i64 t] h fun v h'=>h'=h∧v= .int .i64 (ordS np f t):=by
 refine fn_enter Tryz.func97 rfl rfl (l:=(fbV b pp np cp pt nt ct pk nk ck)::(.int .i64 f)::(.int .i64 t)::uu17) rfl ?_
 intro cf cs K hK
 refine rs2 ?_;refine k_box rfl zq (fun q3=>k_hp (k_put ?_));refine d12 ?_;refine rs10 ?_;refine d69 ?_
 refine k_calP (Post:=fun v=>IsB _ v) rfl zq (by kernel_rfl) (fun H' hH=>f115_c m H' _ hp) ?_;rintro v (⟨hc,rfl⟩|⟨hc,rfl⟩)
 ·refine d43 ?_;refine mq rfl ?_;refine k_ldA rfl rfl ?_;refine k_mv rfl rfl ?_
  refine k_calP (Post:=fun v=>IsB _ v) rfl rfl (by kernel_rfl) (fun H' hH=>f115_c m H' _ hp) ?_;rintro v (⟨hc,rfl⟩|⟨hc,rfl⟩)
  ·refine d84 ?_;refine k_pickF rfl zq ?_;refine d37 ?_;refine rs3 ?_;refine d3 ?_
   refine k_geqS rfl zq (fun hc=>?_) (fun hc=>?_)
   ·refine d58 ?_
    refine run_res (h) rfl Tryz.func97 rfl weakSub ?_;refine hK _ _ ?_;refine ⟨rfl,?_⟩
    unfold ordS
    first|rw [if_pos (by first|exact .inl (by assumption)|exact .inr (by assumption))]|rw [if_neg (by rintro (e|e)<;>contradiction),if_pos (by omega)]|rw [if_neg (by rintro (e|e)<;>contradiction),if_neg (by omega)]
   ·refine d13 ?_;refine d38 ?_
    refine run_res (h) rfl Tryz.func97 rfl weakSub ?_;refine hK _ _ ?_;refine ⟨rfl,?_⟩
    unfold ordS
    first|rw [if_pos (by first|exact .inl (by assumption)|exact .inr (by assumption))]|rw [if_neg (by rintro (e|e)<;>contradiction),if_pos (by omega)]|rw [if_neg (by rintro (e|e)<;>contradiction),if_neg (by omega)]
  ·refine d100 ?_;refine k_pickF rfl zq ?_;refine d58 ?_
   refine run_res (h) rfl Tryz.func97 rfl weakSub ?_;refine hK _ _ ?_;refine ⟨rfl,?_⟩
   unfold ordS
   first|rw [if_pos (by first|exact .inl (by assumption)|exact .inr (by assumption))]|rw [if_neg (by rintro (e|e)<;>contradiction),if_pos (by omega)]|rw [if_neg (by rintro (e|e)<;>contradiction),if_neg (by omega)]
 ·refine d44 ?_;refine d66 ?_;refine d138 ?_
  refine run_res (h) rfl Tryz.func97 rfl weakSub ?_;refine hK _ _ ?_;refine ⟨rfl,?_⟩
  unfold ordS
  first|rw [if_pos (by first|exact .inl (by assumption)|exact .inr (by assumption))]|rw [if_neg (by rintro (e|e)<;>contradiction),if_pos (by omega)]|rw [if_neg (by rintro (e|e)<;>contradiction),if_neg (by omega)]
section
variable {P:Program} {B:Array Obj} {m:Md P B} {ops:Array Oper} {l l':List Value} {S h h' H:Hp} {C:List Value→Hp→Prop} {i:Nat} {kd:Kd} {r:List (Nat×Kd)}
 {d:Option Tmp} {ty:TypeId} {pos:String} {af:Array Edge} {g:Option (Nat×Bool)}
end
theorem f155_c (m:Md Tryz.prog B) (h:Hp) (x y:Int) (hx: -10000000≤x∧x≤10000000) (hy:0<y∧y≤1000):FnC m 155 #[.int .i64 x,.int .i64 y] h fun v h'=>h'=h∧v= .int .i64 (downI x y):=by
 refine fn_enter Tryz.func155 rfl rfl (l:=(.int .i64 x)::(.int .i64 y)::uu15) rfl ?_
 intro cf cs K hK
 refine d82 ?_;refine d64 ?_
 have hds:=divs (x:=x) hy.1
 have hdb:=div_small (x:=x) hy.1 hx
 have hq: -10000001≤x.tdiv y∧x.tdiv y≤10000001:=by omega
 refine k_quoZ rfl zq (by omega) (by unfold In64;omega) ?_;refine d12 ?_;refine rs5 ?_;refine d3 ?_
 have hmb:=mulB hq (show-1000≤y∧y≤1000 by omega)
 have hme:(x.tdiv y)*y=x-x.tmod y:=by have:=Int.mul_tdiv_add_tmod x y;rw [Int.mul_comm] at this;omega
 refine k_mul rfl zq (by unfold In64;omega) ?_;refine mq rfl ?_;refine k_gtrS rfl zq (fun hc=>?_) (fun hc=>?_)
 ·refine d7 ?_;refine rr3 ?_;refine d36 ?_;refine aq rfl ?_;refine d99 ?_
  refine run_res (h) rfl Tryz.func155 rfl weakSub ?_;refine hK _ _ ?_;refine ⟨rfl,?_⟩
  unfold downI
  congr 2
  omega
 ·refine d13 ?_;refine d99 ?_
  refine run_res (h) rfl Tryz.func155 rfl weakSub ?_;refine hK _ _ ?_;refine ⟨rfl,?_⟩
  unfold downI
  congr 2
  omega
theorem f94_c (m:Md Tryz.prog B) (h:Hp) (rdp:Rp B h b pp np cp) (hp:np≤1000) {p:Option Addr} {n c:Nat} {xs:List Int} (rd:RdS B h 1 (.slice p n c) n (ints xs)) (hn:n≤1000) (hln:np≤n) (hpo:PtsOk b.pts) (hs:SmL xs) (x:Int) (hx:(b.pts.getD 0 default).h≤x∧x≤(b.pts.getD (np-1) default).h):FnC m 94 #[fbV b pp np cp pt nt ct pk nk ck,.slice p n c,.int .i64 x] h fun v h'=>h'=h∧v= .int .i64 (atI b.pts xs x):=by
 have hml:=rdp.elen (by decide)
 have hll:=rd.ilen
 have hnp2:=hpo.two
 have hnp5:=hpo.five
 refine fn_enter Tryz.func94 rfl rfl (l:=(fbV b pp np cp pt nt ct pk nk ck)::(.slice p n c)::(.int .i64 x)::uu54) rfl ?_
 intro cf cs K hK
 refine rs2 ?_;refine k_box rfl zq (fun q3=>k_hp (k_put ?_));refine aq rfl ?_;refine d93 ?_;refine run_block ?_
 refine run_loop (fun nn l h'=> ∃(i:Nat),nn=np-i∧(i+1<np)∧(∀k,k<i→(b.pts.getD (k+1) default).h<x)∧(∃U:Nat→Value,l=((fbV b pp np cp pt nt ct pk nk ck)::(.slice p n c)::(.int .i64 x)::(.pointer (some ⟨q3,0,none⟩))::(U 4)::(U 5)::(U 6)::(.int .i64 (i:Int))::(U 8)::vw48 U 9 []))∧h++[⟨true,q3,.cells (fbL b pp np cp pt nt ct pk nk ck).toArray 26 (0,0)⟩]=h') _ ⟨0,rfl,by omega,fun k hk=>by omega,exU rfl,rfl⟩ ?_;rintro nn l h' ⟨i,rfl,hi,hlow,⟨U,rfl⟩,rfl⟩ hnext;refine run_seq ?_;refine rs9 ?_;refine d2 ?_;refine d4 ?_;obtain ⟨rdp_b,rdp_o,rfl⟩:=rdp.ptr (by omega)
 refine d20 ?_
 refine k_ld rfl zq (rdp.fat (v:= .int .i64 (b.pts.getD (i+1) default).h) (i+1) 0 (by omega) (by omega) rfl) ?_;refine mq rfl ?_
 refine k_lssS rfl zq (fun hc=>?_) (fun hc=>?_)
 ·refine d7 ?_;refine d103 ?_;refine rr3 ?_;refine d4 ?_;refine d45 ?_
  exact m.weak weakSub (hnext _ _ _ (by omega) ⟨i+1,rfl,by
   rcases Nat.lt_or_ge (i+1+1) np with h3|h3
   ·exact h3
   ·have:np-1=i+1:=by omega
    rw [this] at hx
    omega,fun k hk=>by
   rcases Nat.lt_or_ge k i with h3|h3
   ·exact hlow k h3
   ·obtain rfl:k=i:=by omega
    assumption,exU rfl,rfl⟩)
 ·refine d75 ?_;refine run_seq ?_
  have hseg:segN b.pts x=i:=segN_eq (by omega) hlow (by omega)
  have ha:=hpo.at (show i<b.pts.length by omega)
  have hb:=hpo.at (show i+1<b.pts.length by omega)
  have hup:=hpo.up i (by omega)
  have hl0:=hs i
  have hl1:=hs (i+1)
  have hxi:(b.pts.getD i default).h≤x:=by
   rcases Nat.eq_zero_or_pos i with h3|h3
   ·rw [h3];exact hx.1
   ·have:=hlow (i-1) (by omega);rw [show i-1+1=i by omega] at this;omega
  have hmul:=mulB (x:=xs.getD (i+1) 0-xs.getD i 0) (y:=x-(b.pts.getD i default).h) (a:=959) (b:=959) (by omega) (by omega)
  refine run_draw [(0,.pure),(2,.pure),(6,.pure),(8,.pure),(9,.pure),(1,.read),(3,.pure),(4,.pure),(5,.read),(13,.pure),(7,.read),(10,.pure),(11,.pure),(12,.read),(14,.pure)] (by kernel_rfl) (by kernel_rfl) (List.Sublist.refl _) ?_;(first|refine k_fa0 rfl zq ?_|refine k_fa rfl zq ?_);refine mq rfl ?_;(first|refine k_fa0 rfl zq ?_|refine k_fa rfl zq ?_);refine d4 ?_;refine k_ldh rfl zq ?_;refine d20 ?_
  refine k_ld rfl zq (rdp.fat (v:= .int .i64 (b.pts.getD i default).h) i 0 (by omega) (by omega) rfl) ?_;refine k_as rfl zq ?_;refine k_ldh rfl zq ?_;refine d20 ?_;refine k_ld rfl zq (rdp.fat (v:= .int .i64 (b.pts.getD (i+1) default).h) (i+1) 0 (by omega) (by omega) rfl) ?_;refine d12 ?_
  refine run_draw [(0,.pure),(1,.pure),(2,.pure),(4,.pure),(5,.pure),(6,.pure),(7,.pure),(9,.pure),(10,.pure),(11,.pure),(14,.pure),(15,.pure),(16,.pure),(18,.pure),(19,.pure),(20,.pure),(3,.read),(8,.read),(12,.read),(13,.pure),(17,.pure),(21,.keep),(22,.pure),(23,.pure)] (by kernel_rfl) (by kernel_rfl) (List.Sublist.refl _) ?_;refine d3 ?_
  obtain ⟨rd_b,rd_o,rfl⟩:=rd.ptr (by omega)
  refine k_ixs rfl zq (by first|rfl|assumption) (by omega) (by omega) ?_;refine d3 ?_;refine k_add rfl zq (by unfold In64;omega) ?_;refine k_ixs rfl zq (by first|rfl|assumption) (by omega) (by omega) ?_;refine d11 ?_;refine d26 ?_;refine d26 ?_;refine k_ld rfl zq (rd.iat i (by omega) (by omega)) ?_;refine k_ld rfl zq (rd.iat (i+1) (by omega) (by omega)) ?_;refine k_ld rfl zq (rd.iat i (by omega) (by omega)) ?_;refine k_sub rfl zq (by unfold In64;omega) ?_;refine k_mul rfl zq (by unfold In64;omega) ?_;refine k_calP (Post:=fun v=>v=_) rfl zq (by kernel_rfl) (fun H' hH=>f155_c m H' _ _ (by omega) (by omega)) ?_;rintro v rfl;refine k_put ?_;have hdn:=div_small (x:=(xs.getD (i+1) 0-xs.getD i 0)*(x-(b.pts.getD i default).h)) (y:=(b.pts.getD (i+1) default).h-(b.pts.getD i default).h) (by omega) (b:=959*959) hmul
  unfold downI
  refine d121 ?_
  refine run_res (h) rfl Tryz.func94 rfl weakSub ?_;refine hK _ _ ?_;refine ⟨rfl,?_⟩
  unfold atI
  rw [hseg];rfl
theorem f100_c (m:Md Tryz.prog B) (h:Hp) (rdp:Rp B h b pp np cp) (hp:np≤1000) {p:Option Addr} {n c:Nat} {xs:List Int} (rd:RdS B h 1 (.slice p n c) n (ints xs)) (hn:n≤1000) (hln:n=np) (hpo:PtsOk b.pts) (hs:SmL xs):FnC m 100 #[fbV b pp np cp pt nt ct pk nk ck,.slice p n c] h fun v h'=>h'=h∧v= .int .i64 (areaI b.pts xs):=by
 have hml:=rdp.elen (by decide)
 have hll:=rd.ilen
 have hnp2:=hpo.two
 have hnp5:=hpo.five
 refine fn_enter Tryz.func100 rfl rfl (l:=[fbV b pp np cp pt nt ct pk nk ck,.slice p n c,undef,undef,undef,undef,undef,undef,undef,undef,undef,undef,undef,undef,undef,undef,undef,undef,undef,undef,undef,undef,undef,undef,undef,undef,undef,undef,undef,undef,undef,undef,undef,undef,undef,undef,undef,undef,undef,undef,undef,undef]) rfl ?_
 intro cf cs K hK
 refine rs2 ?_;refine k_box rfl zq (fun q2=>k_hp (k_put ?_));refine aq rfl ?_;refine d93 ?_;refine d142 ?_
 refine run_loop (fun nn l h'=> ∃(k:Nat) (s:Int),nn=np-k∧(k+1≤np)∧(s=areaF b.pts xs k)∧(0≤s)∧(s≤k*2000000)∧(∃U:Nat→Value,l=((fbV b pp np cp pt nt ct pk nk ck)::(.slice p n c)::(.pointer (some ⟨q2,0,none⟩))::(U 3)::(U 4)::(.int .i64 s)::(.int .i64 (k:Int))::(U 7)::vw34 U 8 []))∧h++[⟨true,q2,.cells (fbL b pp np cp pt nt ct pk nk ck).toArray 26 (0,0)⟩]=h') _ ⟨0,0,rfl,by omega,rfl,by omega,by omega,exU rfl,rfl⟩ ?_;rintro nn l h' ⟨k,s,rfl,hk,hsum,hs0,hs1,⟨U,rfl⟩,rfl⟩ hnext;refine run_seq ?_;refine rs5 ?_;refine d4 ?_;refine mq rfl ?_;refine k_len rfl zq ?_;refine k_lssS rfl zq (fun hc=>?_) (fun hc=>?_)
 ·refine d98 ?_
  have ha:=hpo.at (show k<b.pts.length by omega)
  have hb:=hpo.at (show k+1<b.pts.length by omega)
  have hup:=hpo.up k (by omega)
  have hl0:=hs k
  have hl1:=hs (k+1)
  have hmul:=mulB (x:=xs.getD k 0+xs.getD (k+1) 0) (y:=(b.pts.getD (k+1) default).h-(b.pts.getD k default).h) (a:=1918) (b:=959) (by omega) (by omega)
  have hpos:=Int.mul_nonneg (show 0≤xs.getD k 0+xs.getD (k+1) 0 by omega) (show 0≤(b.pts.getD (k+1) default).h-(b.pts.getD k default).h by omega)
  refine run_draw [(0,.pure),(1,.pure),(2,.pure),(3,.pure),(5,.pure),(6,.pure),(7,.pure),(8,.pure),(11,.pure),(13,.pure),(14,.pure),(18,.pure),(20,.pure),(4,.read),(9,.read),(10,.pure),(12,.read),(15,.pure),(16,.pure),(17,.read),(19,.read),(21,.pure),(22,.pure),(23,.read),(24,.pure),(25,.pure),(26,.pure),(27,.pure)] (by kernel_rfl) (by kernel_rfl) (List.Sublist.refl _) ?_
  
  refine d3 ?_;refine mq rfl ?_
  obtain ⟨rd_b,rd_o,rfl⟩:=rd.ptr (by omega)
  refine k_ixs rfl zq (by first|rfl|assumption) (by omega) (by omega) ?_;refine d3 ?_;refine k_add rfl zq (by unfold In64;omega) ?_;refine d20 ?_;refine d4 ?_;(first|refine k_fa0 rfl zq ?_|refine k_fa rfl zq ?_);refine mq rfl ?_;refine k_ld rfl zq (rd.iat k (by omega) (by omega)) ?_;refine k_ld rfl zq (rd.iat (k+1) (by omega) (by omega)) ?_;refine k_add rfl zq (by unfold In64;omega) ?_;refine k_ldh rfl zq ?_;obtain ⟨rdp_b,rdp_o,rfl⟩:=rdp.ptr (by omega)
  refine d20 ?_
  refine k_ld rfl zq (rdp.fat (v:= .int .i64 (b.pts.getD (k+1) default).h) (k+1) 0 (by omega) (by omega) rfl) ?_;refine k_ldh rfl zq ?_;refine d20 ?_;refine k_ld rfl zq (rdp.fat (v:= .int .i64 (b.pts.getD k default).h) k 0 (by omega) (by omega) rfl) ?_;refine k_sub rfl zq (by unfold In64;omega) ?_;refine d53 ?_;refine d45 ?_;refine rr3 ?_;refine d61 ?_;exact m.weak weakSub (hnext _ _ _ (by omega) ⟨k+1,_,rfl,by omega,by rw [areaF,←hsum],by omega,by push_cast;omega,exU rfl,rfl⟩)
 ·refine d75 ?_;refine d99 ?_
  refine run_res (h) rfl Tryz.func100 rfl weakSub ?_;refine hK _ _ ?_;obtain rfl:k=np-1:=by omega
  exact ⟨rfl,by rw [hsum,areaI,hml]⟩
theorem f98_c (m:Md Tryz.prog B) (h:Hp) (rdp:Rp B h b pp np cp) (hp:np≤1000) {p:Option Addr} {n c:Nat} {xs:List Int} (rd:RdS B h 1 (.slice p n c) n (ints xs)) (hn:n≤1000) (hln:np≤n) (hpo:PtsOk b.pts) (hs:SmL xs) (f t:Nat) (hft:f≤t) (ht:t<np):FnC m 98 #[fbV b pp np cp pt nt ct pk nk ck,.slice p n c,.int .i64 (f:Int),.int .i64 (t:Int)] h fun v h'=>h'=h∧v= .int .i64 (girthI b.pts xs f t):=by
 have hml:=rdp.elen (by decide)
 have hll:=rd.ilen
 have hnp2:=hpo.two
 have hnp5:=hpo.five
 refine fn_enter Tryz.func98 rfl rfl (l:=[fbV b pp np cp pt nt ct pk nk ck,.slice p n c,.int .i64 (f:Int),.int .i64 (t:Int),undef,undef,undef,undef,undef,undef,undef,undef,undef,undef,undef,undef,undef,undef,undef,undef,undef,undef,undef,undef,undef,undef,undef,undef,undef,undef,undef,undef,undef,undef,undef,undef,undef,undef,undef,undef,undef,undef,undef,undef,undef,undef,undef,undef,undef,undef,undef,undef,undef,undef]) rfl ?_
 intro cf cs K hK
 refine rs2 ?_;refine k_box rfl zq (fun q4=>k_hp (k_put ?_));refine aq rfl ?_;refine rs1 ?_;refine d68 ?_;refine d54 ?_
 refine run_loop (fun nn l h'=> ∃(k:Nat) (s:Int),nn=t-(f+k)∧(f+k≤t)∧(s=girthF b.pts xs f k)∧(0≤s)∧(s≤k*1400)∧(∃U:Nat→Value,l=((fbV b pp np cp pt nt ct pk nk ck)::(.slice p n c)::(.int .i64 (f:Int))::(.int .i64 (t:Int))::(.pointer (some ⟨q4,0,none⟩))::vw4 U 5 ((.int .i64 s)::(.int .i64 ((f+k:Nat):Int))::(U 11)::vw42 U 12 [])))∧h++[⟨true,q4,.cells (fbL b pp np cp pt nt ct pk nk ck).toArray 26 (0,0)⟩]=h') _ ⟨0,0,rfl,by omega,rfl,by omega,by omega,exU rfl,rfl⟩ ?_;rintro nn l h' ⟨k,s,rfl,hk,hsum,hs0,hs1,⟨U,rfl⟩,rfl⟩ hnext;refine run_seq ?_;refine rs3 ?_;refine d3 ?_;refine k_lssS rfl zq (fun hc=>?_) (fun hc=>?_)
 ·refine d98 ?_;refine run_seq ?_
  have ha:=hpo.at (show f+k<b.pts.length by omega)
  have hb:=hpo.at (show f+k+1<b.pts.length by omega)
  have hup:=hpo.up (f+k) (by omega)
  have hl0:=hs (f+k)
  have hl1:=hs (f+k+1)
  obtain ⟨N,hN,hN2⟩:=side_nat (x:=(b.pts.getD (f+k+1) default).h-(b.pts.getD (f+k) default).h) (y:=xs.getD (f+k+1) 0-xs.getD (f+k) 0) (by omega) (by omega)
  have hrs:=root_small hN2
  have hro:sideI b.pts xs (f+k)=(rootN N:Int):=by rw [sideI,hN];rfl
  have hrI:rootI (N:Int)=(rootN N:Int):=rfl
  refine run_draw [(0,.pure),(2,.pure),(3,.pure),(7,.pure),(9,.pure),(14,.pure),(15,.pure),(16,.pure),(17,.pure),(19,.pure),(20,.pure),(21,.pure),(1,.read),(4,.pure),(5,.pure),(6,.read),(8,.read),(10,.pure),(11,.pure),(12,.read),(13,.pure),(24,.pure),(18,.read),(22,.read),(23,.pure),(25,.pure)] (by kernel_rfl) (by kernel_rfl) (List.Sublist.refl _) ?_;(first|refine k_fa0 rfl zq ?_|refine k_fa rfl zq ?_);refine d4 ?_;(first|refine k_fa0 rfl zq ?_|refine k_fa rfl zq ?_);refine d3 ?_;refine d4 ?_
  obtain ⟨rd_b,rd_o,rfl⟩:=rd.ptr (by omega)
  refine k_ixs rfl zq (by first|rfl|assumption) (by omega) (by omega) ?_;refine d11 ?_;refine k_ldh rfl zq ?_;obtain ⟨rdp_b,rdp_o,rfl⟩:=rdp.ptr (by omega)
  refine d20 ?_
  refine k_ld rfl zq (rdp.fat (v:= .int .i64 (b.pts.getD ((f+k)+1) default).h) ((f+k)+1) 0 (by omega) (by omega) rfl) ?_;refine k_ldh rfl zq ?_;refine d20 ?_;refine k_ld rfl zq (rdp.fat (v:= .int .i64 (b.pts.getD (f+k) default).h) (f+k) 0 (by omega) (by omega) rfl) ?_;refine k_sub rfl zq (by unfold In64;omega) ?_;refine k_as rfl zq ?_;refine k_ld rfl zq (rd.iat ((f+k)+1) (by omega) (by omega)) ?_;refine k_ld rfl zq (rd.iat (f+k) (by omega) (by omega)) ?_;refine k_sub rfl zq (by unfold In64;omega) ?_;refine aq rfl ?_;refine rr11 ?_;have hq1:=mulB (x:=(b.pts.getD (f+k+1) default).h-(b.pts.getD (f+k) default).h) (y:=(b.pts.getD (f+k+1) default).h-(b.pts.getD (f+k) default).h) (a:=959) (b:=959) (by omega) (by omega)
  have hq2:=mulB (x:=xs.getD (f+k+1) 0-xs.getD (f+k) 0) (y:=xs.getD (f+k+1) 0-xs.getD (f+k) 0) (a:=959) (b:=959) (by omega) (by omega)
  refine d3 ?_;refine mq rfl ?_;refine k_mul rfl zq (by unfold In64;omega) ?_;refine d3 ?_;refine d53 ?_
  rw [hN];refine k_calP (Post:=fun v=>v=_) rfl zq (by kernel_rfl) (fun H' hH=>f85_c m H' N (by omega)) ?_;rintro v rfl;refine k_put ?_;rw [hrI];refine k_add rfl zq (by unfold In64;omega) ?_;refine d45 ?_;refine rr3 ?_;refine d61 ?_;exact m.weak weakSub (hnext _ _ _ (by omega) ⟨k+1,_,rfl,by omega,by rw [girthF,←hsum,hro],by omega,by push_cast;omega,exU rfl,rfl⟩)
 ·refine d75 ?_;refine d99 ?_
  refine run_res (h) rfl Tryz.func98 rfl weakSub ?_;refine hK _ _ ?_;obtain rfl:k=t-f:=by omega
  exact ⟨rfl,by rw [hsum,girthI,Int.toNat_natCast,show ((t:Int)-(f:Int)).toNat=t-f by omega]⟩
end Go.Proofs
namespace Go.Proofs
open Go.Lo
open Go.Conc (G)
set_option maxRecDepth 100000
set_option synthInstance.maxSize 100000
set_option synthInstance.maxHeartbeats 1000000
set_option maxHeartbeats 4000000
variable {B:Array Obj}
section
variable {P:Program} {B:Array Obj} {m:Md P B} {ops:Array Oper} {l l':List Value} {S h h' H:Hp} {C:List Value→Hp→Prop} {i:Nat} {kd:Kd} {r:List (Nat×Kd)}
 {d:Option Tmp} {ty:TypeId} {pos:String} {af:Array Edge} {g:Option (Nat×Bool)}
theorem k_eqBV {t u:TypeId} {x y:Operand} {a c:Bool} (ho:ops[i]?=some ⟨d,.binOp .eql t x y u,ty,pos,af,g⟩) (hw:Wt ops l g) (hb:P.underlying t=some .bool) [KHeap kd S h H] [ex:OpV l x (.bool a)] [ey:OpV l y (.bool c)] [PutV l d (.bool (a==c)) l'] (q:RegK m S ops r l' h C):RegK m S ops ((i,kd)::r) l h C:=
 RegK.rd (v:= .bool (a==c)) ho hw (by
  simp only [execOp,ex.eq,ey.eq]
  refine Reads.value (Reads.bind (a:=()) (Reads.pure _) ?_)
  show Reads P B (Op.equal t (.bool a) (.bool c)>>=fun b=>pure (Value.bool b)) H _
  exact Reads.bind (reads_eqBool hb a c) (Reads.pure _)) q
end
end Go.Proofs
namespace Go.Proofs
open Go.Lo
open Go.Conc (G)
set_option maxRecDepth 100000
set_option synthInstance.maxSize 100000
set_option synthInstance.maxHeartbeats 1000000
set_option maxHeartbeats 4000000
variable {b:Fb} {pp:Option Addr} {np cp:Nat} {pt:Option Addr} {nt ct:Nat} {pk:Option Addr} {nk ck:Nat}
variable {B:Array Obj}
theorem f159_c (m:Md Tryz.prog B) (h:Hp) (rdp:Rp B h b pp np cp) (hp:np≤1000) {p:Option Addr} {n c:Nat} {xs:List Int} (rd:RdS B h 1 (.slice p n c) n (ints xs)) (hn:n≤1000) (hln:n=np) (hpo:PtsOk b.pts) (hs:SmL xs) (t:Tp) (f e:Nat) (hf:t.f=f) (he:t.t=e) (hfe:f≤e) (hen:e<np):FnC m 159 #[fbV b pp np cp pt nt ct pk nk ck,.slice p n c,tpV t] h fun v h'=>h'=h∧IsB (tapeOk b xs t) v:=by
 have hml:=rdp.elen (by decide)
 refine fn_enter Tryz.func159 rfl rfl (l:=(fbV b pp np cp pt nt ct pk nk ck)::(.slice p n c)::(tpV t)::uu18) rfl ?_
 intro cf cs K hK
 refine rs3 ?_;refine k_box rfl zq (fun q3=>k_hp (k_put ?_));refine k_box rfl zq (fun q5=>k_hp (k_put ?_));refine d12 ?_
 refine run_draw [(1,.pure),(2,.pure),(4,.pure),(7,.pure),(8,.pure),(10,.pure),(11,.pure),(0,.read),(3,.read),(5,.read),(9,.read),(12,.read),(6,.keep),(13,.keep),(14,.pure)] (by kernel_rfl) (by kernel_rfl) (List.Sublist.refl _) ?_;refine mq rfl ?_;refine d8 ?_;refine d8 ?_;refine d8 ?_;refine d63 ?_;refine d81 ?_;refine k_ldh rfl zq ?_
 rw [hf,he];refine k_calP (Post:=fun v=>v=_) rfl zq (by kernel_rfl) (fun H' hH=>f98_c m H' (rdp.keeps (sq hH)) hp (rd.keeps (sq hH)) hn (by omega) hpo hs f e hfe hen) ?_;rintro v rfl;refine k_put ?_;refine k_calP (Post:=fun v=>IsB _ v) rfl zq (by kernel_rfl) (fun H' hH=>f55_c m H' _ _ _) ?_;rintro v hv;refine d110 ?_
 refine run_res (h) rfl Tryz.func159 rfl weakSub ?_;refine hK _ _ ?_;exact ⟨rfl,hv.iff (by unfold tapeOk;rw [hf,he])⟩
theorem f160_c (m:Md Tryz.prog B) (h:Hp) (rdp:Rp B h b pp np cp) (hp:np≤1000) {p:Option Addr} {n c:Nat} {xs:List Int} (rd:RdS B h 1 (.slice p n c) n (ints xs)) (hn:n≤1000) (hln:n=np) (hpo:PtsOk b.pts) (hs:SmL xs) (k:Sk) (hk:(b.pts.getD 0 default).h≤k.h∧k.h≤(b.pts.getD (np-1) default).h):FnC m 160 #[fbV b pp np cp pt nt ct pk nk ck,.slice p n c,skV k] h fun v h'=>h'=h∧IsB (stickOk b xs k) v:=by
 have hml:=rdp.elen (by decide)
 refine fn_enter Tryz.func160 rfl rfl (l:=(fbV b pp np cp pt nt ct pk nk ck)::(.slice p n c)::(skV k)::uu15) rfl ?_
 intro cf cs K hK
 refine rs3 ?_;refine k_box rfl zq (fun q3=>k_hp (k_put ?_));refine k_box rfl zq (fun q5=>k_hp (k_put ?_));refine d12 ?_
 refine run_draw [(1,.pure),(2,.pure),(5,.pure),(8,.pure),(0,.read),(3,.read),(6,.read),(9,.read),(4,.keep),(7,.pure),(10,.pure),(11,.pure)] (by kernel_rfl) (by kernel_rfl) (List.Sublist.refl _) ?_;refine mq rfl ?_;refine d8 ?_;refine d59 ?_;refine d81 ?_;refine k_ldh rfl zq ?_
 refine k_calP (Post:=fun v=>v=_) rfl zq (by kernel_rfl) (fun H' hH=>f94_c m H' (rdp.keeps (sq hH)) hp (rd.keeps (sq hH)) hn (by omega) hpo hs k.h hk) ?_;rintro v rfl;refine k_put ?_;refine k_geq rfl zq ?_;refine k_eqBV rfl zq bool3 ?_;refine d0 ?_
 refine run_res (h) rfl Tryz.func160 rfl weakSub ?_;refine hK _ _ ?_;refine ⟨rfl,?_⟩
 unfold stickOk
 by_cases he:decide (k.long≤atI b.pts xs k.h)=k.fits
 ·exact .inl ⟨he,by rw [←he];simp⟩
 ·exact .inr ⟨he,by simpa using he⟩
theorem f104_c (m:Md Tryz.prog B) (h:Hp) (rdp:Rp B h b pp np cp) (hp:np≤1000) (rdt:Rt B h b pt nt ct) (ht:nt≤1000) (rdk:Rk B h b pk nk ck) (hk:nk≤1000) {p:Option Addr} {n c:Nat} {xs:List Int} (rd:RdS B h 1 (.slice p n c) n (ints xs)) (hn:n≤1000) (hln:n=np) (hv:FOk b) (hs:SmL xs):FnC m 104 #[fbV b pp np cp pt nt ct pk nk ck,.slice p n c] h fun v h'=>h'=h∧IsB (rightF b xs) v:=by
 have hml:=rdp.elen (by decide)
 have htl:=rdt.elen (by decide)
 have hkl:=rdk.elen (by decide)
 have hll:=rd.ilen
 refine fn_enter Tryz.func104 rfl rfl (l:=[fbV b pp np cp pt nt ct pk nk ck,.slice p n c,undef,undef,undef,undef,undef,undef,undef,undef,undef,undef,undef,undef,undef,undef,undef,undef,undef,undef,undef,undef,undef,undef,undef,undef,undef,undef,undef,undef,undef,undef,undef,undef,undef,undef,undef,undef,undef]) rfl ?_
 intro cf cs K hK
 refine rs2 ?_;refine k_box rfl zq (fun q2=>k_hp (k_put ?_));refine d12 ?_;refine d142 ?_
 refine run_loop (fun nn l h'=> ∃(j:Nat),nn=nt-j∧(j≤nt)∧(∀i,i<j→tapeOk b xs (b.tapes.getD i default))∧(∃U:Nat→Value,l=((fbV b pp np cp pt nt ct pk nk ck)::(.slice p n c)::(.pointer (some ⟨q2,0,none⟩))::(U 3)::(U 4)::(.int .i64 (j:Int))::(U 6)::vw32 U 7 []))∧h++[⟨true,q2,.cells (fbL b pp np cp pt nt ct pk nk ck).toArray 26 (0,0)⟩]=h') _ ⟨0,rfl,by omega,fun i hi=>by omega,exU rfl,rfl⟩ ?_;rintro nn l h' ⟨j,rfl,hj,hall1,⟨U,rfl⟩,rfl⟩ hnext1;refine run_seq ?_;refine rs5 ?_;refine mq rfl ?_;refine d114 ?_;refine k_lssS rfl zq (fun hc=>?_) (fun hc=>?_)
 ·refine d98 ?_;refine run_seq ?_
  obtain ⟨f,e,hf,he,hfe,hen⟩:=hv.tape (mem_getDR.2 ⟨j,by omega,rfl⟩:b.tapes.getD j default∈b.tapes)
  refine run_draw [(1,.pure),(2,.pure),(4,.pure),(0,.read),(3,.read),(5,.pure),(6,.read),(7,.keep),(8,.pure)] (by kernel_rfl) (by kernel_rfl) (List.Sublist.refl _) ?_;refine mq rfl ?_;(first|refine k_fa0 rfl zq ?_|refine k_fa rfl zq ?_);refine mq rfl ?_;refine d63 ?_
  obtain ⟨rdt_b,rdt_o,rfl⟩:=rdt.ptr (by omega)
  refine k_ixs rfl zq (by first|rfl|assumption) (by omega) (by omega) ?_;refine k_ldN (vs:=[.int .i64 (b.tapes.getD j default).f,.int .i64 (b.tapes.getD j default).t,.int .i64 (b.tapes.getD j default).lo,.int .i64 (b.tapes.getD j default).hi]) rfl zq rfl (rdt.eat j (by omega) (by omega)) ?_;refine k_calP (Post:=fun v=>IsB _ v) rfl zq (by kernel_rfl) (fun H' hH=>f159_c m H' (rdp.keeps (sq hH)) hp (rd.keeps (sq hH)) hn hln hv.pts hs (b.tapes.getD j default) f e hf he hfe (by omega)) ?_;rintro v (⟨hc,rfl⟩|⟨hc,rfl⟩)
  ·refine d43 ?_;refine d13 ?_;refine d109 ?_
   exact m.weak weakSub (hnext1 _ _ _ (by omega) ⟨j+1,rfl,by omega,all_snoc hall1 (by assumption),exU rfl,rfl⟩)
  ·refine d44 ?_;refine d58 ?_
   refine run_res (h) rfl Tryz.func104 rfl weakSub ?_;refine hK _ _ ?_;exact ⟨rfl,IsB.no fun e=>hc (e.1 _ (mem_getDR.2 ⟨j,by omega,rfl⟩))⟩
 ·refine d75 ?_;refine run_seq ?_;refine d142 ?_
  refine run_loop (fun nn l h'=> ∃(j:Nat),nn=nk-j∧(j≤nk)∧(∀i,i<j→stickOk b xs (b.sticks.getD i default))∧(∃U:Nat→Value,l=((fbV b pp np cp pt nt ct pk nk ck)::(.slice p n c)::(.pointer (some ⟨q2,0,none⟩))::(U 3)::(U 4)::(U 5)::(.int .i64 (j:Int))::vw32 U 7 []))∧h++[⟨true,q2,.cells (fbL b pp np cp pt nt ct pk nk ck).toArray 26 (0,0)⟩]=h') _ ⟨0,rfl,by omega,fun i hi=>by omega,exU rfl,rfl⟩ ?_;rintro nn l h' ⟨j,rfl,hj2,hall2,⟨U,rfl⟩,rfl⟩ hnext2;refine run_seq ?_;refine rs5 ?_;refine mq rfl ?_;refine d114 ?_;refine k_lssS rfl zq (fun hc=>?_) (fun hc=>?_)
  ·refine d98 ?_;refine run_seq ?_
   have hsk:=hv.sticks (b.sticks.getD j default) (mem_getDR.2 ⟨j,by omega,rfl⟩)
   rw [okSk,hml] at hsk
   refine run_draw [(1,.pure),(2,.pure),(4,.pure),(0,.read),(3,.read),(5,.pure),(6,.read),(7,.keep),(8,.pure)] (by kernel_rfl) (by kernel_rfl) (List.Sublist.refl _) ?_;refine mq rfl ?_;(first|refine k_fa0 rfl zq ?_|refine k_fa rfl zq ?_);refine mq rfl ?_;refine d63 ?_
   obtain ⟨rdk_b,rdk_o,rfl⟩:=rdk.ptr (by omega)
   refine k_ixs rfl zq (by first|rfl|assumption) (by omega) (by omega) ?_;refine k_ldN (vs:=[.int .i64 (b.sticks.getD j default).h,.int .i64 (b.sticks.getD j default).long,.bool (b.sticks.getD j default).fits]) rfl zq rfl (rdk.eat j (by omega) (by omega)) ?_;refine k_calP (Post:=fun v=>IsB _ v) rfl zq (by kernel_rfl) (fun H' hH=>f160_c m H' (rdp.keeps (sq hH)) hp (rd.keeps (sq hH)) hn hln hv.pts hs (b.sticks.getD j default) hsk.1) ?_;rintro v (⟨hc,rfl⟩|⟨hc,rfl⟩)
   ·refine d43 ?_;refine d13 ?_;refine d109 ?_
    exact m.weak weakSub (hnext2 _ _ _ (by omega) ⟨j+1,rfl,by omega,all_snoc hall2 (by assumption),exU rfl,rfl⟩)
   ·refine d44 ?_;refine d58 ?_
    refine run_res (h) rfl Tryz.func104 rfl weakSub ?_;refine hK _ _ ?_;exact ⟨rfl,IsB.no fun e=>hc (e.2 _ (mem_getDR.2 ⟨j,by omega,rfl⟩))⟩
  ·refine d75 ?_;refine d38 ?_
   refine run_res (h) rfl Tryz.func104 rfl weakSub ?_;refine hK _ _ ?_;refine ⟨rfl,IsB.yes ⟨fun t ht=>?_,fun k hk=>?_⟩⟩
   ·obtain ⟨i,hi,rfl⟩:=mem_getDR.1 ht
    exact hall1 i (by omega)
   ·obtain ⟨i,hi,rfl⟩:=mem_getDR.1 hk
    exact hall2 i (by omega)
theorem extL_take (all:List (List Int)) (x:Sp) (k:Nat) (h:k<all.length):extL (all.take (k+1)) x=extL (all.take k) x++ext1 (all.getD k []) (spanL x):=by
 rw [take_snocL all k h,extL,List.flatMap_append];simp [extL]
theorem ext1_take (l:List Int) (x:Sp) (j:Nat) (h:j<(x.hi-x.lo+1).toNat):ext1 l ((spanL x).take (j+1))=ext1 l ((spanL x).take j)++[l++[x.lo+j]]:=by
 rw [take_snoc' _ j (by rw [spanL_length];exact h),spanL_getD x j h,ext1,List.map_append];rfl
def partL (ll:List (List Int)) (x:Sp) (k j:Nat):List (List Int):=extL (ll.take k) x++ext1 (ll.getD k []) ((spanL x).take j)
theorem partL_zero (ll:List (List Int)) (x:Sp) (k:Nat):partL ll x k 0=extL (ll.take k) x:=by simp [partL,ext1]
theorem partL_succ (ll:List (List Int)) (x:Sp) (k j:Nat) (h:j<(x.hi-x.lo+1).toNat):partL ll x k (j+1)=partL ll x k j++[ll.getD k []++[x.lo+j]]:=by
 rw [partL,ext1_take _ _ _ h,←List.append_assoc];rfl
theorem partL_full (ll:List (List Int)) (x:Sp) (k j:Nat) (hk:k<ll.length) (hj:(x.hi-x.lo+1).toNat≤j):partL ll x k j=extL (ll.take (k+1)) x:=by
 rw [partL,show (spanL x).take j=spanL x from List.take_of_length_le (by rw [spanL_length];exact hj),extL_take ll x k hk]
theorem partL_le (ll:List (List Int)) (x:Sp) (k j:Nat) (hk:k<ll.length) (hx:x.hi-x.lo<3):(partL ll x k j).length≤3*ll.length+3:=by
 rw [partL,List.length_append,extL_length,ext1,List.length_map,List.length_take,List.length_take,spanL_length];have:min k ll.length*(x.hi-x.lo+1).toNat≤ll.length*3:=Nat.mul_le_mul (by omega) (by omega)
 omega
theorem linesK_succ (b:Fb) {i:Nat} (h:i<b.pts.length):linesK b (i+1)=extL (linesK b i) (spI b i):=by
 rw [linesK,linesOf_take _ _ (by rw [spsOf_length];exact h),spsOf_getD b h];rfl
def boatsF (b:Fb) (ll:List (List Int)) (e:Nat):List (List Int):=(ll.take e).filter fun l=>decide (rightF b l)
theorem boatsF_yes (b:Fb) (ll:List (List Int)) (e:Nat) (h:e<ll.length) (hb:rightF b (ll.getD e [])):boatsF b ll (e+1)=boatsF b ll e++[ll.getD e []]:=by
 rw [boatsF,take_snocL ll e h,List.filter_append,List.filter_cons,if_pos (decide_eq_true hb)];rfl
theorem boatsF_no (b:Fb) (ll:List (List Int)) (e:Nat) (h:e<ll.length) (hb: ¬rightF b (ll.getD e [])):boatsF b ll (e+1)=boatsF b ll e:=by
 rw [boatsF,take_snocL ll e h,List.filter_append,List.filter_cons,if_neg (by simpa using hb)];simp [boatsF]
theorem boatsF_le (b:Fb) (ll:List (List Int)) (e:Nat):(boatsF b ll e).length≤ll.length:=by
 have:=List.length_filter_le (fun l=>decide (rightF b l)) (ll.take e)
 rw [List.length_take] at this
 unfold boatsF
 omega
theorem f106_c (m:Md Tryz.prog B) (h:Hp) (rdp:Rp B h b pp np cp) (hp:np≤1000) (rdt:Rt B h b pt nt ct) (ht:nt≤1000) (rdk:Rk B h b pk nk ck) (hk:nk≤1000) (hv:FOk b):FnC m 106 #[fbV b pp np cp pt nt ct pk nk ck] h fun v h'=> ∃new,h'=h++new∧ ∃vs,RdS B new 1 v (boatsOf b).length vs∧RdE B new vs (boatsOf b):=by
 have hml:=rdp.elen (by decide)
 have hpo:=hv.pts
 have hv1:=hpo.five
 refine fn_enter Tryz.func106 rfl rfl (l:=[fbV b pp np cp pt nt ct pk nk ck,undef,undef,undef,undef,undef,undef,undef,undef,undef,undef,undef,undef,undef,undef,undef,undef,undef,undef,undef,undef,undef,undef,undef,undef,undef,undef,undef,undef,undef,undef,undef,undef,undef,undef,undef,undef,undef,undef,undef,undef,undef,undef,undef,undef,undef,undef,undef,undef,undef,undef,undef,undef,undef,undef,undef,undef,undef,undef,undef,undef,undef,undef,undef,undef,undef,undef,undef,undef,undef,undef,undef,undef,undef,undef]) rfl ?_
 intro cf cs K hK
 refine rs2 ?_;refine k_box rfl zq (fun q1=>k_hp (k_put ?_));refine aq rfl ?_;refine rs2 ?_
 refine k_bs kdq rfl zq (by decide) (by decide) rfl (fun q10=>k_hp (k_put ?_));refine d12 ?_;refine d142 ?_
 refine run_loop (fun nn l h'=> ∃(i:Nat) (L:Hp) (pa:Option Addr) (na ca:Nat) (vs:List Value),nn=np-i∧(i≤np)∧(na=(linesK b i).length)∧(RdS B L 1 (.slice pa na ca) na vs)∧(RdE B L vs (linesK b i))∧(∃U:Nat→Value,l=((fbV b pp np cp pt nt ct pk nk ck)::(.pointer (some ⟨q1,0,none⟩))::(U 2)::(.slice pa na ca)::(.int .i64 (i:Int))::(U 5)::(U 6)::vw68 U 7 []))∧(h++[⟨true,q1,.cells (fbL b pp np cp pt nt ct pk nk ck).toArray 26 (0,0)⟩])++L=h') _ ⟨0,[⟨true,q10,.cells [.slice none 0 0].toArray 27 (0,0)⟩],some ⟨q10,0,none⟩,1,1,[.slice none 0 0],rfl,by omega,rfl,rdS_has (by rfl),RdE.nil.snoc (xs:=[]) rfl ⟨none,0,rfl,rfl,.inl ⟨rfl,rfl⟩⟩ (Nat.le_refl _),exU rfl,(by simp)⟩ ?_;rintro nn l h' ⟨i,L,pa,na,ca,vs,rfl,hi,hna,hra,hea,⟨U,rfl⟩,rfl⟩ hnext1;have hle:=linesK_le hpo i (by omega)
 refine run_seq ?_;refine rs5 ?_;refine mq rfl ?_;refine d114 ?_;refine k_lssS rfl zq (fun hc=>?_) (fun hc=>?_)
 ·refine d98 ?_;refine d93 ?_;refine d142 ?_
  refine run_loop (fun nn l h'=> ∃(k:Nat) (M W:Hp) (w:Value) (ws:List Value),nn=na-k∧(k≤na)∧(OwnS 27 1 w (extL ((linesK b i).take k) (spI b i)).length ws W)∧(RdE B M ws (extL ((linesK b i).take k) (spI b i)))∧(∃U:Nat→Value,l=((fbV b pp np cp pt nt ct pk nk ck)::(.pointer (some ⟨q1,0,none⟩))::(U 2)::(.slice pa na ca)::(.int .i64 (i:Int))::w::(.int .i64 (k:Int))::vw68 U 7 []))∧(h++[⟨true,q1,.cells (fbL b pp np cp pt nt ct pk nk ck).toArray 26 (0,0)⟩])++L++M++W=h') _ ⟨0,[],[],_,[],rfl,by omega,OwnS.nil,RdE.nil,exU rfl,(by simp)⟩ ?_;rintro nn l h' ⟨k,M,W,w,ws,rfl,hk,how,hew,⟨U,rfl⟩,rfl⟩ hnext2;refine run_seq ?_;refine d120 ?_;refine k_lssS rfl zq (fun hc=>?_) (fun hc=>?_)
  ·refine d98 ?_;refine rs8 ?_
   have hok:okPt (b.pts.getD i default):=hpo.ok _ (mem_getDR.2 ⟨i,by omega,rfl⟩)
   unfold okPt at hok
   refine d2 ?_;refine mq rfl ?_
   obtain ⟨rdp_b,rdp_o,rfl⟩:=rdp.ptr (by omega)
   refine k_ixs rfl zq (by first|rfl|assumption) (by omega) (by omega) ?_;refine d8 ?_;refine k_ld rfl zq (rdp.fat (v:= .int .i64 (b.pts.getD i default).lo) i 1 (by omega) (by omega) rfl) ?_;refine d54 ?_
   refine run_loop (fun nn l h'=> ∃(j:Nat) (n7:Int) (M3 W3:Hp) (w3:Value) (ws3:List Value),nn=((b.pts.getD i default).hi-(b.pts.getD i default).lo+1).toNat-j∧(n7=(b.pts.getD i default).lo+(j:Int))∧(j≤((b.pts.getD i default).hi-(b.pts.getD i default).lo+1).toNat)∧(OwnS 27 1 w3 (partL (linesK b i) (spI b i) k j).length ws3 W3)∧(RdE B M3 ws3 (partL (linesK b i) (spI b i) k j))∧(∃U:Nat→Value,l=((fbV b (some ⟨rdp_b,rdp_o,none⟩) np cp pt nt ct pk nk ck)::(.pointer (some ⟨q1,0,none⟩))::(U 2)::(.slice pa na ca)::(.int .i64 (i:Int))::w3::(.int .i64 (k:Int))::(.int .i64 n7)::vw67 U 8 []))∧(h++[⟨true,q1,.cells (fbL b (some ⟨rdp_b,rdp_o,none⟩) np cp pt nt ct pk nk ck).toArray 26 (0,0)⟩])++L++M3++W3=h') _ ⟨0,_,M,W,w,ws,rfl,by exact (Int.add_zero _).symm,by omega,by rw [partL_zero];exact how,by rw [partL_zero];exact hew,exU rfl,rfl⟩ ?_;rintro nn l h' ⟨j,n7,M3,W3,w3,ws3,rfl,rfl,hj,how3,hew3,⟨U,rfl⟩,rfl⟩ hnext3;refine run_seq ?_;refine rs9 ?_;refine mq rfl ?_;refine d2 ?_;refine d39 ?_;refine d8 ?_;refine k_ld rfl zq (rdp.fat (v:= .int .i64 (b.pts.getD i default).hi) i 2 (by omega) (by omega) rfl) ?_;refine k_leqS rfl zq (fun hc=>?_) (fun hc=>?_)
   ·refine d98 ?_
    refine run_region [(0,.free),(1,.free),(2,.free),(3,.free),(4,.free),(5,.free),(6,.free),(7,.free),(8,.free),(9,.free),(10,.free),(11,.free),(12,.free)] (by kernel_rfl) (by kernel_rfl) ?_;obtain ⟨ep,ec,ee,er⟩:=hea.2 k (by omega)
    have hlen:((linesK b i).getD k []).length=i:=((mem_linesK (by omega)).1 (mem_getDR.2 ⟨k,by omega,rfl⟩)).1
    have hpl:=partL_le (linesK b i) (spI b i) k j (by omega) (by show (b.pts.getD i default).hi-(b.pts.getD i default).lo<3;omega)
    refine mq rfl ?_
    refine k_bs0 kdq rfl zq (fun q43=>k_hp (k_put ?_));refine d3 ?_
    obtain ⟨hra_b,hra_o,rfl⟩:=hra.ptr (by omega)
    refine k_ixs rfl zq (by first|rfl|assumption) (by omega) (by omega) ?_;refine k_ld (v:= .slice ep ((linesK b i).getD k []).length ec) rfl zq (by rw [←ee];exact hra.vat k (by omega) (by omega)) ?_;refine k_app (F:=(h++[⟨true,q1,.cells (fbL b (some ⟨rdp_b,rdp_o,none⟩) np cp pt nt ct pk nk ck).toArray 26 (0,0)⟩])++L++M3++W3) rfl zq weakSub OwnS.zero er.up (ints_one _) (.inl rfl) (by omega) (by omega) (fun w6 n6 o6=>k_put ?_);refine mq rfl ?_
    refine k_bs kdq rfl zq (by decide) (by decide) rfl (fun q50=>k_hp (k_put ?_));refine k_app1 (F:=(h++[⟨true,q1,.cells (fbL b (some ⟨rdp_b,rdp_o,none⟩) np cp pt nt ct pk nk ck).toArray 26 (0,0)⟩])++L++M3++W3) rfl zq rfl o6 kdq (by omega) (by omega) (fun w9 n9 o9=>k_put ?_);obtain ⟨p9,c9,rfl,_⟩:=o9.len
    have r9:RdS B n9 1 (.slice p9 _ c9) _ _:=(o9.rd')
    refine k_bs kdq rfl zq (by decide) (by decide) rfl (fun q52=>k_hp (k_put ?_));refine k_appW (F:=(h++[⟨true,q1,.cells (fbL b (some ⟨rdp_b,rdp_o,none⟩) np cp pt nt ct pk nk ck).toArray 26 (0,0)⟩])++L++M3++n9) rfl zq rfl how3 (Weak.trans weakSub (Weak.mid ((h++[⟨true,q1,.cells (fbL b (some ⟨rdp_b,rdp_o,none⟩) np cp pt nt ct pk nk ck).toArray 26 (0,0)⟩])++L++M3) W3 n9)) (.inl rfl) (by omega) (by omega) (fun w11 n11 o11=>k_put ?_);refine d45 ?_;refine rr3 ?_;refine d61 ?_
    have hps:=partL_succ (linesK b i) (spI b i) k j (by show j<((b.pts.getD i default).hi-(b.pts.getD i default).lo+1).toNat;omega)
    exact hnext3 _ _ _ (by omega) ⟨j+1,_,M3++n9,n11,w11,ws3++[.slice p9 (0+((linesK b i).getD k []).length+1) c9],rfl,by omega,by omega,by rw [hps,List.length_append];exact o11,by rw [hps];exact hew3.up.snoc (by simp) (by rw [ints_append];exact r9.up) o9.cap,exU rfl,by simp⟩
   ·refine d75 ?_;refine d109 ?_
    rw [partL_full _ _ _ _ (by omega) (by show ((b.pts.getD i default).hi-(b.pts.getD i default).lo+1).toNat≤j;omega)] at how3 hew3
    exact m.weak weakSub (hnext2 _ _ _ (by omega) ⟨k+1,M3,W3,w3,ws3,rfl,by omega,how3,hew3,exU rfl,rfl⟩)
  ·refine d75 ?_;refine rr2 ?_;refine mq rfl ?_;refine d45 ?_;refine rr3 ?_;refine d61 ?_
   obtain rfl:k=na:=by omega
   rw [List.take_of_length_le (by omega),←linesK_succ b (by omega)] at how hew
   obtain ⟨wp,wc,rfl,_⟩:=how.len
   refine m.weak (h':=(h++[⟨true,q1,.cells (fbL b pp np cp pt nt ct pk nk ck).toArray 26 (0,0)⟩])++M++W) weakSub ?_
   exact hnext1 _ _ _ (by omega) ⟨i+1,M++W,wp,_,wc,ws,rfl,by omega,rfl,how.rd',hew.up,exU rfl,by simp⟩
 ·refine d75 ?_;refine rs1 ?_
  obtain rfl:np=i:=by omega
  refine d12 ?_;refine d142 ?_
  refine run_loop (fun nn l h'=> ∃(e:Nat) (W4:Hp) (w4:Value) (ws4:List Value),nn=na-e∧(e≤na)∧(OwnS 27 1 w4 (boatsF b (linesK b np) e).length ws4 W4)∧(RdE B L ws4 (boatsF b (linesK b np) e))∧(∃U:Nat→Value,l=((fbV b pp np cp pt nt ct pk nk ck)::(.pointer (some ⟨q1,0,none⟩))::(U 2)::(.slice pa na ca)::vw4 U 4 (w4::(.int .i64 (e:Int))::(U 10)::(U 11)::(U 12)::(U 13)::vw61 U 14 [])))∧(h++[⟨true,q1,.cells (fbL b pp np cp pt nt ct pk nk ck).toArray 26 (0,0)⟩])++L++W4=h') _ ⟨0,[],_,[],rfl,by omega,OwnS.nil,RdE.nil,exU rfl,(by simp)⟩ ?_;rintro nn l h' ⟨e,W4,w4,ws4,rfl,he,how4,hew4,⟨U,rfl⟩,rfl⟩ hnext4;have hbl:=boatsF_le b (linesK b np) e
  refine run_seq ?_;refine d120 ?_;refine k_lssS rfl zq (fun hc=>?_) (fun hc=>?_)
  ·refine d98 ?_;refine run_seq ?_
   refine run_draw [(1,.pure),(2,.pure),(3,.pure),(0,.read),(4,.read),(5,.keep)] (by kernel_rfl) (by kernel_rfl) (List.Sublist.refl _) ?_;refine d3 ?_
   obtain ⟨hra_b,hra_o,rfl⟩:=hra.ptr (by omega)
   refine k_ixs rfl zq (by first|rfl|assumption) (by omega) (by omega) ?_;obtain ⟨ep,ec,ee,er⟩:=hea.2 e (by omega)
   have hmem:(linesK b np).getD e []∈(linesK b np):=mem_getDR.2 ⟨e,by omega,rfl⟩
   have hlen:=((mem_linesK (by omega)).1 hmem).1
   refine k_ldA rfl zq ?_;refine k_ld (v:= .slice ep ((linesK b np).getD e []).length ec) rfl zq (by rw [←ee];exact hra.vat e (by omega) (by omega)) ?_;refine k_calP (Post:=fun v=>IsB _ v) rfl zq (by kernel_rfl) (fun H' hH=>f104_c m H' (rdp.keeps (sq hH)) hp (rdt.keeps (sq hH)) ht (rdk.keeps (sq hH)) hk (er.keeps (sq hH)) (by omega) (by omega) hv (line_sml hpo (by rw [hml];exact hmem))) ?_;rintro v (⟨hc,rfl⟩|⟨hc,rfl⟩)
   ·refine k_put ?_;refine d7 ?_;refine rr8 ?_;refine d3 ?_;refine d39 ?_;refine k_ld (v:= .slice ep ((linesK b np).getD e []).length ec) rfl zq (by rw [←ee];exact hra.vat e (by omega) (by omega)) ?_;refine k_bs kdq rfl zq (by decide) (by decide) rfl (fun q72=>k_hp (k_put ?_));refine k_app1 (F:=(h++[⟨true,q1,.cells (fbL b pp np cp pt nt ct pk nk ck).toArray 26 (0,0)⟩])++L) rfl zq rfl how4 kdq (by omega) (by omega) (fun w19 n19 o19=>k_put ?_);refine d45 ?_;refine rr3 ?_;refine d61 ?_
    have hps:=boatsF_yes b (linesK b np) e (by omega) (by assumption)
    exact m.weak weakSub (hnext4 _ _ _ (by omega) ⟨e+1,n19,w19,ws4++[.slice ep ((linesK b np).getD e []).length ec],rfl,by omega,by rw [hps,List.length_append];exact o19,by rw [hps];exact hew4.snoc rfl er (hea.cap (by omega) ee),exU rfl,rfl⟩)
   ·refine k_put ?_;refine d13 ?_;refine d109 ?_;have hps:=boatsF_no b (linesK b np) e (by omega) (by assumption)
    exact m.weak weakSub (hnext4 _ _ _ (by omega) ⟨e+1,W4,w4,ws4,rfl,by omega,by rw [hps];exact how4,by rw [hps];exact hew4,exU rfl,rfl⟩)
  ·refine d75 ?_;refine d99 ?_
   refine run_res ((h++L)++W4) rfl Tryz.func106 rfl weakSub ?_;refine hK _ _ ?_;obtain rfl:e=na:=by omega
   have e1:boatsF b (linesK b np) (linesK b np).length=boatsOf b:=by rw [boatsF,List.take_length,boatsOf,hml]
   rw [hna,e1] at how4 hew4
   exact ⟨L++W4,by simp,ws4,how4.rd',hew4.up⟩
end Go.Proofs
namespace Go.Proofs
open Go.Lo
open Go.Conc (G)
set_option maxRecDepth 100000
set_option synthInstance.maxSize 100000
set_option synthInstance.maxHeartbeats 1000000
set_option maxHeartbeats 4000000
variable {b:Fb} {pp:Option Addr} {np cp:Nat} {pt:Option Addr} {nt ct:Nat} {pk:Option Addr} {nk ck:Nat}
variable {B:Array Obj}
variable [LaidF B]
theorem f35_c (m:Md Tryz.prog B) (h:Hp) (rdp:Rp B h b pp np cp) (hp:np≤1000) (rdt:Rt B h b pt nt ct) (ht:nt≤1000) (rdk:Rk B h b pk nk ck) (hk:nk≤1000):FnC m 35 #[fbV b pp np cp pt nt ct pk nk ck] h fun v h'=>h'=h∧v=orNo (fbS b) (boatsOf b).length:=by
 have hml:=rdp.elen (by decide)
 refine fn_enter Tryz.func35 rfl rfl (l:=(fbV b pp np cp pt nt ct pk nk ck)::uu12) rfl ?_
 intro cf cs K hK
 refine rs3 ?_;refine k_box rfl zq (fun q1=>k_hp (k_put ?_));refine d97 ?_;refine d94 ?_
 refine k_calP (Post:=fun v=>v=_) rfl zq (by kernel_rfl) (fun H' hH=>f22_c m H' (rdp.keeps (sq hH)) hp (rdt.keeps (sq hH)) ht (rdk.keeps (sq hH)) hk) ?_;rintro v rfl;refine d135 ?_
 refine k_neqS rfl zq (fun hc=>?_) (fun hc=>?_)
 ·refine d132 ?_
  refine run_res (h) rfl Tryz.func35 rfl weakSub ?_;refine hK _ _ ?_;exact ⟨rfl,by rw [orNo_no (by assumption)]⟩
 ·refine d13 ?_;refine rs5 ?_
  have hz0:fbS b=0:=by omega
  have hv:=fbS_zero hz0
  have hbl:=boatsOf_le hv.pts
  refine k_ldA rfl zq ?_;refine k_calC rfl zq (by kernel_rfl) (Post:=fun v new=> ∃vs,RdS B new 1 v (boatsOf b).length vs∧RdE B new vs (boatsOf b)) (fun H' hH=>f106_c m H' (rdp.keeps (sq hH)) hp (rdt.keeps (sq hH)) ht (rdk.keeps (sq hH)) hk hv) ?_;rintro v nw ⟨vs,rdv,rde⟩;obtain ⟨bp,bc,rfl,_⟩:=id rdv
  refine k_hpA (k_put ?_);refine k_len rfl zq ?_;refine d27 ?_;refine run_res (h) rfl Tryz.func35 rfl weakSub ?_;refine hK _ _ ?_;exact ⟨rfl,by rw [orNo_yes hz0]⟩
theorem f114_c (m:Md Tryz.prog B) (h:Hp) {t:Bool} {p:Prop} [Decidable p] (ht:t=decide p) (x:Int):FnC m 114 #[.bool t,.int .i64 x] h fun v h'=>h'=h∧v= .int .i64 (if p then 0 else x):=by
 refine fn_enter Tryz.func114 rfl rfl (l:=[.bool t,.int .i64 x,undef,undef,undef,undef,undef]) rfl ?_
 intro cf cs K hK
 refine d93 ?_;refine rs1 ?_;refine mq rfl ?_;refine k_nil ?_
 refine run_split (fun hc=>?_) (fun hc=>?_)
 ·first|replace hc:=of_decide_eq_true hc|replace hc:=of_decide_eq_false hc|skip
  refine d38 ?_
  refine run_res (h) rfl Tryz.func114 rfl weakSub ?_;refine hK _ _ ?_;refine ⟨rfl,?_⟩
  first|(rw [if_pos (by rw [hc] at ht;exact of_decide_eq_true ht.symm)];done)|(rw [if_neg (by intro hp;rw [decide_eq_true hp] at ht;simp_all)];done)
 ·first|replace hc:=of_decide_eq_true hc|replace hc:=of_decide_eq_false hc|skip
  refine run_skip ?_;refine d99 ?_;refine run_res (h) rfl Tryz.func114 rfl weakSub ?_;refine hK _ _ ?_;refine ⟨rfl,?_⟩
  first|(rw [if_pos (by rw [hc] at ht;exact of_decide_eq_true ht.symm)];done)|(rw [if_neg (by intro hp;rw [decide_eq_true hp] at ht;simp_all)];done)
theorem f113_c (m:Md Tryz.prog B) (h:Hp) (rdp:Rp B h b pp np cp) (hp:np≤1000) (rdt:Rt B h b pt nt ct) (ht:nt≤1000) (rdk:Rk B h b pk nk ck) (hk:nk≤1000) (hz0:fbS b=0) (own:Int):FnC m 113 #[fbV b pp np cp pt nt ct pk nk ck,.int .i64 own] h fun v h'=> ∃new,h'=h++new∧ ∃w,v= .tuple [w,.int .i64 (openS b own)].toArray∧RdLL B new w (openL b (openS b own)):=by
 have hml:=rdp.elen (by decide)
 refine fn_enter Tryz.func113 rfl rfl (l:=(fbV b pp np cp pt nt ct pk nk ck)::(.int .i64 own)::uu14) rfl ?_
 intro cf cs K hK
 refine rs3 ?_;refine k_box rfl zq (fun q2=>k_hp (k_put ?_));refine k_as rfl zq ?_;refine d68 ?_;refine k_neqS rfl zq (fun hc=>?_) (fun hc=>?_)
 ·refine d132 ?_
  refine run_res (h) rfl Tryz.func113 rfl weakSub ?_;refine hK _ _ ?_;exact ⟨[],by simp,_,by rw [openS_o hz0 (by assumption)],by rw [openL,openS_o hz0 (by assumption),if_pos (by assumption)];exact ⟨none,0,[],rfl,⟨none,0,rfl,rfl,.inl ⟨rfl,rfl⟩⟩,RdE.nil⟩⟩
 ·refine d13 ?_;refine d94 ?_
  have hv:=fbS_zero hz0
  have hbl:=boatsOf_le hv.pts
  refine k_calC rfl zq (by kernel_rfl) (Post:=fun v new=> ∃vs,RdS B new 1 v (boatsOf b).length vs∧RdE B new vs (boatsOf b)) (fun H' hH=>f106_c m H' (rdp.keeps (sq hH)) hp (rdt.keeps (sq hH)) ht (rdk.keeps (sq hH)) hk hv) ?_;rintro v nw ⟨vs,rdv,rde⟩;obtain ⟨bp,bc,rfl,_⟩:=id rdv
  refine k_hpA (k_put ?_);refine d12 ?_;refine d42 ?_;refine k_len rfl zq ?_
  refine k_eqlS rfl zq (fun hc=>?_) (fun hc=>?_)
  ·refine d7 ?_;refine d144 ?_
   refine run_res (h) rfl Tryz.func113 rfl weakSub ?_;refine hK _ _ ?_;have e:=openS_9 hz0 (own:=own) (by omega) (List.length_eq_zero_iff.1 (by omega))
   exact ⟨[],by simp,_,by rw [e],by rw [openL,e,if_pos (by decide)];exact ⟨none,0,[],rfl,⟨none,0,rfl,rfl,.inl ⟨rfl,rfl⟩⟩,RdE.nil⟩⟩
  ·refine d13 ?_;refine d86 ?_
   refine run_res (h++nw) rfl Tryz.func113 rfl weakSub ?_;refine hK _ _ ?_;have e:=openS_0 hz0 (own:=own) (by omega) (fun e=>hc (by rw [e];rfl))
   exact ⟨nw,rfl,_,by rw [e],by rw [openL,e,if_neg (by decide)];exact ⟨_,_,vs,rfl,rdv,rde⟩⟩
end Go.Proofs
namespace Go.Proofs
open Go.Lo
open Go.Conc (G)
set_option maxRecDepth 100000
set_option synthInstance.maxSize 100000
set_option synthInstance.maxHeartbeats 1000000
set_option maxHeartbeats 4000000
variable {B:Array Obj}
variable [LaidF B]
theorem openL_mem {b:Fb} {own:Int}: ∀l∈openL b (openS b own),FOk b∧own=0∧l∈boatsOf b:=by
 intro l hl
 by_cases e:openS b own=0
 ·rw [openL_yes e] at hl
  obtain ⟨h1,h2,_⟩:=openS_zero e
  exact ⟨fbS_zero h1,h2,hl⟩
 ·rw [openL_no e] at hl
  cases hl
theorem openL_le {b:Fb} (own:Int):(openL b (openS b own)).length≤243:=by
 by_cases e:openS b own=0
 ·rw [openL_yes e];exact boatsOf_le (fbS_zero (openS_zero e).1).pts
 ·rw [openL_no e];simp
theorem breadthsAt_take (ll:List (List Int)) (s k:Nat) (h:k<ll.length):breadthsAt (ll.take (k+1)) s=breadthsAt (ll.take k) s++[(ll.getD k []).getD s 0]:=by
 rw [take_snocL ll k h,breadthsAt,List.map_append];rfl
end Go.Proofs
namespace Go.Proofs
open Go.Lo
open Go.Conc (G)
set_option maxRecDepth 100000
set_option synthInstance.maxSize 100000
set_option synthInstance.maxHeartbeats 1000000
set_option maxHeartbeats 4000000
variable {b:Fb} {pp:Option Addr} {np cp:Nat} {pt:Option Addr} {nt ct:Nat} {pk:Option Addr} {nk ck:Nat}
variable {B:Array Obj}
variable [LaidF B]
theorem f37_c (m:Md Tryz.prog B) (h:Hp) (rdp:Rp B h b pp np cp) (hp:np≤1000) (rdt:Rt B h b pt nt ct) (ht:nt≤1000) (rdk:Rk B h b pk nk ck) (hk:nk≤1000) (st:Int):FnC m 37 #[fbV b pp np cp pt nt ct pk nk ck,.int .i64 st] h fun v h'=> ∃new,h'=h++new∧ ∃w ys,v= .tuple [w,.int .i64 (openS b (if 0≤st∧st≤(np:Int)-1 then 0 else 6))].toArray∧OwnS 3 1 w ys.length (ints ys) new∧Asc ys∧ ∀z,z∈ys↔z∈breadthsAt (openL b (openS b (if 0≤st∧st≤(np:Int)-1 then 0 else 6))) st.toNat:=by
 have hml:=rdp.elen (by decide)
 refine fn_enter Tryz.func37 rfl rfl (l:=[fbV b pp np cp pt nt ct pk nk ck,.int .i64 st,undef,undef,undef,undef,undef,undef,undef,undef,undef,undef,undef,undef,undef,undef,undef,undef,undef,undef,undef,undef,undef,undef,undef,undef,undef,undef,undef,undef,undef,undef,undef,undef,undef,undef,undef,undef,undef,undef,undef,undef,undef,undef,undef,undef]) rfl ?_
 intro cf cs K hK
 refine rs3 ?_;refine k_box rfl zq (fun q2=>k_hp (k_put ?_));refine d97 ?_;refine d94 ?_
 refine k_calP (Post:=fun v=>v=_) rfl zq (by kernel_rfl) (fun H' hH=>f22_c m H' (rdp.keeps (sq hH)) hp (rdt.keeps (sq hH)) ht (rdk.keeps (sq hH)) hk) ?_;rintro v rfl;refine d135 ?_
 refine k_neqS rfl zq (fun hc=>?_) (fun hc=>?_)
 ·refine d132 ?_
  refine run_res (h) rfl Tryz.func37 rfl weakSub ?_;refine hK _ _ ?_;exact ⟨[],by simp,_,[],by rw [openS_b (by assumption)],OwnS.nil,List.Pairwise.nil,by rw [openL_no (by rw [openS_b (by assumption)];assumption)];simp [breadthsAt]⟩
 ·refine d37 ?_
  refine run_draw [(2,.pure),(0,.read),(1,.read),(3,.keep),(4,.keep),(5,.keep),(6,.pure),(7,.pure),(8,.pure),(9,.pure),(10,.pure)] (by kernel_rfl) (by kernel_rfl) (List.Sublist.refl _) ?_;refine mq rfl ?_
  have hzb:fbS b=0:=by omega
  refine k_ldA rfl zq ?_;refine k_ldA rfl zq ?_;refine k_calP (Post:=fun v=>IsB _ v) rfl zq (by kernel_rfl) (fun H' hH=>f115_c m H' _ hp) ?_;rintro v (⟨hc,rfl⟩|⟨hc,rfl⟩)
  ·refine k_put ?_;refine k_calP (Post:=fun v=>v= .int .i64 (if 0≤st∧st≤(np:Int)-1 then 0 else 6)) rfl zq (by kernel_rfl) (fun H' hH=>f114_c m H' (p:=0≤st∧st≤(np:Int)-1) (by first|exact (decide_eq_true (by assumption)).symm|exact (decide_eq_false (by assumption)).symm) 6) ?_;rintro v rfl;refine k_put ?_;refine k_calC rfl zq (by kernel_rfl) (fun H' hH=>f113_c m H' (rdp.keeps (sq hH)) hp (rdt.keeps (sq hH)) ht (rdk.keeps (sq hH)) hk hzb _) ?_;rintro v nw ⟨w,rfl,bp,bc,vs,rfl,rdv,rde⟩;refine k_hpA (k_put ?_);have hle:=openL_le (b:=b) (if 0≤st∧st≤(np:Int)-1 then 0 else 6)
   have hmem:=openL_mem (b:=b) (own:=(if 0≤st∧st≤(np:Int)-1 then 0 else 6))
   generalize hll:openL b (openS b (if 0≤st∧st≤(np:Int)-1 then 0 else 6))=ll at rdv rde hle hmem⊢
   refine d40 ?_;refine k_as rfl zq ?_;refine d68 ?_
   refine k_neqS rfl zq (fun hc=>?_) (fun hc=>?_)
   ·refine d132 ?_
    refine run_res (h) rfl Tryz.func37 rfl weakSub ?_;refine hK _ _ ?_;exact ⟨[],by simp,_,[],rfl,OwnS.nil,List.Pairwise.nil,by rw [openL_no (by assumption)];simp [breadthsAt]⟩
   ·refine d13 ?_;refine d93 ?_;refine d142 ?_
    refine run_loop (fun nn l h'=> ∃(k:Nat) (w9:Value) (n8:Hp),nn=ll.length-k∧(k≤ll.length)∧(OwnS 3 1 w9 k (ints (breadthsAt (ll.take k) st.toNat)) n8)∧(∃U:Nat→Value,l=((fbV b pp np cp pt nt ct pk nk ck)::(.int .i64 st)::vw5 U 2 ((.slice bp ll.length bc)::(U 8)::w9::(.int .i64 (k:Int))::(U 11)::vw34 U 12 [])))∧h++[⟨true,q2,.cells (fbL b pp np cp pt nt ct pk nk ck).toArray 26 (0,0)⟩]++nw++n8=h') _ ⟨0,_,[],rfl,by omega,OwnS.nil,exU rfl,(by simp)⟩ ?_;rintro nn l h' ⟨k,w9,n8,rfl,hk,ho,⟨U,rfl⟩,rfl⟩ hnext;refine run_seq ?_;refine d120 ?_;refine k_lssS rfl zq (fun hc=>?_) (fun hc=>?_)
    ·refine d98 ?_;refine rr11 ?_
     obtain ⟨ep,ec,ee,er⟩:=rde.2 k (by omega)
     obtain ⟨hv,h0,hb⟩:=hmem _ (mem_getDR.2 ⟨k,by omega,rfl⟩)
     replace hb:ll.getD k []∈boatsOf b:=hb
     have hln:=(mem_boats.1 hb).1
     have hpo:=hv.pts
     have hp2:=hpo.two
     have hp5:=hpo.five
     have hst:0≤st∧st≤(np:Int)-1:=Classical.byContradiction fun e=>by rw [if_neg e] at h0;cases h0
     obtain ⟨s,hs⟩:=Int.eq_ofNat_of_zero_le (show 0≤st by omega)
     refine d3 ?_;refine mq rfl ?_
     obtain ⟨rdv_b,rdv_o,rfl⟩:=rdv.ptr (by omega)
     refine k_ixs rfl zq (by first|rfl|assumption) (by omega) (by omega) ?_;refine k_ld (v:= .slice ep (ll.getD k []).length ec) rfl zq (by rw [←ee];exact rdv.vat k (by omega) (by omega)) ?_;obtain ⟨eb,eo,rfl⟩:=er.ptr (by omega)
     refine d39 ?_
     refine k_ld rfl zq (er.iat s (by omega) (by omega)) ?_;refine k_bs kdq rfl zq (by decide) (by decide) rfl (fun q42=>k_hp (k_put ?_));refine k_app1 (F:=h++[⟨true,q2,.cells (fbL b pp np cp pt nt ct pk nk ck).toArray 26 (0,0)⟩]++nw) rfl zq rfl ho kdq (by omega) (by omega) (fun w9 n9 o9=>k_put ?_);rw [show ints (breadthsAt (ll.take k) st.toNat)++[Value.int .i64 ((ll.getD k []).getD s 0)]=ints (breadthsAt (ll.take (k+1)) st.toNat) by rw [breadthsAt_take _ _ _ (by omega),show st.toNat=s by omega];simp] at o9
     refine d45 ?_;refine rr3 ?_;refine d61 ?_
     exact m.weak weakSub (hnext _ _ _ (by omega) ⟨k+1,_,n9,rfl,by omega,o9,exU rfl,rfl⟩)
    ·refine d75 ?_;refine rs4 ?_
     obtain rfl:k=ll.length:=by omega
     rw [List.take_of_length_le (by omega)] at ho
     obtain ⟨p8,c8,rfl,_⟩:=ho.len
     have r8:RdS B n8 1 (.slice p8 _ c8) _ _:=ho.rd'
     refine mq rfl ?_
     refine k_calC rfl zq (by kernel_rfl) (fun H' hH=>f116_c m H' (r8.keeps (sq hH)) (by omega)) ?_;rintro v n15 ⟨ys,ha,hmm,o15⟩;refine k_hpA (k_put ?_);refine d27 ?_
     refine run_res (h++n15) rfl Tryz.func37 rfl weakSub ?_;refine hK _ _ ?_;have hz0:openS b (if 0≤st∧st≤(np:Int)-1 then 0 else 6)=0:=by omega
     subst hll
     exact ⟨n15,rfl,_,ys,by rw [hz0],o15,ha,hmm⟩
  ·refine k_put ?_;refine k_calP (Post:=fun v=>v= .int .i64 (if 0≤st∧st≤(np:Int)-1 then 0 else 6)) rfl zq (by kernel_rfl) (fun H' hH=>f114_c m H' (p:=0≤st∧st≤(np:Int)-1) (by first|exact (decide_eq_true (by assumption)).symm|exact (decide_eq_false (by assumption)).symm) 6) ?_;rintro v rfl;refine k_put ?_;refine k_calC rfl zq (by kernel_rfl) (fun H' hH=>f113_c m H' (rdp.keeps (sq hH)) hp (rdt.keeps (sq hH)) ht (rdk.keeps (sq hH)) hk hzb _) ?_;rintro v nw ⟨w,rfl,bp,bc,vs,rfl,rdv,rde⟩;refine k_hpA (k_put ?_);have hle:=openL_le (b:=b) (if 0≤st∧st≤(np:Int)-1 then 0 else 6)
   have hmem:=openL_mem (b:=b) (own:=(if 0≤st∧st≤(np:Int)-1 then 0 else 6))
   generalize hll:openL b (openS b (if 0≤st∧st≤(np:Int)-1 then 0 else 6))=ll at rdv rde hle hmem⊢
   refine d40 ?_;refine k_as rfl zq ?_;refine d68 ?_
   refine k_neqS rfl zq (fun hc=>?_) (fun hc=>?_)
   ·refine d132 ?_
    refine run_res (h) rfl Tryz.func37 rfl weakSub ?_;refine hK _ _ ?_;exact ⟨[],by simp,_,[],rfl,OwnS.nil,List.Pairwise.nil,by rw [openL_no (by assumption)];simp [breadthsAt]⟩
   ·refine d13 ?_;refine d93 ?_;refine d142 ?_
    refine run_loop (fun nn l h'=> ∃(k:Nat) (w9:Value) (n8:Hp),nn=ll.length-k∧(k≤ll.length)∧(OwnS 3 1 w9 k (ints (breadthsAt (ll.take k) st.toNat)) n8)∧(∃U:Nat→Value,l=((fbV b pp np cp pt nt ct pk nk ck)::(.int .i64 st)::vw5 U 2 ((.slice bp ll.length bc)::(U 8)::w9::(.int .i64 (k:Int))::(U 11)::vw34 U 12 [])))∧h++[⟨true,q2,.cells (fbL b pp np cp pt nt ct pk nk ck).toArray 26 (0,0)⟩]++nw++n8=h') _ ⟨0,_,[],rfl,by omega,OwnS.nil,exU rfl,(by simp)⟩ ?_;rintro nn l h' ⟨k,w9,n8,rfl,hk,ho,⟨U,rfl⟩,rfl⟩ hnext;refine run_seq ?_;refine d120 ?_;refine k_lssS rfl zq (fun hc=>?_) (fun hc=>?_)
    ·refine d98 ?_;refine rr11 ?_
     obtain ⟨ep,ec,ee,er⟩:=rde.2 k (by omega)
     obtain ⟨hv,h0,hb⟩:=hmem _ (mem_getDR.2 ⟨k,by omega,rfl⟩)
     replace hb:ll.getD k []∈boatsOf b:=hb
     have hln:=(mem_boats.1 hb).1
     have hpo:=hv.pts
     have hp2:=hpo.two
     have hp5:=hpo.five
     have hst:0≤st∧st≤(np:Int)-1:=Classical.byContradiction fun e=>by rw [if_neg e] at h0;cases h0
     obtain ⟨s,hs⟩:=Int.eq_ofNat_of_zero_le (show 0≤st by omega)
     refine d3 ?_;refine mq rfl ?_
     obtain ⟨rdv_b,rdv_o,rfl⟩:=rdv.ptr (by omega)
     refine k_ixs rfl zq (by first|rfl|assumption) (by omega) (by omega) ?_;refine k_ld (v:= .slice ep (ll.getD k []).length ec) rfl zq (by rw [←ee];exact rdv.vat k (by omega) (by omega)) ?_;obtain ⟨eb,eo,rfl⟩:=er.ptr (by omega)
     refine d39 ?_
     refine k_ld rfl zq (er.iat s (by omega) (by omega)) ?_;refine k_bs kdq rfl zq (by decide) (by decide) rfl (fun q42=>k_hp (k_put ?_));refine k_app1 (F:=h++[⟨true,q2,.cells (fbL b pp np cp pt nt ct pk nk ck).toArray 26 (0,0)⟩]++nw) rfl zq rfl ho kdq (by omega) (by omega) (fun w9 n9 o9=>k_put ?_);rw [show ints (breadthsAt (ll.take k) st.toNat)++[Value.int .i64 ((ll.getD k []).getD s 0)]=ints (breadthsAt (ll.take (k+1)) st.toNat) by rw [breadthsAt_take _ _ _ (by omega),show st.toNat=s by omega];simp] at o9
     refine d45 ?_;refine rr3 ?_;refine d61 ?_
     exact m.weak weakSub (hnext _ _ _ (by omega) ⟨k+1,_,n9,rfl,by omega,o9,exU rfl,rfl⟩)
    ·refine d75 ?_;refine rs4 ?_
     obtain rfl:k=ll.length:=by omega
     rw [List.take_of_length_le (by omega)] at ho
     obtain ⟨p8,c8,rfl,_⟩:=ho.len
     have r8:RdS B n8 1 (.slice p8 _ c8) _ _:=ho.rd'
     refine mq rfl ?_
     refine k_calC rfl zq (by kernel_rfl) (fun H' hH=>f116_c m H' (r8.keeps (sq hH)) (by omega)) ?_;rintro v n15 ⟨ys,ha,hmm,o15⟩;refine k_hpA (k_put ?_);refine d27 ?_
     refine run_res (h++n15) rfl Tryz.func37 rfl weakSub ?_;refine hK _ _ ?_;have hz0:openS b (if 0≤st∧st≤(np:Int)-1 then 0 else 6)=0:=by omega
     subst hll
     exact ⟨n15,rfl,_,ys,by rw [hz0],o15,ha,hmm⟩
end Go.Proofs
namespace Go.Proofs
open Go.Lo
open Go.Conc (G)
set_option maxRecDepth 100000
set_option synthInstance.maxSize 100000
set_option synthInstance.maxHeartbeats 1000000
set_option maxHeartbeats 4000000
variable {B:Array Obj}
variable [LaidF B]
theorem f120_c (m:Md Tryz.prog B) (h:Hp) {p:Option Addr} {n c:Nat} {xs:List Int} (rd:RdS B h 1 (.slice p n c) n (ints xs)) (hn:n≤10000) (h1:1≤n):FnC m 120 #[.slice p n c] h fun v h'=>h'=h∧v= .agg [.int .i64 (minL xs),.int .i64 (maxL xs)].toArray:=by
 have hl:=rd.ilen
 have hn63:n<9000000000000000000:=by omega
 obtain ⟨rb,ro,rfl⟩:=rd.ptr (by omega)
 refine fn_enter Tryz.func120 rfl rfl (l:=(.slice (some ⟨rb,ro,none⟩) n c)::uu33) rfl ?_
 intro cf cs K hK
 refine rs1 ?_;refine k_new rfl zq (fun q2=>k_hp (k_put ?_));refine d24 ?_
 refine run_draw [(0,.pure),(1,.pure),(3,.pure),(4,.pure),(2,.read),(5,.read),(6,.pure),(7,.alloc),(8,.free)] (by kernel_rfl) (by kernel_rfl) (List.Sublist.refl _) ?_;refine d39 ?_;refine d39 ?_
 refine k_ld rfl zq (rd.iat 0 (by omega) (by omega)) ?_;refine k_ld rfl zq (rd.iat 0 (by omega) (by omega)) ?_;refine k_bld rfl zq ?_;refine k_new rfl zq (fun q3=>k_hp (k_put ?_));refine d129 ?_;refine d142 ?_
 refine run_loop (fun nn l h'=> ∃(k:Nat) (lo hi:Int),nn=n-k∧(k≤n)∧(1≤k)∧(lo=minL (xs.take k))∧(hi=maxL (xs.take k))∧(∃U:Nat→Value,l=((.slice (some ⟨rb,ro,none⟩) n c)::(U 1)::(.pointer (some ⟨q2,0,none⟩))::(.pointer (some ⟨q3,0,none⟩))::(.int .i64 (k:Int))::(U 5)::(U 6)::vw27 U 7 []))∧h++[⟨true,q2,.cells [.int .i64 0,.int .i64 0].toArray 46 (0,0)⟩,⟨true,q3,.cells [.int .i64 lo,.int .i64 hi].toArray 46 (0,0)⟩]=h') _ ⟨1,_,_,rfl,by omega,by omega,by rw [minL_one],by rw [maxL_one],exU rfl,rfl⟩ ?_;rintro nn l h' ⟨k,lo,hi,rfl,hk,hk1,hlo,hhi,⟨U,rfl⟩,rfl⟩ hnext;refine run_seq ?_;refine d120 ?_;refine k_lssS rfl zq (fun hc=>?_) (fun hc=>?_)
 ·refine d98 ?_
  refine run_draw [(0,.pure),(2,.pure),(3,.pure),(4,.pure),(7,.pure),(9,.pure),(10,.pure),(11,.pure),(1,.read),(5,.read),(6,.pure),(8,.read),(12,.read),(13,.pure),(14,.pure),(15,.free)] (by kernel_rfl) (by kernel_rfl) (List.Sublist.refl _) ?_;(first|refine k_fa0 rfl zq ?_|refine k_fa rfl zq ?_);refine d11 ?_;(first|refine k_fa0 rfl zq ?_|refine k_fa rfl zq ?_);refine d11 ?_;refine k_ldh rfl zq ?_
  refine k_ld rfl zq (rd.iat k (by omega) (by omega)) ?_;refine k_min rfl zq ?_;refine k_ldh rfl zq ?_;refine k_ld rfl zq (rd.iat k (by omega) (by omega)) ?_;refine k_max rfl zq ?_;refine k_bld rfl zq ?_;refine d48 ?_;refine d109 ?_;exact m.weak weakSub (hnext _ _ _ (by omega) ⟨k+1,_,_,rfl,by omega,by omega,by rw [minL_take _ (by omega) (by omega),←hlo],by rw [maxL_take _ (by omega) (by omega),←hhi],exU rfl,rfl⟩)
 ·refine d75 ?_;refine d113 ?_;refine d91 ?_
  refine run_res (h) rfl Tryz.func120 rfl weakSub ?_;refine hK _ _ ?_;obtain rfl:k=n:=by omega
  exact ⟨rfl,by rw [hlo,hhi,List.take_of_length_le (by omega)]⟩
end Go.Proofs
namespace Go.Proofs
open Go.Lo
open Go.Conc (G)
set_option maxRecDepth 100000
set_option synthInstance.maxSize 100000
set_option synthInstance.maxHeartbeats 1000000
set_option maxHeartbeats 4000000
variable {b:Fb} {pp:Option Addr} {np cp:Nat} {pt:Option Addr} {nt ct:Nat} {pk:Option Addr} {nk ck:Nat}
variable {B:Array Obj}
variable [LaidF B]
theorem mapT_take (f:List Int→Int) (ll:List (List Int)) {k:Nat} (h:k<ll.length):(ll.take (k+1)).map f=(ll.take k).map f++[f (ll.getD k [])]:=by
 rw [take_snocL ll k h,List.map_append];rfl
theorem f39_c (m:Md Tryz.prog B) (h:Hp) (rdp:Rp B h b pp np cp) (hp:np≤1000) (rdt:Rt B h b pt nt ct) (ht:nt≤1000) (rdk:Rk B h b pk nk ck) (hk:nk≤1000) (x:Int):FnC m 39 #[fbV b pp np cp pt nt ct pk nk ck,.int .i64 x] h fun v h'=>h'=h∧v=spanT (openS b (if (b.pts.getD 0 default).h≤x∧x≤(b.pts.getD (np-1) default).h then 0 else 1)) ((boatsOf b).map fun l=>atI b.pts l x):=by
 have hml:=rdp.elen (by decide)
 refine fn_enter Tryz.func39 rfl rfl (l:=(fbV b pp np cp pt nt ct pk nk ck)::(.int .i64 x)::uu46) rfl ?_
 intro cf cs K hK
 refine rs3 ?_;refine k_box rfl zq (fun q2=>k_hp (k_put ?_));refine k_new rfl zq (fun q4=>k_hp (k_put ?_));refine d12 ?_;refine d94 ?_
 refine k_calP (Post:=fun v=>v=_) rfl zq (by kernel_rfl) (fun H' hH=>f22_c m H' (rdp.keeps (sq hH)) hp (rdt.keeps (sq hH)) ht (rdk.keeps (sq hH)) hk) ?_;rintro v rfl;refine d135 ?_
 refine k_neqS rfl zq (fun hc=>?_) (fun hc=>?_)
 ·refine d7 ?_;refine rs4 ?_;refine d112 ?_;refine d70 ?_
  refine run_res (h) rfl Tryz.func39 rfl weakSub ?_;refine hK _ _ ?_;exact ⟨rfl,by rw [openS_b (by assumption),spanT_no (by assumption)]⟩
 ·refine d37 ?_
  refine run_draw [(2,.pure),(0,.read),(1,.read),(3,.keep),(4,.keep),(5,.keep),(6,.pure),(7,.pure),(8,.pure),(9,.pure),(10,.pure)] (by kernel_rfl) (by kernel_rfl) (List.Sublist.refl _) ?_;refine mq rfl ?_
  have hzb:fbS b=0:=by omega
  have hp2:=(fbS_zero hzb).pts.two
  refine k_ldA rfl zq ?_;refine k_ldA rfl zq ?_;refine k_calP (Post:=fun v=>IsB _ v) rfl zq (by kernel_rfl) (fun H' hH=>f93_c m H' _ (rdp.keeps (sq hH)) hp (by omega)) ?_;rintro v (⟨hc,rfl⟩|⟨hc,rfl⟩)
  ·refine k_put ?_;refine k_calP (Post:=fun v=>v= .int .i64 (if (b.pts.getD 0 default).h≤x∧x≤(b.pts.getD (np-1) default).h then 0 else 1)) rfl zq (by kernel_rfl) (fun H' hH=>f114_c m H' (p:=(b.pts.getD 0 default).h≤x∧x≤(b.pts.getD (np-1) default).h) (by first|exact (decide_eq_true (by assumption)).symm|exact (decide_eq_false (by assumption)).symm) 1) ?_;rintro v rfl;refine k_put ?_;refine k_calC rfl zq (by kernel_rfl) (fun H' hH=>f113_c m H' (rdp.keeps (sq hH)) hp (rdt.keeps (sq hH)) ht (rdk.keeps (sq hH)) hk hzb _) ?_;rintro v nw ⟨w,rfl,bp,bc,vs,rfl,rdv,rde⟩;refine k_hpA (k_put ?_);have hle:=openL_le (b:=b) (if (b.pts.getD 0 default).h≤x∧x≤(b.pts.getD (np-1) default).h then 0 else 1)
   have hmem:=openL_mem (b:=b) (own:=(if (b.pts.getD 0 default).h≤x∧x≤(b.pts.getD (np-1) default).h then 0 else 1))
   generalize hll:openL b (openS b (if (b.pts.getD 0 default).h≤x∧x≤(b.pts.getD (np-1) default).h then 0 else 1))=ll at rdv rde hle hmem⊢
   refine d40 ?_;refine k_as rfl zq ?_;refine d68 ?_
   refine k_neqS rfl zq (fun hc=>?_) (fun hc=>?_)
   ·refine d7 ?_;refine rs4 ?_;refine d112 ?_;refine d70 ?_
    refine run_res (h) rfl Tryz.func39 rfl weakSub ?_;refine hK _ _ ?_;first
     |exact ⟨rfl,by rw [spanT_no (by assumption)]⟩
     |(have hz0:openS b (if (b.pts.getD 0 default).h≤x∧x≤(b.pts.getD (np-1) default).h then 0 else 1)=0:=by omega
       subst hll
       rw [openL_yes hz0] at ho⊢
       exact ⟨rfl,by rw [spanT_yes hz0]⟩)
   ·refine d13 ?_;refine d93 ?_;refine d142 ?_
    refine run_loop (fun nn l h'=> ∃(k:Nat) (wv:Value) (n8:Hp),nn=ll.length-k∧(k≤ll.length)∧(OwnS 3 1 wv k (ints ((ll.take k).map fun l=>atI b.pts l x)) n8)∧(∃U:Nat→Value,l=((fbV b pp np cp pt nt ct pk nk ck)::(.int .i64 x)::(.pointer (some ⟨q2,0,none⟩))::(U 3)::(.pointer (some ⟨q4,0,none⟩))::(U 5)::(U 6)::(.slice bp ll.length bc)::(U 8)::wv::(.int .i64 (k:Int))::(U 11)::(U 12)::(U 13)::vw34 U 14 []))∧h++[⟨true,q2,.cells (fbL b pp np cp pt nt ct pk nk ck).toArray 26 (0,0)⟩,⟨true,q4,.cells [.int .i64 0,.int .i64 0].toArray 46 (0,0)⟩]++nw++n8=h') _ ⟨0,_,[],rfl,by omega,OwnS.nil,exU rfl,(by simp)⟩ ?_;rintro nn l h' ⟨k,wv,n8,rfl,hk,ho,⟨U,rfl⟩,rfl⟩ hnext;refine run_seq ?_;refine d120 ?_;refine k_lssS rfl zq (fun hc=>?_) (fun hc=>?_)
    ·refine d98 ?_
     refine run_draw [(0,.pure),(2,.pure),(3,.pure),(4,.pure),(6,.pure),(1,.read),(5,.read),(7,.keep),(8,.keep),(9,.free),(10,.pure)] (by kernel_rfl) (by kernel_rfl) (List.Sublist.refl _) ?_;obtain ⟨ep,ec,ee,er⟩:=rde.2 k (by omega)
     obtain ⟨hv,h0,hb⟩:=hmem _ (mem_getDR.2 ⟨k,by omega,rfl⟩)
     replace hb:ll.getD k []∈boatsOf b:=hb
     have hln:=(mem_boats.1 hb).1
     have hpo:=hv.pts
     have hp2:=hpo.two
     have hp5:=hpo.five
     have hlv:(b.pts.getD 0 default).h≤x∧x≤(b.pts.getD (np-1) default).h:=Classical.byContradiction fun e=>by rw [if_neg e] at h0;cases h0
     refine d3 ?_;refine mq rfl ?_
     obtain ⟨rdv_b,rdv_o,rfl⟩:=rdv.ptr (by omega)
     refine k_ixs rfl zq (by first|rfl|assumption) (by omega) (by omega) ?_;refine mq rfl ?_;refine k_ldA rfl zq ?_;refine k_ld (v:= .slice ep (ll.getD k []).length ec) rfl zq (by rw [←ee];exact rdv.vat k (by omega) (by omega)) ?_;refine k_calP (Post:=fun v=>v=_) rfl zq (by kernel_rfl) (fun H' hH=>f94_c m H' (rdp.keeps (sq hH)) hp (er.keeps (sq hH)) (by omega) (by omega) hpo (boat_sml hpo hb) x hlv) ?_;rintro v rfl;refine k_put ?_;refine k_bs kdq rfl zq (by decide) (by decide) rfl (fun q44=>k_hp (k_put ?_));refine k_app1 (F:=h++[⟨true,q2,.cells (fbL b pp np cp pt nt ct pk nk ck).toArray 26 (0,0)⟩,⟨true,q4,.cells [.int .i64 0,.int .i64 0].toArray 46 (0,0)⟩]++nw) rfl zq rfl ho kdq (by omega) (by omega) (fun w9 n9 o9=>k_put ?_);rw [show ints ((ll.take k).map fun l=>atI b.pts l x)++[Value.int .i64 (atI b.pts (ll.getD k []) x)]=ints ((ll.take (k+1)).map fun l=>atI b.pts l x) by rw [mapT_take _ _ (by omega)];simp] at o9
     refine d45 ?_;refine rr3 ?_;refine d61 ?_
     exact m.weak weakSub (hnext _ _ _ (by omega) ⟨k+1,_,n9,rfl,by omega,o9,exU rfl,rfl⟩)
    ·refine d75 ?_;refine rs4 ?_
     obtain rfl:k=ll.length:=by omega
     rw [List.take_of_length_le (by omega)] at ho
     have hpos:0<ll.length:=by
      subst hll
      rw [openL_yes (by assumption)];exact List.length_pos_iff.2 (openS_zero (b:=b) (by assumption)).2.2
     obtain ⟨p8,c8,rfl,_⟩:=ho.len
     have r8:RdS B n8 1 (.slice p8 _ c8) _ _:=ho.rd'
     refine mq rfl ?_
     refine k_calP (Post:=fun v=>v=_) rfl zq (by kernel_rfl) (fun H' hH=>f120_c m H' (r8.keeps (sq hH)) (by omega) (by omega)) ?_;rintro v rfl;refine k_put ?_;refine d70 ?_;refine run_res (h) rfl Tryz.func39 rfl weakSub ?_;refine hK _ _ ?_;first
      |exact ⟨rfl,by rw [spanT_no (by assumption)]⟩
      |(have hz0:openS b (if (b.pts.getD 0 default).h≤x∧x≤(b.pts.getD (np-1) default).h then 0 else 1)=0:=by omega
        subst hll
        rw [openL_yes hz0] at ho⊢
        exact ⟨rfl,by rw [spanT_yes hz0]⟩)
  ·refine k_put ?_;refine k_calP (Post:=fun v=>v= .int .i64 (if (b.pts.getD 0 default).h≤x∧x≤(b.pts.getD (np-1) default).h then 0 else 1)) rfl zq (by kernel_rfl) (fun H' hH=>f114_c m H' (p:=(b.pts.getD 0 default).h≤x∧x≤(b.pts.getD (np-1) default).h) (by first|exact (decide_eq_true (by assumption)).symm|exact (decide_eq_false (by assumption)).symm) 1) ?_;rintro v rfl;refine k_put ?_;refine k_calC rfl zq (by kernel_rfl) (fun H' hH=>f113_c m H' (rdp.keeps (sq hH)) hp (rdt.keeps (sq hH)) ht (rdk.keeps (sq hH)) hk hzb _) ?_;rintro v nw ⟨w,rfl,bp,bc,vs,rfl,rdv,rde⟩;refine k_hpA (k_put ?_);have hle:=openL_le (b:=b) (if (b.pts.getD 0 default).h≤x∧x≤(b.pts.getD (np-1) default).h then 0 else 1)
   have hmem:=openL_mem (b:=b) (own:=(if (b.pts.getD 0 default).h≤x∧x≤(b.pts.getD (np-1) default).h then 0 else 1))
   generalize hll:openL b (openS b (if (b.pts.getD 0 default).h≤x∧x≤(b.pts.getD (np-1) default).h then 0 else 1))=ll at rdv rde hle hmem⊢
   refine d40 ?_;refine k_as rfl zq ?_;refine d68 ?_
   refine k_neqS rfl zq (fun hc=>?_) (fun hc=>?_)
   ·refine d7 ?_;refine rs4 ?_;refine d112 ?_;refine d70 ?_
    refine run_res (h) rfl Tryz.func39 rfl weakSub ?_;refine hK _ _ ?_;first
     |exact ⟨rfl,by rw [spanT_no (by assumption)]⟩
     |(have hz0:openS b (if (b.pts.getD 0 default).h≤x∧x≤(b.pts.getD (np-1) default).h then 0 else 1)=0:=by omega
       subst hll
       rw [openL_yes hz0] at ho⊢
       exact ⟨rfl,by rw [spanT_yes hz0]⟩)
   ·refine d13 ?_;refine d93 ?_;refine d142 ?_
    refine run_loop (fun nn l h'=> ∃(k:Nat) (wv:Value) (n8:Hp),nn=ll.length-k∧(k≤ll.length)∧(OwnS 3 1 wv k (ints ((ll.take k).map fun l=>atI b.pts l x)) n8)∧(∃U:Nat→Value,l=((fbV b pp np cp pt nt ct pk nk ck)::(.int .i64 x)::(.pointer (some ⟨q2,0,none⟩))::(U 3)::(.pointer (some ⟨q4,0,none⟩))::(U 5)::(U 6)::(.slice bp ll.length bc)::(U 8)::wv::(.int .i64 (k:Int))::(U 11)::(U 12)::(U 13)::vw34 U 14 []))∧h++[⟨true,q2,.cells (fbL b pp np cp pt nt ct pk nk ck).toArray 26 (0,0)⟩,⟨true,q4,.cells [.int .i64 0,.int .i64 0].toArray 46 (0,0)⟩]++nw++n8=h') _ ⟨0,_,[],rfl,by omega,OwnS.nil,exU rfl,(by simp)⟩ ?_;rintro nn l h' ⟨k,wv,n8,rfl,hk,ho,⟨U,rfl⟩,rfl⟩ hnext;refine run_seq ?_;refine d120 ?_;refine k_lssS rfl zq (fun hc=>?_) (fun hc=>?_)
    ·refine d98 ?_
     refine run_draw [(0,.pure),(2,.pure),(3,.pure),(4,.pure),(6,.pure),(1,.read),(5,.read),(7,.keep),(8,.keep),(9,.free),(10,.pure)] (by kernel_rfl) (by kernel_rfl) (List.Sublist.refl _) ?_;obtain ⟨ep,ec,ee,er⟩:=rde.2 k (by omega)
     obtain ⟨hv,h0,hb⟩:=hmem _ (mem_getDR.2 ⟨k,by omega,rfl⟩)
     replace hb:ll.getD k []∈boatsOf b:=hb
     have hln:=(mem_boats.1 hb).1
     have hpo:=hv.pts
     have hp2:=hpo.two
     have hp5:=hpo.five
     have hlv:(b.pts.getD 0 default).h≤x∧x≤(b.pts.getD (np-1) default).h:=Classical.byContradiction fun e=>by rw [if_neg e] at h0;cases h0
     refine d3 ?_;refine mq rfl ?_
     obtain ⟨rdv_b,rdv_o,rfl⟩:=rdv.ptr (by omega)
     refine k_ixs rfl zq (by first|rfl|assumption) (by omega) (by omega) ?_;refine mq rfl ?_;refine k_ldA rfl zq ?_;refine k_ld (v:= .slice ep (ll.getD k []).length ec) rfl zq (by rw [←ee];exact rdv.vat k (by omega) (by omega)) ?_;refine k_calP (Post:=fun v=>v=_) rfl zq (by kernel_rfl) (fun H' hH=>f94_c m H' (rdp.keeps (sq hH)) hp (er.keeps (sq hH)) (by omega) (by omega) hpo (boat_sml hpo hb) x hlv) ?_;rintro v rfl;refine k_put ?_;refine k_bs kdq rfl zq (by decide) (by decide) rfl (fun q44=>k_hp (k_put ?_));refine k_app1 (F:=h++[⟨true,q2,.cells (fbL b pp np cp pt nt ct pk nk ck).toArray 26 (0,0)⟩,⟨true,q4,.cells [.int .i64 0,.int .i64 0].toArray 46 (0,0)⟩]++nw) rfl zq rfl ho kdq (by omega) (by omega) (fun w9 n9 o9=>k_put ?_);rw [show ints ((ll.take k).map fun l=>atI b.pts l x)++[Value.int .i64 (atI b.pts (ll.getD k []) x)]=ints ((ll.take (k+1)).map fun l=>atI b.pts l x) by rw [mapT_take _ _ (by omega)];simp] at o9
     refine d45 ?_;refine rr3 ?_;refine d61 ?_
     exact m.weak weakSub (hnext _ _ _ (by omega) ⟨k+1,_,n9,rfl,by omega,o9,exU rfl,rfl⟩)
    ·refine d75 ?_;refine rs4 ?_
     obtain rfl:k=ll.length:=by omega
     rw [List.take_of_length_le (by omega)] at ho
     have hpos:0<ll.length:=by
      subst hll
      rw [openL_yes (by assumption)];exact List.length_pos_iff.2 (openS_zero (b:=b) (by assumption)).2.2
     obtain ⟨p8,c8,rfl,_⟩:=ho.len
     have r8:RdS B n8 1 (.slice p8 _ c8) _ _:=ho.rd'
     refine mq rfl ?_
     refine k_calP (Post:=fun v=>v=_) rfl zq (by kernel_rfl) (fun H' hH=>f120_c m H' (r8.keeps (sq hH)) (by omega) (by omega)) ?_;rintro v rfl;refine k_put ?_;refine d70 ?_;refine run_res (h) rfl Tryz.func39 rfl weakSub ?_;refine hK _ _ ?_;first
      |exact ⟨rfl,by rw [spanT_no (by assumption)]⟩
      |(have hz0:openS b (if (b.pts.getD 0 default).h≤x∧x≤(b.pts.getD (np-1) default).h then 0 else 1)=0:=by omega
        subst hll
        rw [openL_yes hz0] at ho⊢
        exact ⟨rfl,by rw [spanT_yes hz0]⟩)
theorem f41_c (m:Md Tryz.prog B) (h:Hp) (rdp:Rp B h b pp np cp) (hp:np≤1000) (rdt:Rt B h b pt nt ct) (ht:nt≤1000) (rdk:Rk B h b pk nk ck) (hk:nk≤1000) (f t:Int):FnC m 41 #[fbV b pp np cp pt nt ct pk nk ck,.int .i64 f,.int .i64 t] h fun v h'=>h'=h∧v=spanT (openS b (ordS np f t)) ((boatsOf b).map fun l=>girthI b.pts l f t):=by
 have hml:=rdp.elen (by decide)
 refine fn_enter Tryz.func41 rfl rfl (l:=[fbV b pp np cp pt nt ct pk nk ck,.int .i64 f,.int .i64 t,undef,undef,undef,undef,undef,undef,undef,undef,undef,undef,undef,undef,undef,undef,undef,undef,undef,undef,undef,undef,undef,undef,undef,undef,undef,undef,undef,undef,undef,undef,undef,undef,undef,undef,undef,undef,undef,undef,undef,undef,undef,undef,undef,undef,undef,undef,undef,undef]) rfl ?_
 intro cf cs K hK
 refine rs3 ?_;refine k_box rfl zq (fun q2=>k_hp (k_put ?_));refine k_new rfl zq (fun q4=>k_hp (k_put ?_));refine d12 ?_;refine d94 ?_
 refine k_calP (Post:=fun v=>v=_) rfl zq (by kernel_rfl) (fun H' hH=>f22_c m H' (rdp.keeps (sq hH)) hp (rdt.keeps (sq hH)) ht (rdk.keeps (sq hH)) hk) ?_;rintro v rfl;refine d135 ?_
 refine k_neqS rfl zq (fun hc=>?_) (fun hc=>?_)
 ·refine d7 ?_;refine rs4 ?_;refine d112 ?_;refine d70 ?_
  refine run_res (h) rfl Tryz.func41 rfl weakSub ?_;refine hK _ _ ?_;exact ⟨rfl,by rw [openS_b (by assumption),spanT_no (by assumption)]⟩
 ·refine d37 ?_
  refine run_draw [(2,.pure),(3,.pure),(0,.read),(1,.read),(4,.keep),(5,.keep),(6,.pure),(7,.pure),(8,.pure),(9,.pure),(10,.pure)] (by kernel_rfl) (by kernel_rfl) (List.Sublist.refl _) ?_;refine d3 ?_
  have hzb:fbS b=0:=by omega
  refine k_ldA rfl zq ?_;refine k_ldA rfl zq ?_;refine k_calP (Post:=fun v=>v=_) rfl zq (by kernel_rfl) (fun H' hH=>f97_c m H' _ _ hp) ?_;rintro v rfl;refine k_put ?_;refine k_calC rfl zq (by kernel_rfl) (fun H' hH=>f113_c m H' (rdp.keeps (sq hH)) hp (rdt.keeps (sq hH)) ht (rdk.keeps (sq hH)) hk hzb _) ?_;rintro v nw ⟨w,rfl,bp,bc,vs,rfl,rdv,rde⟩;refine k_hpA (k_put ?_);have hle:=openL_le (b:=b) (ordS np f t)
  have hmem:=openL_mem (b:=b) (own:=(ordS np f t))
  generalize hll:openL b (openS b (ordS np f t))=ll at rdv rde hle hmem⊢
  refine d40 ?_;refine k_as rfl zq ?_;refine d68 ?_
  refine k_neqS rfl zq (fun hc=>?_) (fun hc=>?_)
  ·refine d7 ?_;refine rs4 ?_;refine d112 ?_;refine d70 ?_
   refine run_res (h) rfl Tryz.func41 rfl weakSub ?_;refine hK _ _ ?_;first
    |exact ⟨rfl,by rw [spanT_no (by assumption)]⟩
    |(have hz0:openS b (ordS np f t)=0:=by omega
      subst hll
      rw [openL_yes hz0] at ho⊢
      exact ⟨rfl,by rw [spanT_yes hz0]⟩)
  ·refine d13 ?_;refine d93 ?_;refine d142 ?_
   refine run_loop (fun nn l h'=> ∃(k:Nat) (wv:Value) (n8:Hp),nn=ll.length-k∧(k≤ll.length)∧(OwnS 3 1 wv k (ints ((ll.take k).map fun l=>girthI b.pts l f t)) n8)∧(∃U:Nat→Value,l=((fbV b pp np cp pt nt ct pk nk ck)::(.int .i64 f)::(.int .i64 t)::(.pointer (some ⟨q2,0,none⟩))::(U 4)::(U 5)::(.pointer (some ⟨q4,0,none⟩))::(U 7)::(U 8)::(.slice bp ll.length bc)::(U 10)::wv::(.int .i64 (k:Int))::vw38 U 13 []))∧h++[⟨true,q2,.cells (fbL b pp np cp pt nt ct pk nk ck).toArray 26 (0,0)⟩,⟨true,q4,.cells [.int .i64 0,.int .i64 0].toArray 46 (0,0)⟩]++nw++n8=h') _ ⟨0,_,[],rfl,by omega,OwnS.nil,exU rfl,(by simp)⟩ ?_;rintro nn l h' ⟨k,wv,n8,rfl,hk,ho,⟨U,rfl⟩,rfl⟩ hnext;refine run_seq ?_;refine d120 ?_;refine k_lssS rfl zq (fun hc=>?_) (fun hc=>?_)
   ·refine d98 ?_
    refine run_draw [(0,.pure),(2,.pure),(3,.pure),(4,.pure),(6,.pure),(7,.pure),(1,.read),(5,.read),(8,.keep),(9,.keep),(10,.free),(11,.pure)] (by kernel_rfl) (by kernel_rfl) (List.Sublist.refl _) ?_;obtain ⟨ep,ec,ee,er⟩:=rde.2 k (by omega)
    obtain ⟨hv,h0,hb⟩:=hmem _ (mem_getDR.2 ⟨k,by omega,rfl⟩)
    replace hb:ll.getD k []∈boatsOf b:=hb
    have hln:=(mem_boats.1 hb).1
    have hpo:=hv.pts
    have hp2:=hpo.two
    have hp5:=hpo.five
    obtain ⟨hf0,hft,htn⟩:=ordS_zero h0
    obtain ⟨f,rfl⟩: ∃k:Nat,f=k:=Int.eq_ofNat_of_zero_le (by omega)
    obtain ⟨t,rfl⟩: ∃k:Nat,t=k:=Int.eq_ofNat_of_zero_le (by omega)
    refine d3 ?_;refine mq rfl ?_
    obtain ⟨rdv_b,rdv_o,rfl⟩:=rdv.ptr (by omega)
    refine k_ixs rfl zq (by first|rfl|assumption) (by omega) (by omega) ?_;refine d3 ?_;refine k_ldA rfl zq ?_;refine k_ld (v:= .slice ep (ll.getD k []).length ec) rfl zq (by rw [←ee];exact rdv.vat k (by omega) (by omega)) ?_;refine k_calP (Post:=fun v=>v=_) rfl zq (by kernel_rfl) (fun H' hH=>f98_c m H' (rdp.keeps (sq hH)) hp (er.keeps (sq hH)) (by omega) (by omega) hpo (boat_sml hpo hb) f t (by omega) (by omega)) ?_;rintro v rfl;refine k_put ?_;refine k_bs kdq rfl zq (by decide) (by decide) rfl (fun q47=>k_hp (k_put ?_));refine k_app1 (F:=h++[⟨true,q2,.cells (fbL b pp np cp pt nt ct pk nk ck).toArray 26 (0,0)⟩,⟨true,q4,.cells [.int .i64 0,.int .i64 0].toArray 46 (0,0)⟩]++nw) rfl zq rfl ho kdq (by omega) (by omega) (fun w9 n9 o9=>k_put ?_);rw [show ints ((ll.take k).map fun l=>girthI b.pts l f t)++[Value.int .i64 (girthI b.pts (ll.getD k []) f t)]=ints ((ll.take (k+1)).map fun l=>girthI b.pts l f t) by rw [mapT_take _ _ (by omega)];simp] at o9
    refine d45 ?_;refine rr3 ?_;refine d61 ?_
    exact m.weak weakSub (hnext _ _ _ (by omega) ⟨k+1,_,n9,rfl,by omega,o9,exU rfl,rfl⟩)
   ·refine d75 ?_;refine rs4 ?_
    obtain rfl:k=ll.length:=by omega
    rw [List.take_of_length_le (by omega)] at ho
    have hpos:0<ll.length:=by
     subst hll
     rw [openL_yes (by assumption)];exact List.length_pos_iff.2 (openS_zero (b:=b) (by assumption)).2.2
    obtain ⟨p8,c8,rfl,_⟩:=ho.len
    have r8:RdS B n8 1 (.slice p8 _ c8) _ _:=ho.rd'
    refine mq rfl ?_
    refine k_calP (Post:=fun v=>v=_) rfl zq (by kernel_rfl) (fun H' hH=>f120_c m H' (r8.keeps (sq hH)) (by omega) (by omega)) ?_;rintro v rfl;refine k_put ?_;refine d70 ?_;refine run_res (h) rfl Tryz.func41 rfl weakSub ?_;refine hK _ _ ?_;first
     |exact ⟨rfl,by rw [spanT_no (by assumption)]⟩
     |(have hz0:openS b (ordS np f t)=0:=by omega
       subst hll
       rw [openL_yes hz0] at ho⊢
       exact ⟨rfl,by rw [spanT_yes hz0]⟩)
theorem f43_c (m:Md Tryz.prog B) (h:Hp) (rdp:Rp B h b pp np cp) (hp:np≤1000) (rdt:Rt B h b pt nt ct) (ht:nt≤1000) (rdk:Rk B h b pk nk ck) (hk:nk≤1000)  :FnC m 43 #[fbV b pp np cp pt nt ct pk nk ck] h fun v h'=>h'=h∧v=spanT (openS b (0:Int)) ((boatsOf b).map fun l=>areaI b.pts l):=by
 have hml:=rdp.elen (by decide)
 refine fn_enter Tryz.func43 rfl rfl (l:=[fbV b pp np cp pt nt ct pk nk ck,undef,undef,undef,undef,undef,undef,undef,undef,undef,undef,undef,undef,undef,undef,undef,undef,undef,undef,undef,undef,undef,undef,undef,undef,undef,undef,undef,undef,undef,undef,undef,undef,undef,undef,undef,undef,undef,undef,undef,undef]) rfl ?_
 intro cf cs K hK
 refine rs3 ?_;refine k_box rfl zq (fun q2=>k_hp (k_put ?_));refine k_new rfl zq (fun q4=>k_hp (k_put ?_));refine d12 ?_;refine d94 ?_
 refine k_calP (Post:=fun v=>v=_) rfl zq (by kernel_rfl) (fun H' hH=>f22_c m H' (rdp.keeps (sq hH)) hp (rdt.keeps (sq hH)) ht (rdk.keeps (sq hH)) hk) ?_;rintro v rfl;refine d135 ?_
 refine k_neqS rfl zq (fun hc=>?_) (fun hc=>?_)
 ·refine d7 ?_;refine rs4 ?_;refine d112 ?_;refine d70 ?_
  refine run_res (h) rfl Tryz.func43 rfl weakSub ?_;refine hK _ _ ?_;exact ⟨rfl,by rw [openS_b (by assumption),spanT_no (by assumption)]⟩
 ·refine d13 ?_;refine rs7 ?_
  have hzb:fbS b=0:=by omega
  refine k_ldA rfl zq ?_;refine k_calC rfl zq (by kernel_rfl) (fun H' hH=>f113_c m H' (rdp.keeps (sq hH)) hp (rdt.keeps (sq hH)) ht (rdk.keeps (sq hH)) hk hzb _) ?_;rintro v nw ⟨w,rfl,bp,bc,vs,rfl,rdv,rde⟩;refine k_hpA (k_put ?_);have hle:=openL_le (b:=b) (0:Int)
  have hmem:=openL_mem (b:=b) (own:=(0:Int))
  generalize hll:openL b (openS b (0:Int))=ll at rdv rde hle hmem⊢
  refine d40 ?_;refine k_as rfl zq ?_;refine d68 ?_
  refine k_neqS rfl zq (fun hc=>?_) (fun hc=>?_)
  ·refine d7 ?_;refine rs4 ?_;refine d112 ?_;refine d70 ?_
   refine run_res (h) rfl Tryz.func43 rfl weakSub ?_;refine hK _ _ ?_;first
    |exact ⟨rfl,by rw [spanT_no (by assumption)]⟩
    |(have hz0:openS b (0:Int)=0:=by omega
      subst hll
      rw [openL_yes hz0] at ho⊢
      exact ⟨rfl,by rw [spanT_yes hz0]⟩)
  ·refine d13 ?_;refine d93 ?_;refine d142 ?_
   refine run_loop (fun nn l h'=> ∃(k:Nat) (wv:Value) (n8:Hp),nn=ll.length-k∧(k≤ll.length)∧(OwnS 3 1 wv k (ints ((ll.take k).map fun l=>areaI b.pts l)) n8)∧(∃U:Nat→Value,l=((fbV b pp np cp pt nt ct pk nk ck)::(.pointer (some ⟨q2,0,none⟩))::(.pointer (some ⟨q4,0,none⟩))::(U 3)::(U 4)::(.slice bp ll.length bc)::(U 6)::wv::(.int .i64 (k:Int))::vw32 U 9 []))∧h++[⟨true,q2,.cells (fbL b pp np cp pt nt ct pk nk ck).toArray 26 (0,0)⟩,⟨true,q4,.cells [.int .i64 0,.int .i64 0].toArray 46 (0,0)⟩]++nw++n8=h') _ ⟨0,_,[],rfl,by omega,OwnS.nil,exU rfl,(by simp)⟩ ?_;rintro nn l h' ⟨k,wv,n8,rfl,hk,ho,⟨U,rfl⟩,rfl⟩ hnext;refine run_seq ?_;refine d120 ?_;refine k_lssS rfl zq (fun hc=>?_) (fun hc=>?_)
   ·refine d98 ?_
    refine run_draw [(0,.pure),(2,.pure),(3,.pure),(4,.pure),(1,.read),(5,.read),(6,.keep),(7,.keep),(8,.free),(9,.pure)] (by kernel_rfl) (by kernel_rfl) (List.Sublist.refl _) ?_;obtain ⟨ep,ec,ee,er⟩:=rde.2 k (by omega)
    obtain ⟨hv,h0,hb⟩:=hmem _ (mem_getDR.2 ⟨k,by omega,rfl⟩)
    replace hb:ll.getD k []∈boatsOf b:=hb
    have hln:=(mem_boats.1 hb).1
    have hpo:=hv.pts
    have hp2:=hpo.two
    have hp5:=hpo.five
    refine d3 ?_;refine mq rfl ?_
    obtain ⟨rdv_b,rdv_o,rfl⟩:=rdv.ptr (by omega)
    refine k_ixs rfl zq (by first|rfl|assumption) (by omega) (by omega) ?_;refine k_ldA rfl zq ?_;refine k_ld (v:= .slice ep (ll.getD k []).length ec) rfl zq (by rw [←ee];exact rdv.vat k (by omega) (by omega)) ?_;refine k_calP (Post:=fun v=>v=_) rfl zq (by kernel_rfl) (fun H' hH=>f100_c m H' (rdp.keeps (sq hH)) hp (er.keeps (sq hH)) (by omega) (by omega) hpo (boat_sml hpo hb)) ?_;rintro v rfl;refine k_put ?_;refine k_bs kdq rfl zq (by decide) (by decide) rfl (fun q37=>k_hp (k_put ?_));refine k_app1 (F:=h++[⟨true,q2,.cells (fbL b pp np cp pt nt ct pk nk ck).toArray 26 (0,0)⟩,⟨true,q4,.cells [.int .i64 0,.int .i64 0].toArray 46 (0,0)⟩]++nw) rfl zq rfl ho kdq (by omega) (by omega) (fun w9 n9 o9=>k_put ?_);rw [show ints ((ll.take k).map fun l=>areaI b.pts l)++[Value.int .i64 (areaI b.pts (ll.getD k []))]=ints ((ll.take (k+1)).map fun l=>areaI b.pts l) by rw [mapT_take _ _ (by omega)];simp] at o9
    refine d45 ?_;refine rr3 ?_;refine d61 ?_
    exact m.weak weakSub (hnext _ _ _ (by omega) ⟨k+1,_,n9,rfl,by omega,o9,exU rfl,rfl⟩)
   ·refine d75 ?_;refine rs4 ?_
    obtain rfl:k=ll.length:=by omega
    rw [List.take_of_length_le (by omega)] at ho
    have hpos:0<ll.length:=by
     subst hll
     rw [openL_yes (by assumption)];exact List.length_pos_iff.2 (openS_zero (b:=b) (by assumption)).2.2
    obtain ⟨p8,c8,rfl,_⟩:=ho.len
    have r8:RdS B n8 1 (.slice p8 _ c8) _ _:=ho.rd'
    refine mq rfl ?_
    refine k_calP (Post:=fun v=>v=_) rfl zq (by kernel_rfl) (fun H' hH=>f120_c m H' (r8.keeps (sq hH)) (by omega) (by omega)) ?_;rintro v rfl;refine k_put ?_;refine d70 ?_;refine run_res (h) rfl Tryz.func43 rfl weakSub ?_;refine hK _ _ ?_;first
     |exact ⟨rfl,by rw [spanT_no (by assumption)]⟩
     |(have hz0:openS b (0:Int)=0:=by omega
       subst hll
       rw [openL_yes hz0] at ho⊢
       exact ⟨rfl,by rw [spanT_yes hz0]⟩)
def toldI (x y:Int):Int:=if x=0 then 2 else if x=y then 1 else 0
def clearN (b:Fb) (ll:List (List Int)) (x y:Int):Nat:=(ll.filter fun l=>decide (y≤atI b.pts l x)).length
theorem clearN_yes (b:Fb) (ll:List (List Int)) (x y:Int) {k:Nat} (h:k<ll.length) (hp:atI b.pts (ll.getD k []) x≥y):clearN b (ll.take (k+1)) x y=clearN b (ll.take k) x y+1:=by
 rw [take_snocL ll k h,clearN,List.filter_append,List.filter_cons,if_pos (decide_eq_true hp),List.length_append];rfl
theorem clearN_no (b:Fb) (ll:List (List Int)) (x y:Int) {k:Nat} (h:k<ll.length) (hp: ¬atI b.pts (ll.getD k []) x≥y):clearN b (ll.take (k+1)) x y=clearN b (ll.take k) x y:=by
 rw [take_snocL ll k h,clearN,List.filter_append,List.filter_cons,if_neg (by rw [decide_eq_true_iff];exact hp),List.filter_nil,List.append_nil];rfl
theorem f45_c (m:Md Tryz.prog B) (h:Hp) (rdp:Rp B h b pp np cp) (hp:np≤1000) (rdt:Rt B h b pt nt ct) (ht:nt≤1000) (rdk:Rk B h b pk nk ck) (hk:nk≤1000) (x y:Int):FnC m 45 #[fbV b pp np cp pt nt ct pk nk ck,.int .i64 x,.int .i64 y] h fun v h'=>h'=h∧v=orNo (openS b (if ((b.pts.getD 0 default).h≤x∧x≤(b.pts.getD (np-1) default).h)∧0≤y∧y≤959 then 0 else 1)) (toldI (clearN b (boatsOf b) x y) (boatsOf b).length):=by
 have hml:=rdp.elen (by decide)
 refine fn_enter Tryz.func45 rfl rfl (l:=(fbV b pp np cp pt nt ct pk nk ck)::(.int .i64 x)::(.int .i64 y)::uu52) rfl ?_
 intro cf cs K hK
 refine rs3 ?_;refine k_box rfl zq (fun q2=>k_hp (k_put ?_));refine d97 ?_;refine d94 ?_
 refine k_calP (Post:=fun v=>v=_) rfl zq (by kernel_rfl) (fun H' hH=>f22_c m H' (rdp.keeps (sq hH)) hp (rdt.keeps (sq hH)) ht (rdk.keeps (sq hH)) hk) ?_;rintro v rfl;refine d135 ?_
 refine k_neqS rfl zq (fun hc=>?_) (fun hc=>?_)
 ·refine d132 ?_
  refine run_res (h) rfl Tryz.func45 rfl weakSub ?_;refine hK _ _ ?_;exact ⟨rfl,by rw [openS_b (by assumption),orNo_no (by assumption)]⟩
 ·refine d37 ?_
  refine run_draw [(2,.pure),(0,.read),(1,.read),(3,.keep),(4,.pure),(5,.pure),(6,.keep),(7,.pure),(8,.keep),(9,.keep),(10,.pure),(11,.pure),(12,.pure),(13,.pure),(14,.pure)] (by kernel_rfl) (by kernel_rfl) (List.Sublist.refl _) ?_;refine mq rfl ?_
  have hzb:fbS b=0:=by omega
  have hp2:=(fbS_zero hzb).pts.two
  refine k_ldA rfl zq ?_;refine k_ldA rfl zq ?_;refine k_calP (Post:=fun v=>IsB _ v) rfl zq (by kernel_rfl) (fun H' hH=>f93_c m H' _ (rdp.keeps (sq hH)) hp (by omega)) ?_;rintro v (⟨hc,rfl⟩|⟨hc,rfl⟩)
  ·refine k_put ?_;refine d23 ?_;refine k_calP (Post:=fun v=>IsB _ v) rfl rfl (by kernel_rfl) (fun H' hH=>f55_c m H' _ _ _) ?_;rintro v (⟨hc,rfl⟩|⟨hc,rfl⟩)
   ·refine k_put ?_;refine k_pickT rfl zq ?_;refine k_calP (Post:=fun v=>v= .int .i64 (if ((b.pts.getD 0 default).h≤x∧x≤(b.pts.getD (np-1) default).h)∧0≤y∧y≤959 then 0 else 1)) rfl zq (by kernel_rfl) (fun H' hH=>f114_c m H' (p:=((b.pts.getD 0 default).h≤x∧x≤(b.pts.getD (np-1) default).h)∧0≤y∧y≤959) (by first|exact (decide_eq_true ⟨by assumption,by assumption⟩).symm|exact (decide_eq_false (by omega)).symm) 1) ?_;rintro v rfl;refine k_put ?_;refine k_calC rfl zq (by kernel_rfl) (fun H' hH=>f113_c m H' (rdp.keeps (sq hH)) hp (rdt.keeps (sq hH)) ht (rdk.keeps (sq hH)) hk hzb _) ?_;rintro v nw ⟨w,rfl,bp,bc,vs,rfl,rdv,rde⟩;refine k_hpA (k_put ?_);have hle:=openL_le (b:=b) (if ((b.pts.getD 0 default).h≤x∧x≤(b.pts.getD (np-1) default).h)∧0≤y∧y≤959 then 0 else 1)
    have hmem:=openL_mem (b:=b) (own:=(if ((b.pts.getD 0 default).h≤x∧x≤(b.pts.getD (np-1) default).h)∧0≤y∧y≤959 then 0 else 1))
    generalize hll:openL b (openS b (if ((b.pts.getD 0 default).h≤x∧x≤(b.pts.getD (np-1) default).h)∧0≤y∧y≤959 then 0 else 1))=ll at rdv rde hle hmem⊢
    refine d40 ?_;refine k_as rfl zq ?_;refine d68 ?_
    refine k_neqS rfl zq (fun hc=>?_) (fun hc=>?_)
    ·refine d132 ?_
     refine run_res (h) rfl Tryz.func45 rfl weakSub ?_;refine hK _ _ ?_;first
      |exact ⟨rfl,by rw [orNo_no (by assumption)]⟩
      |(have hz0:openS b (if ((b.pts.getD 0 default).h≤x∧x≤(b.pts.getD (np-1) default).h)∧0≤y∧y≤959 then 0 else 1)=0:=by omega
        have e1:ll=boatsOf b:=by subst hll;rw [openL_yes hz0]
        obtain rfl:k=ll.length:=by omega
        rw [List.take_of_length_le (by omega)] at hcnt
        refine ⟨rfl,?_⟩
        rw [orNo_yes hz0,hcnt,e1];rfl)
    ·refine d13 ?_;refine d93 ?_;refine d142 ?_
     refine run_loop (fun nn l h'=> ∃(k cnt:Nat),nn=ll.length-k∧(k≤ll.length)∧(cnt=clearN b (ll.take k) x y)∧(cnt≤k)∧(∃U:Nat→Value,l=((fbV b pp np cp pt nt ct pk nk ck)::(.int .i64 x)::(.int .i64 y)::(.pointer (some ⟨q2,0,none⟩))::vw5 U 4 ((.slice bp ll.length bc)::(U 10)::(.int .i64 (cnt:Int))::(.int .i64 (k:Int))::vw42 U 13 [])))∧h++[⟨true,q2,.cells (fbL b pp np cp pt nt ct pk nk ck).toArray 26 (0,0)⟩]++nw=h') _ ⟨0,0,rfl,by omega,rfl,by omega,exU rfl,rfl⟩ ?_;rintro nn l h' ⟨k,cnt,rfl,hk,hcnt,hck,⟨U,rfl⟩,rfl⟩ hnext;refine run_seq ?_;refine d120 ?_;refine k_lssS rfl zq (fun hc=>?_) (fun hc=>?_)
     ·refine d98 ?_;refine run_seq ?_
      refine run_draw [(1,.pure),(2,.pure),(3,.pure),(5,.pure),(7,.pure),(0,.read),(4,.read),(6,.keep),(8,.pure)] (by kernel_rfl) (by kernel_rfl) (List.Sublist.refl _) ?_;refine d3 ?_
      obtain ⟨rdv_b,rdv_o,rfl⟩:=rdv.ptr (by omega)
      refine k_ixs rfl zq (by first|rfl|assumption) (by omega) (by omega) ?_;refine d3 ?_;obtain ⟨ep,ec,ee,er⟩:=rde.2 k (by omega)
      obtain ⟨hv,h0,hb⟩:=hmem _ (mem_getDR.2 ⟨k,by omega,rfl⟩)
      replace hb:ll.getD k []∈boatsOf b:=hb
      have hln:=(mem_boats.1 hb).1
      have hpo:=hv.pts
      have hp2:=hpo.two
      have hp5:=hpo.five
      have hlv:((b.pts.getD 0 default).h≤x∧x≤(b.pts.getD (np-1) default).h)∧0≤y∧y≤959:=Classical.byContradiction fun e=>by rw [if_neg e] at h0;cases h0
      refine k_ldA rfl zq ?_;refine k_ld (v:= .slice ep (ll.getD k []).length ec) rfl zq (by rw [←ee];exact rdv.vat k (by omega) (by omega)) ?_;refine k_calP (Post:=fun v=>v=_) rfl zq (by kernel_rfl) (fun H' hH=>f94_c m H' (rdp.keeps (sq hH)) hp (er.keeps (sq hH)) (by omega) (by omega) hpo (boat_sml hpo hb) x hlv.1) ?_;rintro v rfl;refine k_put ?_;refine k_geqS rfl zq (fun hc=>?_) (fun hc=>?_)
      ·refine d7 ?_;refine rr3 ?_;refine d4 ?_;refine d45 ?_;refine rr3 ?_;refine d61 ?_
       exact m.weak weakSub (hnext _ _ _ (by omega) ⟨k+1,cnt+1,rfl,by omega,by rw [clearN_yes _ _ _ _ (by omega) (by omega),←hcnt],by omega,exU rfl,rfl⟩)
      ·refine d13 ?_;refine d109 ?_
       exact m.weak weakSub (hnext _ _ _ (by omega) ⟨k+1,cnt,rfl,by omega,by rw [clearN_no _ _ _ _ (by omega) (by omega),←hcnt],by omega,exU rfl,rfl⟩)
     ·refine d75 ?_;refine rs6 ?_;refine d3 ?_;refine k_len rfl zq ?_
      refine k_calP (Post:=fun v=>v=_) rfl zq (by kernel_rfl) (fun H' hH=>f125_c m H' _ _) ?_;rintro v rfl;refine k_put ?_;refine d27 ?_;refine run_res (h) rfl Tryz.func45 rfl weakSub ?_;refine hK _ _ ?_;first
       |exact ⟨rfl,by rw [orNo_no (by assumption)]⟩
       |(have hz0:openS b (if ((b.pts.getD 0 default).h≤x∧x≤(b.pts.getD (np-1) default).h)∧0≤y∧y≤959 then 0 else 1)=0:=by omega
         have e1:ll=boatsOf b:=by subst hll;rw [openL_yes hz0]
         obtain rfl:k=ll.length:=by omega
         rw [List.take_of_length_le (by omega)] at hcnt
         refine ⟨rfl,?_⟩
         rw [orNo_yes hz0,hcnt,e1];rfl)
   ·refine k_put ?_;refine k_pickT rfl zq ?_;refine k_calP (Post:=fun v=>v= .int .i64 (if ((b.pts.getD 0 default).h≤x∧x≤(b.pts.getD (np-1) default).h)∧0≤y∧y≤959 then 0 else 1)) rfl zq (by kernel_rfl) (fun H' hH=>f114_c m H' (p:=((b.pts.getD 0 default).h≤x∧x≤(b.pts.getD (np-1) default).h)∧0≤y∧y≤959) (by first|exact (decide_eq_true ⟨by assumption,by assumption⟩).symm|exact (decide_eq_false (by omega)).symm) 1) ?_;rintro v rfl;refine k_put ?_;refine k_calC rfl zq (by kernel_rfl) (fun H' hH=>f113_c m H' (rdp.keeps (sq hH)) hp (rdt.keeps (sq hH)) ht (rdk.keeps (sq hH)) hk hzb _) ?_;rintro v nw ⟨w,rfl,bp,bc,vs,rfl,rdv,rde⟩;refine k_hpA (k_put ?_);have hle:=openL_le (b:=b) (if ((b.pts.getD 0 default).h≤x∧x≤(b.pts.getD (np-1) default).h)∧0≤y∧y≤959 then 0 else 1)
    have hmem:=openL_mem (b:=b) (own:=(if ((b.pts.getD 0 default).h≤x∧x≤(b.pts.getD (np-1) default).h)∧0≤y∧y≤959 then 0 else 1))
    generalize hll:openL b (openS b (if ((b.pts.getD 0 default).h≤x∧x≤(b.pts.getD (np-1) default).h)∧0≤y∧y≤959 then 0 else 1))=ll at rdv rde hle hmem⊢
    refine d40 ?_;refine k_as rfl zq ?_;refine d68 ?_
    refine k_neqS rfl zq (fun hc=>?_) (fun hc=>?_)
    ·refine d132 ?_
     refine run_res (h) rfl Tryz.func45 rfl weakSub ?_;refine hK _ _ ?_;first
      |exact ⟨rfl,by rw [orNo_no (by assumption)]⟩
      |(have hz0:openS b (if ((b.pts.getD 0 default).h≤x∧x≤(b.pts.getD (np-1) default).h)∧0≤y∧y≤959 then 0 else 1)=0:=by omega
        have e1:ll=boatsOf b:=by subst hll;rw [openL_yes hz0]
        obtain rfl:k=ll.length:=by omega
        rw [List.take_of_length_le (by omega)] at hcnt
        refine ⟨rfl,?_⟩
        rw [orNo_yes hz0,hcnt,e1];rfl)
    ·refine d13 ?_;refine d93 ?_;refine d142 ?_
     refine run_loop (fun nn l h'=> ∃(k cnt:Nat),nn=ll.length-k∧(k≤ll.length)∧(cnt=clearN b (ll.take k) x y)∧(cnt≤k)∧(∃U:Nat→Value,l=((fbV b pp np cp pt nt ct pk nk ck)::(.int .i64 x)::(.int .i64 y)::(.pointer (some ⟨q2,0,none⟩))::vw5 U 4 ((.slice bp ll.length bc)::(U 10)::(.int .i64 (cnt:Int))::(.int .i64 (k:Int))::vw42 U 13 [])))∧h++[⟨true,q2,.cells (fbL b pp np cp pt nt ct pk nk ck).toArray 26 (0,0)⟩]++nw=h') _ ⟨0,0,rfl,by omega,rfl,by omega,exU rfl,rfl⟩ ?_;rintro nn l h' ⟨k,cnt,rfl,hk,hcnt,hck,⟨U,rfl⟩,rfl⟩ hnext;refine run_seq ?_;refine d120 ?_;refine k_lssS rfl zq (fun hc=>?_) (fun hc=>?_)
     ·refine d98 ?_;refine run_seq ?_
      refine run_draw [(1,.pure),(2,.pure),(3,.pure),(5,.pure),(7,.pure),(0,.read),(4,.read),(6,.keep),(8,.pure)] (by kernel_rfl) (by kernel_rfl) (List.Sublist.refl _) ?_;refine d3 ?_
      obtain ⟨rdv_b,rdv_o,rfl⟩:=rdv.ptr (by omega)
      refine k_ixs rfl zq (by first|rfl|assumption) (by omega) (by omega) ?_;refine d3 ?_;obtain ⟨ep,ec,ee,er⟩:=rde.2 k (by omega)
      obtain ⟨hv,h0,hb⟩:=hmem _ (mem_getDR.2 ⟨k,by omega,rfl⟩)
      replace hb:ll.getD k []∈boatsOf b:=hb
      have hln:=(mem_boats.1 hb).1
      have hpo:=hv.pts
      have hp2:=hpo.two
      have hp5:=hpo.five
      have hlv:((b.pts.getD 0 default).h≤x∧x≤(b.pts.getD (np-1) default).h)∧0≤y∧y≤959:=Classical.byContradiction fun e=>by rw [if_neg e] at h0;cases h0
      refine k_ldA rfl zq ?_;refine k_ld (v:= .slice ep (ll.getD k []).length ec) rfl zq (by rw [←ee];exact rdv.vat k (by omega) (by omega)) ?_;refine k_calP (Post:=fun v=>v=_) rfl zq (by kernel_rfl) (fun H' hH=>f94_c m H' (rdp.keeps (sq hH)) hp (er.keeps (sq hH)) (by omega) (by omega) hpo (boat_sml hpo hb) x hlv.1) ?_;rintro v rfl;refine k_put ?_;refine k_geqS rfl zq (fun hc=>?_) (fun hc=>?_)
      ·refine d7 ?_;refine rr3 ?_;refine d4 ?_;refine d45 ?_;refine rr3 ?_;refine d61 ?_
       exact m.weak weakSub (hnext _ _ _ (by omega) ⟨k+1,cnt+1,rfl,by omega,by rw [clearN_yes _ _ _ _ (by omega) (by omega),←hcnt],by omega,exU rfl,rfl⟩)
      ·refine d13 ?_;refine d109 ?_
       exact m.weak weakSub (hnext _ _ _ (by omega) ⟨k+1,cnt,rfl,by omega,by rw [clearN_no _ _ _ _ (by omega) (by omega),←hcnt],by omega,exU rfl,rfl⟩)
     ·refine d75 ?_;refine rs6 ?_;refine d3 ?_;refine k_len rfl zq ?_
      refine k_calP (Post:=fun v=>v=_) rfl zq (by kernel_rfl) (fun H' hH=>f125_c m H' _ _) ?_;rintro v rfl;refine k_put ?_;refine d27 ?_;refine run_res (h) rfl Tryz.func45 rfl weakSub ?_;refine hK _ _ ?_;first
       |exact ⟨rfl,by rw [orNo_no (by assumption)]⟩
       |(have hz0:openS b (if ((b.pts.getD 0 default).h≤x∧x≤(b.pts.getD (np-1) default).h)∧0≤y∧y≤959 then 0 else 1)=0:=by omega
         have e1:ll=boatsOf b:=by subst hll;rw [openL_yes hz0]
         obtain rfl:k=ll.length:=by omega
         rw [List.take_of_length_le (by omega)] at hcnt
         refine ⟨rfl,?_⟩
         rw [orNo_yes hz0,hcnt,e1];rfl)
  ·refine k_put ?_;refine d52 ?_;refine k_pickF rfl zq ?_;refine k_calP (Post:=fun v=>v= .int .i64 (if ((b.pts.getD 0 default).h≤x∧x≤(b.pts.getD (np-1) default).h)∧0≤y∧y≤959 then 0 else 1)) rfl zq (by kernel_rfl) (fun H' hH=>f114_c m H' (p:=((b.pts.getD 0 default).h≤x∧x≤(b.pts.getD (np-1) default).h)∧0≤y∧y≤959) (by first|exact (decide_eq_true ⟨by assumption,by assumption⟩).symm|exact (decide_eq_false (by omega)).symm) 1) ?_;rintro v rfl;refine k_put ?_;refine k_calC rfl zq (by kernel_rfl) (fun H' hH=>f113_c m H' (rdp.keeps (sq hH)) hp (rdt.keeps (sq hH)) ht (rdk.keeps (sq hH)) hk hzb _) ?_;rintro v nw ⟨w,rfl,bp,bc,vs,rfl,rdv,rde⟩;refine k_hpA (k_put ?_);have hle:=openL_le (b:=b) (if ((b.pts.getD 0 default).h≤x∧x≤(b.pts.getD (np-1) default).h)∧0≤y∧y≤959 then 0 else 1)
   have hmem:=openL_mem (b:=b) (own:=(if ((b.pts.getD 0 default).h≤x∧x≤(b.pts.getD (np-1) default).h)∧0≤y∧y≤959 then 0 else 1))
   generalize hll:openL b (openS b (if ((b.pts.getD 0 default).h≤x∧x≤(b.pts.getD (np-1) default).h)∧0≤y∧y≤959 then 0 else 1))=ll at rdv rde hle hmem⊢
   refine d40 ?_;refine k_as rfl zq ?_;refine d68 ?_
   refine k_neqS rfl zq (fun hc=>?_) (fun hc=>?_)
   ·refine d132 ?_
    refine run_res (h) rfl Tryz.func45 rfl weakSub ?_;refine hK _ _ ?_;first
     |exact ⟨rfl,by rw [orNo_no (by assumption)]⟩
     |(have hz0:openS b (if ((b.pts.getD 0 default).h≤x∧x≤(b.pts.getD (np-1) default).h)∧0≤y∧y≤959 then 0 else 1)=0:=by omega
       have e1:ll=boatsOf b:=by subst hll;rw [openL_yes hz0]
       obtain rfl:k=ll.length:=by omega
       rw [List.take_of_length_le (by omega)] at hcnt
       refine ⟨rfl,?_⟩
       rw [orNo_yes hz0,hcnt,e1];rfl)
   ·refine d13 ?_;refine d93 ?_;refine d142 ?_
    refine run_loop (fun nn l h'=> ∃(k cnt:Nat),nn=ll.length-k∧(k≤ll.length)∧(cnt=clearN b (ll.take k) x y)∧(cnt≤k)∧(∃U:Nat→Value,l=((fbV b pp np cp pt nt ct pk nk ck)::(.int .i64 x)::(.int .i64 y)::(.pointer (some ⟨q2,0,none⟩))::vw5 U 4 ((.slice bp ll.length bc)::(U 10)::(.int .i64 (cnt:Int))::(.int .i64 (k:Int))::vw42 U 13 [])))∧h++[⟨true,q2,.cells (fbL b pp np cp pt nt ct pk nk ck).toArray 26 (0,0)⟩]++nw=h') _ ⟨0,0,rfl,by omega,rfl,by omega,exU rfl,rfl⟩ ?_;rintro nn l h' ⟨k,cnt,rfl,hk,hcnt,hck,⟨U,rfl⟩,rfl⟩ hnext;refine run_seq ?_;refine d120 ?_;refine k_lssS rfl zq (fun hc=>?_) (fun hc=>?_)
    ·refine d98 ?_;refine run_seq ?_
     refine run_draw [(1,.pure),(2,.pure),(3,.pure),(5,.pure),(7,.pure),(0,.read),(4,.read),(6,.keep),(8,.pure)] (by kernel_rfl) (by kernel_rfl) (List.Sublist.refl _) ?_;refine d3 ?_
     obtain ⟨rdv_b,rdv_o,rfl⟩:=rdv.ptr (by omega)
     refine k_ixs rfl zq (by first|rfl|assumption) (by omega) (by omega) ?_;refine d3 ?_;obtain ⟨ep,ec,ee,er⟩:=rde.2 k (by omega)
     obtain ⟨hv,h0,hb⟩:=hmem _ (mem_getDR.2 ⟨k,by omega,rfl⟩)
     replace hb:ll.getD k []∈boatsOf b:=hb
     have hln:=(mem_boats.1 hb).1
     have hpo:=hv.pts
     have hp2:=hpo.two
     have hp5:=hpo.five
     have hlv:((b.pts.getD 0 default).h≤x∧x≤(b.pts.getD (np-1) default).h)∧0≤y∧y≤959:=Classical.byContradiction fun e=>by rw [if_neg e] at h0;cases h0
     refine k_ldA rfl zq ?_;refine k_ld (v:= .slice ep (ll.getD k []).length ec) rfl zq (by rw [←ee];exact rdv.vat k (by omega) (by omega)) ?_;refine k_calP (Post:=fun v=>v=_) rfl zq (by kernel_rfl) (fun H' hH=>f94_c m H' (rdp.keeps (sq hH)) hp (er.keeps (sq hH)) (by omega) (by omega) hpo (boat_sml hpo hb) x hlv.1) ?_;rintro v rfl;refine k_put ?_;refine k_geqS rfl zq (fun hc=>?_) (fun hc=>?_)
     ·refine d7 ?_;refine rr3 ?_;refine d4 ?_;refine d45 ?_;refine rr3 ?_;refine d61 ?_
      exact m.weak weakSub (hnext _ _ _ (by omega) ⟨k+1,cnt+1,rfl,by omega,by rw [clearN_yes _ _ _ _ (by omega) (by omega),←hcnt],by omega,exU rfl,rfl⟩)
     ·refine d13 ?_;refine d109 ?_
      exact m.weak weakSub (hnext _ _ _ (by omega) ⟨k+1,cnt,rfl,by omega,by rw [clearN_no _ _ _ _ (by omega) (by omega),←hcnt],by omega,exU rfl,rfl⟩)
    ·refine d75 ?_;refine rs6 ?_;refine d3 ?_;refine k_len rfl zq ?_
     refine k_calP (Post:=fun v=>v=_) rfl zq (by kernel_rfl) (fun H' hH=>f125_c m H' _ _) ?_;rintro v rfl;refine k_put ?_;refine d27 ?_;refine run_res (h) rfl Tryz.func45 rfl weakSub ?_;refine hK _ _ ?_;first
      |exact ⟨rfl,by rw [orNo_no (by assumption)]⟩
      |(have hz0:openS b (if ((b.pts.getD 0 default).h≤x∧x≤(b.pts.getD (np-1) default).h)∧0≤y∧y≤959 then 0 else 1)=0:=by omega
        have e1:ll=boatsOf b:=by subst hll;rw [openL_yes hz0]
        obtain rfl:k=ll.length:=by omega
        rw [List.take_of_length_le (by omega)] at hcnt
        refine ⟨rfl,?_⟩
        rw [orNo_yes hz0,hcnt,e1];rfl)
theorem f47_c (m:Md Tryz.prog B) (h:Hp) (rdp:Rp B h b pp np cp) (hp:np≤1000) (rdt:Rt B h b pt nt ct) (ht:nt≤1000) (rdk:Rk B h b pk nk ck) (hk:nk≤1000):FnC m 47 #[fbV b pp np cp pt nt ct pk nk ck] h fun v h'=> ∃new,h'=h++new∧ ∃w,v= .tuple [w,.int .i64 (if openS b 0≠0 then 0 else areaI b.pts (leanL b (boatsOf b))),.int .i64 (openS b 0)].toArray∧RdI B new w (if openS b 0≠0 then [] else leanL b (boatsOf b)):=by
 have hml:=rdp.elen (by decide)
 refine fn_enter Tryz.func47 rfl rfl (l:=(fbV b pp np cp pt nt ct pk nk ck)::uu49) rfl ?_
 intro cf cs K hK
 refine rs4 ?_;refine k_box rfl zq (fun q1=>k_hp (k_put ?_));refine k_as rfl zq ?_;refine d97 ?_;refine d94 ?_;refine k_calP (Post:=fun v=>v=_) rfl zq (by kernel_rfl) (fun H' hH=>f22_c m H' (rdp.keeps (sq hH)) hp (rdt.keeps (sq hH)) ht (rdk.keeps (sq hH)) hk) ?_;rintro v rfl;refine d135 ?_
 refine k_neqS rfl zq (fun hc=>?_) (fun hc=>?_)
 ·refine d7 ?_;refine d118 ?_;refine k_as rfl zq ?_;refine d27 ?_
  refine run_res (h) rfl Tryz.func47 rfl weakSub ?_;refine hK _ _ ?_;exact ⟨[],by simp,_,by rw [openS_b (by assumption),if_pos (by assumption)],by rw [if_pos (by rw [openS_b (by assumption)];assumption)];exact RdI.nil⟩
 ·refine d13 ?_;refine rs7 ?_
  have hzb:fbS b=0:=by omega
  refine k_ldA rfl zq ?_;refine k_calC rfl zq (by kernel_rfl) (fun H' hH=>f113_c m H' (rdp.keeps (sq hH)) hp (rdt.keeps (sq hH)) ht (rdk.keeps (sq hH)) hk hzb _) ?_;rintro v nw ⟨w,rfl,bp,bc,vs,rfl,rdv,rde⟩;refine k_hpA (k_put ?_);have hle:=openL_le (b:=b) (0:Int)
  have hmem:=openL_mem (b:=b) (own:=(0:Int))
  generalize hll:openL b (openS b (0:Int))=ll at rdv rde hle hmem⊢
  refine d40 ?_;refine k_as rfl zq ?_;refine d68 ?_
  refine k_neqS rfl zq (fun hc=>?_) (fun hc=>?_)
  ·refine d7 ?_;refine d118 ?_;refine k_as rfl zq ?_;refine d27 ?_
   refine run_res (h) rfl Tryz.func47 rfl weakSub ?_;refine hK _ _ ?_;exact ⟨[],by simp,_,by rw [if_pos (by assumption)],by rw [if_pos (by assumption)];exact RdI.nil⟩
  ·refine d13 ?_;refine rs4 ?_
   have hs0:openS b (0:Int)=0:=by omega
   have hpos:0<ll.length:=by
    subst hll
    rw [openL_yes hs0];exact List.length_pos_iff.2 (openS_zero (b:=b) hs0).2.2
   obtain ⟨gp0,gc0,ge0,gr0⟩:=rde.2 0 (by omega)
   obtain ⟨vb,vo,rfl⟩:=rdv.ptr (by omega)
   refine d39 ?_
   refine k_ld (v:= .slice gp0 (ll.getD 0 []).length gc0) rfl zq (by rw [←ge0];exact rdv.vat 0 (by omega) (by omega)) ?_;refine d12 ?_;refine d142 ?_
   refine run_loop (fun nn l h'=> ∃(k:Nat) (gp:Option Addr) (gc:Nat) (g:List Int),nn=ll.length-k∧(0<k)∧(k≤ll.length)∧(g=bestBy (ltArea b) (ll.take k))∧(RdS B nw 1 (.slice gp g.length gc) g.length (ints g))∧(g∈ll)∧(∃U:Nat→Value,l=((fbV b pp np cp pt nt ct pk nk ck)::(.pointer (some ⟨q1,0,none⟩))::vw4 U 2 ((.slice (some ⟨vb,vo,none⟩) ll.length bc)::(U 7)::(.slice gp g.length gc)::(.int .i64 (k:Int))::vw40 U 10 [])))∧h++[⟨true,q1,.cells (fbL b pp np cp pt nt ct pk nk ck).toArray 26 (0,0)⟩]++nw=h') _ ⟨1,gp0,gc0,ll.getD 0 [],rfl,by omega,by omega,by rw [bestBy_one],gr0,mem_getDR.2 ⟨0,hpos,rfl⟩,exU rfl,rfl⟩ ?_;rintro nn l h' ⟨k,gp,gc,g,rfl,hk0,hk,hg,hgr,hgm,⟨U,rfl⟩,rfl⟩ hnext;refine run_seq ?_;refine d120 ?_;refine k_lssS rfl zq (fun hc=>?_) (fun hc=>?_)
   ·refine d98 ?_;refine run_seq ?_
    refine run_draw [(1,.pure),(2,.pure),(3,.pure),(7,.pure),(0,.read),(4,.read),(6,.read),(5,.keep),(8,.keep),(9,.pure)] (by kernel_rfl) (by kernel_rfl) (List.Sublist.refl _) ?_;refine d11 ?_;refine mq rfl ?_
    obtain ⟨ep,ec,ee,er⟩:=rde.2 k (by omega)
    obtain ⟨hv,h0,hb⟩:=hmem _ (mem_getDR.2 ⟨k,by omega,rfl⟩)
    replace hb:ll.getD k []∈boatsOf b:=hb
    have hln:=(mem_boats.1 hb).1
    have hpo:=hv.pts
    have hp2:=hpo.two
    have hp5:=hpo.five
    obtain ⟨_,_,hgb⟩:=hmem g hgm
    have hgl:=(mem_boats.1 hgb).1
    refine k_ldA rfl zq ?_;refine k_ld (v:= .slice ep (ll.getD k []).length ec) rfl zq (by rw [←ee];exact rdv.vat k (by omega) (by omega)) ?_;refine k_ldA rfl zq ?_;refine k_calP (Post:=fun v=>v=_) rfl zq (by kernel_rfl) (fun H' hH=>f100_c m H' (rdp.keeps (sq hH)) hp (er.keeps (sq hH)) (by omega) (by omega) hpo (boat_sml hpo hb)) ?_;rintro v rfl;refine k_put ?_;refine k_calP (Post:=fun v=>v=_) rfl zq (by kernel_rfl) (fun H' hH=>f100_c m H' (rdp.keeps (sq hH)) hp (hgr.keeps (sq hH)) (by omega) (by omega) hpo (boat_sml hpo hgb)) ?_;rintro v rfl;refine k_put ?_;refine k_lssS rfl zq (fun hc=>?_) (fun hc=>?_)
    ·refine d7 ?_;refine rr5 ?_;refine d11 ?_
     refine k_ld (v:= .slice ep (ll.getD k []).length ec) rfl zq (by rw [←ee];exact rdv.vat k (by omega) (by omega)) ?_;refine d45 ?_;refine rr3 ?_;refine d61 ?_
     exact m.weak weakSub (hnext _ _ _ (by omega) ⟨k+1,ep,ec,ll.getD k [],rfl,by omega,by omega,by rw [bestBy_succ _ _ _ (by omega) (by omega),if_pos (by rw [←hg];exact decide_eq_true (by omega))],er,mem_getDR.2 ⟨k,by omega,rfl⟩,exU rfl,rfl⟩)
    ·refine d13 ?_;refine d109 ?_
     exact m.weak weakSub (hnext _ _ _ (by omega) ⟨k+1,gp,gc,g,rfl,by omega,by omega,by rw [bestBy_succ _ _ _ (by omega) (by omega),if_neg (by rw [←hg];unfold ltArea;rw [decide_eq_true_iff];omega),hg],hgr,hgm,exU rfl,rfl⟩)
   ·refine d75 ?_;refine rs7 ?_
    obtain ⟨hv,_,hgb⟩:=hmem g hgm
    have hpo:=hv.pts
    have hp5:=hpo.five
    have hgl:=(mem_boats.1 hgb).1
    refine mq rfl ?_;refine d69 ?_
    refine k_calP (Post:=fun v=>v=_) rfl zq (by kernel_rfl) (fun H' hH=>f100_c m H' (rdp.keeps (sq hH)) hp (hgr.keeps (sq hH)) (by omega) (by omega) hpo (boat_sml hpo hgb)) ?_;rintro v rfl;refine k_put ?_;refine k_as rfl zq ?_;refine d27 ?_;refine run_res (h++nw) rfl Tryz.func47 rfl weakSub ?_;refine hK _ _ ?_;obtain rfl:k=ll.length:=by omega
    have e1:ll=boatsOf b:=by subst hll;rw [openL_yes hs0]
    rw [List.take_length,e1] at hg
    exact ⟨nw,rfl,_,by rw [hs0,if_neg (by simp),leanL,←hg],by rw [hs0,if_neg (by simp),leanL,←hg];exact ⟨_,_,rfl,hgr⟩⟩
theorem fold_min (a:Int) (l:List Int) (y:Int):y≤l.foldl min a↔y≤a∧ ∀z∈l,y≤z:=by
 induction l generalizing a with
 |nil=>simp
 |cons c r ih=>
  have e:y≤min a c↔y≤a∧y≤c:=by omega
  rw [List.foldl_cons,ih,e,and_assoc];simp only [List.mem_cons,forall_eq_or_imp]
theorem fold_max (a:Int) (l:List Int) (y:Int):l.foldl max a<y↔a<y∧ ∀z∈l,z<y:=by
 induction l generalizing a with
 |nil=>simp
 |cons c r ih=>
  have e:max a c<y↔a<y∧c<y:=by omega
  rw [List.foldl_cons,ih,e,and_assoc];simp only [List.mem_cons,forall_eq_or_imp]
theorem le_minL {ys:List Int} (h:ys≠[]) (y:Int):y≤minL ys↔ ∀z∈ys,y≤z:=by
 cases ys with
 |nil=>exact absurd rfl h
 |cons a r=>
  show y≤(List.drop 1 (a::r)).foldl min a↔_
  rw [fold_min];simp
theorem maxL_lt {ys:List Int} (h:ys≠[]) (y:Int):maxL ys<y↔ ∀z∈ys,z<y:=by
 cases ys with
 |nil=>exact absurd rfl h
 |cons a r=>
  show (List.drop 1 (a::r)).foldl max a<y↔_
  rw [fold_max];simp
theorem clear_told (b:Fb) (own x y:Int):orNo (openS b own) (toldI (clearN b (boatsOf b) x y) (boatsOf b).length)=orNo (openS b own) (clearsI b x y):=by
 unfold orNo
 by_cases h:openS b own≠0
 ·rw [if_pos h,if_pos h]
 ·rw [if_neg h,if_neg h];obtain ⟨_,_,hne⟩:=openS_zero (Classical.not_not.1 h)
  have hm:((boatsOf b).map fun l=>atI b.pts l x)≠[]:=by simpa using hne
  have hlt:=List.length_pos_iff.2 hne
  have e:toldI (clearN b (boatsOf b) x y) (boatsOf b).length=clearsI b x y:=by
   have hle:clearN b (boatsOf b) x y≤(boatsOf b).length:=List.length_filter_le _ _
   have h1:clearN b (boatsOf b) x y=0↔maxL ((boatsOf b).map fun l=>atI b.pts l x)<y:=by
    rw [maxL_lt hm,clearN,List.length_eq_zero_iff,List.filter_eq_nil_iff];simp only [decide_eq_true_eq,List.mem_map,forall_exists_index,and_imp,forall_apply_eq_imp_iff₂,Int.not_le]
   have h2:clearN b (boatsOf b) x y=(boatsOf b).length↔y≤minL ((boatsOf b).map fun l=>atI b.pts l x):=by
    rw [le_minL hm,clearN,List.length_filter_eq_length_iff];simp only [decide_eq_true_eq,List.mem_map,forall_exists_index,and_imp,forall_apply_eq_imp_iff₂]
   unfold toldI clearsI
   by_cases e1:clearN b (boatsOf b) x y=0
   ·rw [if_pos (by omega),if_pos (h1.1 e1)]
   ·rw [if_neg (by omega),if_neg (fun e=>e1 (h1.2 e))];by_cases e2:clearN b (boatsOf b) x y=(boatsOf b).length
    ·rw [if_pos (by omega),if_pos (h2.1 e2)]
    ·rw [if_neg (by omega),if_neg (fun e=>e2 (h2.2 e))]
  rw [e]
theorem lean_len (b:Fb):(if openS b 0≠0 then [] else leanL b (boatsOf b)).length≤1000000:=by
 split
 ·simp
 ·rename_i h
  obtain ⟨e,_,hne⟩:=openS_zero (Classical.not_not.1 h)
  have hm:=bestBy_mem (ltArea b) (boatsOf b) (List.length_pos_iff.2 hne)
  have h1:=(mem_boats.1 hm).1
  have h2:=(fbS_zero e).pts.five
  show (bestBy (ltArea b) (boatsOf b)).length≤1000000
  omega
theorem breadths_le {b:Fb} {s:Int} {k:Nat} {ys:List Int} (h: ∀z,z∈ys↔z∈breadthsAt (openL b (openS b s)) k) (ha:Asc ys):ys.length≤1000000:=by
 have h1:=List.Nodup.length_le_of_subset (l₂:=breadthsAt (openL b (openS b s)) k) (asc_nodup ha) fun z hz=>(h z).1 hz
 have h2:(openL b (openS b s)).length≤243:=by
  unfold openL
  split
  ·simp
  ·rename_i h
   exact boatsOf_le (fbS_zero (openS_zero (Classical.not_not.1 h)).1).pts
 rw [breadthsAt,List.length_map] at h1
 omega
theorem f4_t (h:Hp) (rdp:Rp B h b pp np cp) (rdt:Rt B h b pt nt ct) (rdk:Rk B h b pk nk ck) (st x f t y:Int):(Md.starS Tryz.prog B).R (AtEnd Tryz.prog B fun v _=>v= .bool true) (G (Frame.enter Tryz.prog 4 #[fbV b pp np cp pt nt ct pk nk ck,.int .i64 st,.int .i64 x,.int .i64 f,.int .i64 t,.int .i64 y] .normal) []) h:=by
 refine top_enter Tryz.func4 rfl rfl (l:=[fbV b pp np cp pt nt ct pk nk ck,.int .i64 st,.int .i64 x,.int .i64 f,.int .i64 t,.int .i64 y,undef,undef,undef,undef,undef,undef,undef,undef,undef,undef,undef,undef,undef,undef,undef,undef,undef,undef,undef,undef,undef,undef,undef,undef,undef,undef,undef,undef,undef,undef,undef,undef,undef,undef,undef,undef,undef,undef,undef,undef,undef,undef,undef,undef,undef,undef,undef,undef,undef,undef,undef,undef,undef,undef,undef,undef,undef,undef,undef,undef,undef,undef,undef,undef,undef,undef,undef,undef,undef,undef,undef,undef,undef,undef,undef,undef,undef,undef,undef,undef,undef,undef,undef,undef,undef,undef,undef,undef,undef,undef,undef,undef,undef,undef,undef,undef,undef,undef,undef,undef,undef,undef,undef,undef,undef,undef,undef,undef,undef,undef,undef,undef,undef,undef,undef,undef,undef,undef,undef,undef,undef,undef,undef,undef,undef,undef,undef,undef,undef,undef,undef,undef,undef,undef,undef,undef,undef,undef,undef,undef,undef,undef,undef,undef,undef,undef,undef,undef,undef,undef,undef,undef,undef,undef,undef,undef,undef,undef,undef,undef,undef,undef,undef,undef,undef,undef,undef,undef,undef]) rfl ?_
 refine rs2 ?_;refine k_box rfl zq (fun q6=>k_hp (k_put ?_));refine d12 ?_;refine d113 ?_
 refine k_calP (Post:=fun v=>IsB _ v) rfl zq (by kernel_rfl) (fun H' hH=>f17_c _ H') ?_;rintro v (⟨hc,rfl⟩|⟨hc,rfl⟩)
 ·refine k_put ?_;refine d7 ?_;refine rs2 ?_;refine k_cal rfl zq (by kernel_rfl) (f18_c _) ?_;rintro v h' ⟨nF,rfl,rfl⟩;refine d110 ?_
  refine run_top rfl Tryz.func4 (by kernel_rfl) rfl ?_;rfl
 ·refine k_put ?_;refine d37 ?_;have hp:np≤1000:=by omega
  have ht:nt≤1000:=by omega
  have hk:nk≤1000:=by omega
  refine rr7 ?_;refine k_ldA rfl zq ?_;refine k_calP (Post:=fun v=>v= .tuple [.int .i64 (if fbS b≠0 then 0 else (((boatsOf b).length:Nat):Int)),.int .i64 (fbS b)].toArray) rfl zq (by kernel_rfl) (fun H' hH=>f34_c _ H' (b:=b) (rdp.keeps (sq hH)) hp (rdt.keeps (sq hH)) ht (rdk.keeps (sq hH)) hk) ?_;rintro v rfl;refine d134 ?_;refine rs7 ?_;refine k_ldA rfl zq ?_
  refine k_calP (Post:=fun v=>v= .tuple [.int .i64 (if fbS b≠0 then 0 else (((boatsOf b).length:Nat):Int)),.int .i64 (fbS b)].toArray) rfl zq (by kernel_rfl) (fun H' hH=>f35_c _ H' (b:=b) (rdp.keeps (sq hH)) hp (rdt.keeps (sq hH)) ht (rdk.keeps (sq hH)) hk) ?_;rintro v rfl;refine d78 ?_;refine d97 ?_;refine rs8 ?_;refine d3 ?_;refine k_neqF rfl zq rfl ?_;refine d23 ?_;refine k_mv rfl rfl ?_;refine k_neqF rfl rfl rfl ?_;refine d126 ?_;refine rs8 ?_;refine d69 ?_
  refine k_calC rfl zq (by kernel_rfl) (Post:=fun v new=> ∃w ys,v= .tuple [w,.int .i64 (openS b (if 0≤st∧st≤(np:Int)-1 then 0 else 6))].toArray∧OwnS 3 1 w ys.length (ints ys) new∧Asc ys∧ ∀z,z∈ys↔z∈breadthsAt (openL b (openS b (if 0≤st∧st≤(np:Int)-1 then 0 else 6))) st.toNat) (fun H' hH=>f36_c _ H' (b:=b) (rdp.keeps (sq hH)) hp (rdt.keeps (sq hH)) ht (rdk.keeps (sq hH)) hk st) ?_;rintro v n36 ⟨w36,y36,rfl,o36,ha36,hm36⟩;refine k_hpA (k_put ?_);obtain ⟨p36,c36,rfl,_,r36⟩:=own_rdA (B:=B) o36
  refine d40 ?_;refine d46 ?_;refine rs8 ?_;refine d69 ?_
  refine k_calC rfl zq (by kernel_rfl) (Post:=fun v new=> ∃w ys,v= .tuple [w,.int .i64 (openS b (if 0≤st∧st≤(np:Int)-1 then 0 else 6))].toArray∧OwnS 3 1 w ys.length (ints ys) new∧Asc ys∧ ∀z,z∈ys↔z∈breadthsAt (openL b (openS b (if 0≤st∧st≤(np:Int)-1 then 0 else 6))) st.toNat) (fun H' hH=>f37_c _ H' (b:=b) (rdp.keeps (sq hH)) hp (rdt.keeps (sq hH)) ht (rdk.keeps (sq hH)) hk st) ?_;rintro v n37 ⟨w37,y37,rfl,o37,ha37,hm37⟩;refine k_hpA (k_put ?_);obtain ⟨p37,c37,rfl,_,r37⟩:=own_rdA (B:=B) o37
  obtain rfl:=Asc.eq ha36 ha37 (fun z=>(hm36 z).trans (hm37 z).symm)
  have hyl:=breadths_le hm36 ha36
  refine d40 ?_;refine d97 ?_;refine rs9 ?_;refine d3 ?_
  refine k_calP (Post:=fun v=>IsB _ v) rfl zq (by kernel_rfl) (fun H' hH=>f31_c _ H' (r36.keeps (sq hH)) hyl (r37.keeps (sq hH))) ?_;rintro v (⟨hc,rfl⟩|⟨hc,rfl⟩)
  ·refine d43 ?_;refine d23 ?_;refine k_mv rfl rfl ?_;refine k_neqF rfl rfl rfl ?_;refine d126 ?_;refine rs9 ?_;refine d69 ?_
   refine k_calP (Post:=fun v=>v= .tuple [.agg [.int .i64 (if openS b (if (b.pts.getD 0 default).h≤x∧x≤(b.pts.getD (np-1) default).h then 0 else 1)≠0 then 0 else minL ((boatsOf b).map fun l=>atI b.pts l x)),.int .i64 (if openS b (if (b.pts.getD 0 default).h≤x∧x≤(b.pts.getD (np-1) default).h then 0 else 1)≠0 then 0 else maxL ((boatsOf b).map fun l=>atI b.pts l x))].toArray,.int .i64 (openS b (if (b.pts.getD 0 default).h≤x∧x≤(b.pts.getD (np-1) default).h then 0 else 1))].toArray) rfl zq (by kernel_rfl) (fun H' hH=>f38_c _ H' (b:=b) (rdp.keeps (sq hH)) hp (rdt.keeps (sq hH)) ht (rdk.keeps (sq hH)) hk x) ?_;rintro v rfl;refine d78 ?_
   refine k_new rfl zq (fun q19=>k_hp (k_put ?_));refine k_stA rfl zq rfl ?_;refine aq rfl ?_;refine rs9 ?_;refine d69 ?_;refine k_calP (Post:=fun v=>v= .tuple [.agg [.int .i64 (if openS b (if (b.pts.getD 0 default).h≤x∧x≤(b.pts.getD (np-1) default).h then 0 else 1)≠0 then 0 else minL ((boatsOf b).map fun l=>atI b.pts l x)),.int .i64 (if openS b (if (b.pts.getD 0 default).h≤x∧x≤(b.pts.getD (np-1) default).h then 0 else 1)≠0 then 0 else maxL ((boatsOf b).map fun l=>atI b.pts l x))].toArray,.int .i64 (openS b (if (b.pts.getD 0 default).h≤x∧x≤(b.pts.getD (np-1) default).h then 0 else 1))].toArray) rfl zq (by kernel_rfl) (fun H' hH=>f39_c _ H' (b:=b) (rdp.keeps (sq hH)) hp (rdt.keeps (sq hH)) ht (rdk.keeps (sq hH)) hk x) ?_;rintro v rfl;refine d78 ?_
   refine k_new rfl zq (fun q20=>k_hp (k_put ?_));refine k_stA rfl zq rfl ?_;refine d12 ?_;refine d147 ?_;refine k_ldA rfl zq ?_;refine k_neq2F (hg:=by kernel_rfl) rfl zq ⟨rfl,rfl⟩ ?_;refine d23 ?_;refine k_mv rfl rfl ?_;refine k_neqF rfl rfl rfl ?_;refine d126 ?_;refine rs9 ?_;refine k_ldA rfl zq ?_;refine d3 ?_
   refine k_calP (Post:=fun v=>v= .tuple [.agg [.int .i64 (if openS b (ordS np f t)≠0 then 0 else minL ((boatsOf b).map fun l=>girthI b.pts l f t)),.int .i64 (if openS b (ordS np f t)≠0 then 0 else maxL ((boatsOf b).map fun l=>girthI b.pts l f t))].toArray,.int .i64 (openS b (ordS np f t))].toArray) rfl zq (by kernel_rfl) (fun H' hH=>f40_c _ H' (b:=b) (rdp.keeps (sq hH)) hp (rdt.keeps (sq hH)) ht (rdk.keeps (sq hH)) hk f t) ?_;rintro v rfl;refine d78 ?_;refine k_stA rfl zq rfl ?_;refine aq rfl ?_;refine rs9 ?_;refine k_ldA rfl zq ?_;refine d3 ?_
   refine k_calP (Post:=fun v=>v= .tuple [.agg [.int .i64 (if openS b (ordS np f t)≠0 then 0 else minL ((boatsOf b).map fun l=>girthI b.pts l f t)),.int .i64 (if openS b (ordS np f t)≠0 then 0 else maxL ((boatsOf b).map fun l=>girthI b.pts l f t))].toArray,.int .i64 (openS b (ordS np f t))].toArray) rfl zq (by kernel_rfl) (fun H' hH=>f41_c _ H' (b:=b) (rdp.keeps (sq hH)) hp (rdt.keeps (sq hH)) ht (rdk.keeps (sq hH)) hk f t) ?_;rintro v rfl;refine d78 ?_;refine k_stA rfl zq rfl ?_;refine d12 ?_;refine d147 ?_;refine k_ldA rfl zq ?_
   refine k_neq2F (hg:=by kernel_rfl) rfl zq ⟨rfl,rfl⟩ ?_;refine d23 ?_;refine k_mv rfl rfl ?_;refine k_neqF rfl rfl rfl ?_;refine d126 ?_;refine rs7 ?_;refine k_ldA rfl zq ?_
   refine k_calP (Post:=fun v=>v= .tuple [.agg [.int .i64 (if openS b 0≠0 then 0 else minL ((boatsOf b).map fun l=>areaI b.pts l)),.int .i64 (if openS b 0≠0 then 0 else maxL ((boatsOf b).map fun l=>areaI b.pts l))].toArray,.int .i64 (openS b 0)].toArray) rfl zq (by kernel_rfl) (fun H' hH=>f42_c _ H' (b:=b) (rdp.keeps (sq hH)) hp (rdt.keeps (sq hH)) ht (rdk.keeps (sq hH)) hk) ?_;rintro v rfl;refine d78 ?_;refine k_stA rfl zq rfl ?_;refine aq rfl ?_;refine rs7 ?_;refine k_ldA rfl zq ?_
   refine k_calP (Post:=fun v=>v= .tuple [.agg [.int .i64 (if openS b 0≠0 then 0 else minL ((boatsOf b).map fun l=>areaI b.pts l)),.int .i64 (if openS b 0≠0 then 0 else maxL ((boatsOf b).map fun l=>areaI b.pts l))].toArray,.int .i64 (openS b 0)].toArray) rfl zq (by kernel_rfl) (fun H' hH=>f43_c _ H' (b:=b) (rdp.keeps (sq hH)) hp (rdt.keeps (sq hH)) ht (rdk.keeps (sq hH)) hk) ?_;rintro v rfl;refine d78 ?_;refine k_stA rfl zq rfl ?_;refine d12 ?_;refine d147 ?_;refine k_ldA rfl zq ?_
   refine k_neq2F (hg:=by kernel_rfl) rfl zq ⟨rfl,rfl⟩ ?_;refine d23 ?_;refine k_mv rfl rfl ?_;refine k_neqF rfl rfl rfl ?_;refine d126 ?_;refine rs9 ?_;refine k_ldA rfl zq ?_;refine d3 ?_
   refine k_calP (Post:=fun v=>v= .tuple [.int .i64 (if openS b (if ((b.pts.getD 0 default).h≤x∧x≤(b.pts.getD (np-1) default).h)∧0≤y∧y≤959 then 0 else 1)≠0 then 0 else clearsI b x y),.int .i64 (openS b (if ((b.pts.getD 0 default).h≤x∧x≤(b.pts.getD (np-1) default).h)∧0≤y∧y≤959 then 0 else 1))].toArray) rfl zq (by kernel_rfl) (fun H' hH=>f44_c _ H' (b:=b) (rdp.keeps (sq hH)) hp (rdt.keeps (sq hH)) ht (rdk.keeps (sq hH)) hk x y) ?_;rintro v rfl;refine d134 ?_;refine rs9 ?_;refine k_ldA rfl zq ?_;refine d3 ?_
   refine k_calP (Post:=fun v=>v= .tuple [.int .i64 (if openS b (if ((b.pts.getD 0 default).h≤x∧x≤(b.pts.getD (np-1) default).h)∧0≤y∧y≤959 then 0 else 1)≠0 then 0 else clearsI b x y),.int .i64 (openS b (if ((b.pts.getD 0 default).h≤x∧x≤(b.pts.getD (np-1) default).h)∧0≤y∧y≤959 then 0 else 1))].toArray) rfl zq (by kernel_rfl) (fun H' hH=>by have:=f45_c (Md.starS Tryz.prog B) H' (b:=b) (rdp.keeps (sq hH)) hp (rdt.keeps (sq hH)) ht (rdk.keeps (sq hH)) hk x y;rw [clear_told] at this;exact this) ?_;rintro v rfl;refine d78 ?_;refine d97 ?_;refine rs8 ?_;refine d3 ?_;refine k_neqF rfl zq rfl ?_;refine d23 ?_;refine k_mv rfl rfl ?_;refine k_neqF rfl rfl rfl ?_;refine d126 ?_;refine rs9 ?_;refine k_ldA rfl zq ?_
   refine k_calC rfl zq (by kernel_rfl) (Post:=fun v new=> ∃w,v= .tuple [w,.int .i64 (if openS b 0≠0 then 0 else areaI b.pts (leanL b (boatsOf b))),.int .i64 (openS b 0)].toArray∧RdI B new w (if openS b 0≠0 then [] else leanL b (boatsOf b))) (fun H' hH=>f46_c _ H' (b:=b) (rdp.keeps (sq hH)) hp (rdt.keeps (sq hH)) ht (rdk.keeps (sq hH)) hk) ?_;rintro v n46 ⟨w46,rfl,p46,c46,rfl,r46⟩;refine k_hpA (k_put ?_);refine d40 ?_;refine k_ext2 rfl zq ?_;refine k_as rfl zq ?_;refine d46 ?_;refine rs9 ?_;refine k_ldA rfl zq ?_
   refine k_calC rfl zq (by kernel_rfl) (Post:=fun v new=> ∃w,v= .tuple [w,.int .i64 (if openS b 0≠0 then 0 else areaI b.pts (leanL b (boatsOf b))),.int .i64 (openS b 0)].toArray∧RdI B new w (if openS b 0≠0 then [] else leanL b (boatsOf b))) (fun H' hH=>f47_c _ H' (b:=b) (rdp.keeps (sq hH)) hp (rdt.keeps (sq hH)) ht (rdk.keeps (sq hH)) hk) ?_;rintro v n47 ⟨w47,rfl,p47,c47,rfl,r47⟩;refine k_hpA (k_put ?_);refine d40 ?_;refine k_ext2 rfl zq ?_;refine k_as rfl zq ?_;refine d97 ?_
   refine run_region [(0,.free),(1,.free),(2,.free),(3,.free),(4,.free),(5,.free),(6,.free),(7,.free),(8,.free),(9,.free),(10,.free),(11,.free),(12,.free),(13,.free),(14,.free),(15,.free),(16,.free)] (by kernel_rfl) (by kernel_rfl) ?_;refine d3 ?_
   refine k_calP (Post:=fun v=>IsB _ v) rfl zq (by kernel_rfl) (fun H' hH=>f31_c _ H' (r46.keeps (sq hH)) (lean_len b) (r47.keeps (sq hH))) ?_;rintro v (⟨hc,rfl⟩|⟨hc,rfl⟩)
   ·refine k_put ?_;refine d23 ?_;refine k_mv rfl rfl ?_;refine k_eqlT rfl rfl rfl ?_;refine k_pickT rfl zq ?_;refine d23 ?_;refine k_mv rfl rfl ?_;refine k_eqlT rfl rfl rfl ?_;refine k_pickT rfl zq ?_;refine mq rfl ?_;refine k_cal rfl rfl (by kernel_rfl) (f18_c _) ?_;rintro v h' ⟨nF,rfl,rfl⟩;refine k_put ?_;refine d92 ?_;refine run_top rfl Tryz.func4 (by kernel_rfl) rfl ?_;rfl
   ·refine k_put ?_;exact absurd rfl hc
  ·refine k_put ?_;exact absurd rfl hc
end Go.Proofs
