/- A part of the proof of a law: my own separation logic over the machine, and walks of the program. Condition of each theorem: as its statement says. -/
import Derived.Test.YtgplnpdblmcdoaaGreatDoorWC9
set_option linter.all false
namespace Go.Proofs
open Go.Lo
open Go.Conc (G)
set_option maxRecDepth 100000
set_option synthInstance.maxSize 100000
set_option synthInstance.maxHeartbeats 1000000
set_option maxHeartbeats 4000000
variable {b:Fb} {pp:Option Addr} {np cp:Nat} {pt:Option Addr} {nt ct:Nat} {pk:Option Addr} {nk ck:Nat}
variable {B:Array Obj}
theorem jly: ∀mm:Nat,mm<64→ ∀k:Nat,k<6→((mm:Int).fdiv (2^(min (k:Int).toNat IntKind.i64.bits)))=((mm/2^k:Nat):Int):=by decide+kernel
theorem jnb: ∀a:Nat,a<64→IntKind.wrap .i64 ((BitVec.ofInt 64 (a:Int)&&&BitVec.ofInt 64 1).toNat:Int)=((a%2:Nat):Int):=by decide+kernel
theorem jl5 (b:Fb) (xs:List Int):(jca b xs).length≤xs.length:=by
 unfold jca
 rw [List.length_map];exact List.length_filter_le _ _
theorem jl8 (b:Fb) (xs:List Int):(jcb b xs).length≤xs.length:=by
 unfold jcb
 rw [List.length_map];exact List.length_filter_le _ _
theorem jhc {B:Array Obj} {h' F1 F2 F3 H X Y Z:Hp} [a:Off h' Z F1] [b:Off F1 Y F2] [c:Off F2 X F3] [s:SubH H F3]:Weak B h' (H++X++Y++Z):=
 Weak.trans (Weak.perm a.perm) (Weak.apps (Weak.trans (Weak.perm b.perm) (Weak.apps (Weak.trans (Weak.perm c.perm) (Weak.apps (Weak.sub s.sub) X)) Y)) Z)
theorem jhz {x:Tp}:encs [x]=tpL x:=by simp [encs,Enc.enc]
theorem je4 {x:Sk}:encs [x]=skL x:=by simp [encs,Enc.enc]
theorem f93_c (m:Md Tryz.prog B) (h:Hp) (rdt:Rt B h b pt nt ct) (rdk:Rk B h b pk nk ck) (h6:nt+nk≤6) {mm:Nat} (hmm:mm<64):FnC m 93 #[fbV b pp np cp pt nt ct pk nk ck,.int .i64 (mm:Int)] h fun v h'=> ∃nI nT nK,h'=h++nI++nT++nK∧ ∃tp tc kp kc w,v= .tuple [.agg [.int .i64 b.plank,.slice pp np cp,.slice tp (jca b (jaQ mm (nt+nk))).length tc,.slice kp (jcb b (jaQ mm (nt+nk))).length kc].toArray,w].toArray∧RdS B nT 4 (.slice tp (jca b (jaQ mm (nt+nk))).length tc) (jca b (jaQ mm (nt+nk))).length (encs (jca b (jaQ mm (nt+nk))))∧RdS B nK 3 (.slice kp (jcb b (jaQ mm (nt+nk))).length kc) (jcb b (jaQ mm (nt+nk))).length (encs (jcb b (jaQ mm (nt+nk))))∧OwnS 3 1 w (jaQ mm (nt+nk)).length (ints (jaQ mm (nt+nk))) nI:=by
 have htl0:=rdt.elen (by decide)
 have hkl0:=rdk.elen (by decide)
 refine jad Tryz.func93 rfl rfl (l:=(fbV b pp np cp pt nt ct pk nk ck)::(.int .i64 (mm:Int))::uu73) rfl ?_
 intro cf cs K hK
 refine rs3 ?_;refine jaq rfl zq (fun q2=>k_hp (jac ?_));refine jaw rfl zq (fun q4=>k_hp (jac ?_));refine aq rfl ?_;refine d82 ?_;refine d96 ?_
 refine jaw rfl zq (fun q7=>k_hp (jac ?_));refine d71 ?_;refine rs6 ?_;refine d8 ?_;refine jcg rfl zq ?_;refine d8 ?_;refine jcg rfl zq ?_;refine d25 ?_;refine rs10 ?_;refine d150 ?_;refine d150 ?_;refine d18 ?_;refine d57 ?_
 refine jag (fun nn l h'=> ∃(k:Nat) (ip:Option Addr) (ic:Nat) (nI:Hp) (tp:Option Addr) (tc:Nat) (nT:Hp) (kp:Option Addr) (kc:Nat) (nK:Hp),nn=nt+nk-k∧(k≤nt+nk)∧(OwnS 3 1 (.slice ip (jaQ mm k).length ic) (jaQ mm k).length (ints (jaQ mm k)) nI)∧(OwnS 89 4 (.slice tp (jca b (jaQ mm k)).length tc) (jca b (jaQ mm k)).length (encs (jca b (jaQ mm k))) nT)∧(OwnS 50 3 (.slice kp (jcb b (jaQ mm k)).length kc) (jcb b (jaQ mm k)).length (encs (jcb b (jaQ mm k))) nK)∧(∃U:Nat→Value,l=((fbV b pp np cp pt nt ct pk nk ck)::(.int .i64 (mm:Int))::(.pointer (some ⟨q2,0,none⟩))::(U 3)::(.pointer (some ⟨q4,0,none⟩))::(U 5)::(.slice ip (jaQ mm k).length ic)::(.pointer (some ⟨q7,0,none⟩))::vw15 U 8 ((.int .i64 ((nt:Int)+(nk:Int)))::(.int .i64 (k:Int))::vw50 U 25 [])))∧h++[⟨true,q2,.cells (fbL b pp np cp pt nt ct pk nk ck).toArray 96 (0,0)⟩,⟨true,q4,.cells ([.int .i64 0,.slice none 0 0,.slice none 0 0,.slice none 0 0]:List Value).toArray 96 (0,0)⟩,⟨true,q7,.cells ([.int .i64 b.plank,.slice pp np cp,.slice tp (jca b (jaQ mm k)).length tc,.slice kp (jcb b (jaQ mm k)).length kc]:List Value).toArray 96 (0,0)⟩]++nI++nT++nK=h') _ ⟨0,none,0,[],none,0,[],none,0,[],rfl,by omega,OwnS.nil,OwnS.nil,OwnS.nil,exU rfl,(by simp [jca,jcb,jaQ,jbP])⟩ ?_;rintro nn l h' ⟨k,ip,ic,nI,tp,tc,nT,kp,kc,nK,rfl,hk1,ho,hot,hok,⟨U,rfl⟩,rfl⟩ hnext;have hil:=jjU mm k
 have htl:=jl5 b (jaQ mm k)
 have hkl:=jl8 b (jaQ mm k)
 refine rs1 ?_;refine jap rfl zq (fun hc=>?_) (fun hc=>?_)
 ·refine d106 ?_;refine d16 ?_;refine d10 ?_;refine rs7 ?_;refine mq rfl ?_;refine d23 ?_;refine d79 ?_;refine d39 ?_;refine rs6 ?_;refine d3 ?_
  refine k_shr ((mm/2^k:Nat):Int) rfl zq (by omega) (jly mm hmm k (by omega)) ?_;refine k_and ((mm/2^k%2:Nat):Int) rfl zq (jnb _ (Nat.lt_of_le_of_lt (Nat.div_le_self _ _) hmm)) ?_;refine jcd rfl zq (fun hc=>?_) (fun hc=>?_)
  ·have hbit:bitN mm k≠1:=by unfold bitN;omega
   refine d63 ?_;refine jbU rfl ?_;refine d78 ?_
   rw [←jjT hbit] at ho hot hok
   rw [←jjT hbit];exact m.weak jaa (hnext _ _ _ (by omega) ⟨k+1,_,_,nI,_,_,nT,_,_,nK,rfl,by omega,ho,hot,hok,exU rfl,rfl⟩)
  ·have hbit:bitN mm k=1:=by unfold bitN;omega
   refine d73 ?_;refine d46 ?_
   refine jap rfl zq (fun hc=>?_) (fun hc=>?_)
   ·have hlt:(k:Int)<b.tapes.length:=by omega
    refine d63 ?_
    obtain ⟨tb,to,rfl⟩:=rdt.ptr (by omega)
    have hok1:=hok
    rw [←jjM (b:=b) hlt,←jcu hbit] at hok1
    refine jah [(0,.pure),(1,.pure),(3,.pure),(4,.pure),(6,.pure),(2,.read),(5,.read),(7,.pure),(8,.read),(9,.keep),(10,.free),(11,.pure),(12,.pure),(13,.free)] (by kernel_rfl) (by kernel_rfl) (List.Sublist.refl _) ?_;refine d8 ?_;refine d8 ?_;refine mq rfl ?_;refine d85 ?_;refine jaJ rfl zq (by first|rfl|assumption) (by omega) (by omega) ?_
    refine jbf (vs:=tpL (b.tapes.getD k default)) rfl zq rfl (rdt.eat k (by omega) (by omega)) ?_;refine k_bs kdq rfl zq (by decide) (by decide) rfl (fun q64=>k_hp (jac ?_));refine jbH rfl zq rfl hot kdq (by omega) (by omega) (fun w65 n65 o65=>jac ?_);replace o65:OwnS 89 4 w65 (jca b (jaQ mm (k+1))).length (encs (jca b (jaQ mm (k+1)))) n65:=by
     rw [jcu hbit,jl3 hlt,jaV,jhz,List.length_append];exact o65
    obtain ⟨p65,c65,rfl,_⟩:=o65.len
    refine d8 ?_;refine d59 ?_;refine jay ?_;refine rr5 ?_;refine d3 ?_
    refine k_bs kdq rfl zq (by decide) (by decide) rfl (fun q70=>k_hp (jac ?_));refine jbH rfl zq rfl ho kdq (by omega) (by omega) (fun w70 n70 o70=>jac ?_);replace o70:OwnS 3 1 w70 (jaQ mm (k+1)).length (ints (jaQ mm (k+1))) n70:=by
     rw [jcu hbit,jbg,List.length_append];exact o70
    obtain ⟨p70,c70,rfl,_⟩:=o70.len
    refine d145 ?_
    rw [←show jcb b (jaQ mm (k+1))=jcb b (jaQ mm k) by rw [jcu hbit,jjM hlt]];refine m.weak (h':=h++[⟨true,q2,.cells (fbL b pp np cp (some ⟨tb,to,none⟩) nt ct pk nk ck).toArray 96 (0,0)⟩,⟨true,q4,.cells ([.int .i64 0,.slice none 0 0,.slice none 0 0,.slice none 0 0]:List Value).toArray 96 (0,0)⟩,⟨true,q7,.cells ([.int .i64 b.plank,.slice pp np cp,.slice p65 (jca b (jaQ mm (k+1))).length c65,.slice kp (jcb b (jaQ mm (k+1))).length kc]:List Value).toArray 96 (0,0)⟩]++n70++n65++nK) jhc ?_
    exact hnext _ _ _ (by omega) ⟨k+1,_,_,n70,_,_,n65,_,_,nK,rfl,by omega,o70,o65,hok1,exU rfl,rfl⟩
   ·have hge: ¬(k:Int)<b.tapes.length:=by omega
    refine d73 ?_
    obtain ⟨kb,ko,rfl⟩:=rdk.ptr (by omega)
    have hot1:=hot
    rw [←jjK (b:=b) hge,←jcu hbit] at hot1
    refine jah [(0,.pure),(1,.pure),(3,.pure),(4,.pure),(6,.pure),(2,.read),(5,.read),(7,.pure),(8,.read),(9,.keep),(10,.free),(11,.pure),(12,.pure),(13,.free)] (by kernel_rfl) (by kernel_rfl) (List.Sublist.refl _) ?_;refine d8 ?_;refine d8 ?_;refine mq rfl ?_;refine d85 ?_;refine jaJ rfl zq (by first|rfl|assumption) (by omega) (by omega) ?_
    refine jbf (vs:=skL (b.sticks.getD (k-nt) default)) rfl zq rfl (rdk.eat (k-nt) (by omega) (by omega)) ?_;refine k_bs kdq rfl zq (by decide) (by decide) rfl (fun q42=>k_hp (jac ?_));refine jbH rfl zq rfl hok kdq (by omega) (by omega) (fun w43 n43 o43=>jac ?_);replace o43:OwnS 50 3 w43 (jcb b (jaQ mm (k+1))).length (encs (jcb b (jaQ mm (k+1)))) n43:=by
     rw [jcu hbit,jl6 hge,show ((k:Int)-b.tapes.length).toNat=k-nt by omega,jaV,je4,List.length_append];exact o43
    obtain ⟨p43,c43,rfl,_⟩:=o43.len
    refine d8 ?_;refine d59 ?_;refine jay ?_;refine rr5 ?_;refine d3 ?_
    refine k_bs kdq rfl zq (by decide) (by decide) rfl (fun q70=>k_hp (jac ?_));refine jbH rfl zq rfl ho kdq (by omega) (by omega) (fun w70 n70 o70=>jac ?_);replace o70:OwnS 3 1 w70 (jaQ mm (k+1)).length (ints (jaQ mm (k+1))) n70:=by
     rw [jcu hbit,jbg,List.length_append];exact o70
    obtain ⟨p70,c70,rfl,_⟩:=o70.len
    refine d145 ?_
    rw [←show jca b (jaQ mm (k+1))=jca b (jaQ mm k) by rw [jcu hbit,jjK hge]];refine m.weak (h':=h++[⟨true,q2,.cells (fbL b pp np cp pt nt ct (some ⟨kb,ko,none⟩) nk ck).toArray 96 (0,0)⟩,⟨true,q4,.cells ([.int .i64 0,.slice none 0 0,.slice none 0 0,.slice none 0 0]:List Value).toArray 96 (0,0)⟩,⟨true,q7,.cells ([.int .i64 b.plank,.slice pp np cp,.slice tp (jca b (jaQ mm (k+1))).length tc,.slice p43 (jcb b (jaQ mm (k+1))).length c43]:List Value).toArray 96 (0,0)⟩]++n70++nT++n43) jhc ?_
    exact hnext _ _ _ (by omega) ⟨k+1,_,_,n70,_,_,nT,_,_,n43,rfl,by omega,o70,hot1,o43,exU rfl,rfl⟩
 ·refine d107 ?_;refine rs4 ?_
  obtain rfl:k=nt+nk:=by omega
  refine d77 ?_;refine d80 ?_
  refine jab (h++nI++nT++nK) rfl Tryz.func93 rfl jaa ?_;refine hK _ _ ?_;exact ⟨nI,nT,nK,rfl,_,_,_,_,_,rfl,hot.rd (List.Sublist.refl _),hok.rd (List.Sublist.refl _),ho⟩
def cmpF (xs ys:List Int):Int:=if (xs.length:Int)≠ys.length then (xs.length:Int)-ys.length else cmpL xs ys
theorem jgf: ∀{xs ys:List Int},xs.length=ys.length→(cmpL xs ys<0↔jbn xs ys=true)
 |[],[],_=>by simp [cmpL,jbn]
 |[],_::_,h=>by simp at h
 |_::_,[],h=>by simp at h
 |a::r,c::s,h=>by
  have ih:=jgf (xs:=r) (ys:=s) (by simpa using h)
  unfold cmpL jbn
  by_cases e:a=c
  ·subst e
   rw [if_neg (by omega),if_neg (by omega),if_pos rfl];exact ih
  ·rw [if_neg e,decide_eq_true_iff];by_cases e1:a<c
   ·rw [if_pos e1];exact ⟨fun _=>e1,fun _=>by decide⟩
   ·rw [if_neg e1,if_pos (by omega)];exact ⟨fun h=>by omega,fun h=>absurd h e1⟩
theorem jm2 {xs ys:List Int}:cmpF xs ys<0↔jeJ xs ys:=by
 unfold cmpF jeJ
 by_cases e:(xs.length:Int)=ys.length
 ·rw [if_neg (fun h=>h e),jgf (by omega)];exact ⟨fun h=> .inr ⟨by omega,h⟩,fun h=>h.elim (fun h=>by omega) (·.2)⟩
 ·rw [if_pos e];exact ⟨fun h=> .inl (by omega),fun h=>h.elim (fun h=>by omega) (fun h=>by omega)⟩
def ltF (xs ys:List Int):Bool:=decide (cmpF xs ys<0)
theorem jmQ {ll:List (List Int)} (h:0<ll.length): ∀x∈ll,¬jeJ x (jcM ltF ll):=by
 have gen: ∀(r:List (List Int)) (a:List Int),(∀x∈a::r,¬jeJ x (r.foldl (fun o x=>if ltF x o then x else o) a)):=by
  intro r
  induction r with
  |nil=>intro a x hx;rw [List.mem_singleton.1 hx];exact jiu _
  |cons y r ih=>
   intro a x hx
   rw [List.foldl_cons];have h1:=ih (if ltF y a then y else a)
   by_cases e:ltF y a=true
   ·rw [if_pos e] at h1⊢
    rcases List.mem_cons.1 hx with rfl|hx
    ·intro hf
     exact h1 y List.mem_cons_self (jf8 (jm2.1 (of_decide_eq_true e)) hf)
    ·exact h1 x hx
   ·rw [if_neg e] at h1⊢
    rcases List.mem_cons.1 hx with rfl|hx
    ·exact h1 x List.mem_cons_self
    ·rcases List.mem_cons.1 hx with rfl|hx
     ·intro hf
      have e1: ¬jeJ x a:=fun hh=>e (decide_eq_true (jm2.2 hh))
      rcases jkb x a with rfl|e2|e2
      ·exact h1 x List.mem_cons_self hf
      ·exact e1 e2
      ·exact h1 a List.mem_cons_self (jf8 e2 hf)
     ·exact h1 x (List.mem_cons_of_mem _ hx)
 cases ll with
 |nil=>simp at h
 |cons a r=>exact gen r a
theorem callB98:ja4 Tryz.prog 98=true:=by kernel_rfl
theorem f98_c (m:Md Tryz.prog B) (h:Hp) {p:Option Addr} {n c:Nat} {xs:List Int} (rd:RdS B h 1 (.slice p n c) n (ints xs)) (hn:n≤1000000) {p2:Option Addr} {n2 c2:Nat} {ys:List Int} (rd2:RdS B h 1 (.slice p2 n2 c2) n2 (ints ys)) (hn2:n2≤1000000):FnC m 98 #[.slice p n c,.slice p2 n2 c2] h fun v h'=>h'=h∧v= .int .i64 (cmpF xs ys):=by
 have hl:=rd.ilen
 have hl2:=rd2.ilen
 refine jad Tryz.func98 rfl rfl (l:=(.slice p n c)::(.slice p2 n2 c2)::uu16) rfl ?_
 intro cf cs K hK
 refine d67 ?_;refine d116 ?_;refine d72 ?_;refine jcO rfl zq ?_
 refine jaF rfl zq (fun hc=>?_) (fun hc=>?_)
 ·refine d7 ?_;refine rs6 ?_;refine mq rfl ?_;refine d72 ?_;refine d79 ?_;refine d0 ?_
  refine jab (h) rfl Tryz.func98 rfl jaa ?_;refine hK _ _ ?_;exact ⟨rfl,by rw [cmpF,if_pos (by omega),hl,hl2]⟩
 ·refine d9 ?_;refine d69 ?_
  refine jae (Post:=fun v=>v=_) rfl zq (by kernel_rfl) (fun H' hH=>f99_c m H' (rd.keeps (sq hH)) hn (rd2.keeps (sq hH))) ?_;rintro v rfl;refine d87 ?_
  refine jab (h) rfl Tryz.func98 rfl jaa ?_;refine hK _ _ ?_;exact ⟨rfl,by rw [cmpF,if_neg (by omega)]⟩
theorem f97_c (m:Md Tryz.prog B) (h:Hp) {p:Option Addr} {c:Nat} {vs:List Value} {ll:List (List Int)} (rdv:RdS B h 1 (.slice p ll.length c) ll.length vs) (rde:RdE B h vs ll) (hn:ll.length≤10000) (h0:0<ll.length) (hl: ∀l∈ll,l.length≤1000):
  FnC m 97 #[.slice p ll.length c,.func (.func 98) #[] #[]] h fun v h'=>h'=h∧RdI B h v (jcM ltF ll):=by
 refine jad Tryz.func97 rfl rfl (l:=(.slice p ll.length c)::(.func (.func 98) #[] #[])::uu31) rfl ?_
 intro cf cs K hK
 refine d67 ?_;refine d151 ?_
 refine jap rfl zq (fun hc=>?_) (fun hc=>?_)
 ·exfalso
  omega
 ·refine d36 ?_
  obtain ⟨rb,ro,rfl⟩:=rdv.ptr (by omega)
  obtain ⟨gp0,gc0,ge0,gr0⟩:=rde.2 0 (by omega)
  refine rr4 ?_;refine d43 ?_;refine k_ld (v:= .slice gp0 (ll.getD 0 []).length gc0) rfl zq (by rw [←ge0];exact rdv.vat 0 (by omega) (by omega)) ?_;refine d10 ?_;refine d98 ?_
  refine jag (fun nn l h'=> ∃(k:Nat) (gp:Option Addr) (gc:Nat) (w:List Int),nn=ll.length-k∧(0<k)∧(k≤ll.length)∧(w=jcM ltF (ll.take k))∧(RdS B h 1 (.slice gp w.length gc) w.length (ints w))∧(w∈ll)∧(∃U:Nat→Value,l=((.slice (some ⟨rb,ro,none⟩) ll.length c)::(.func (.func 98) #[] #[])::(U 2)::(U 3)::(U 4)::(.slice gp w.length gc)::(.int .i64 (k:Int))::vw26 U 7 []))∧h=h') _ ⟨1,gp0,gc0,ll.getD 0 [],rfl,by omega,by omega,by rw [jg7],gr0,jai.2 ⟨0,by omega,rfl⟩,exU rfl,rfl⟩ ?_;rintro nn l h' ⟨k,gp,gc,w,rfl,hk0,hk,hw,hwr,hwm,⟨U,rfl⟩,rfl⟩ hnext;refine d114 ?_
  refine jap rfl zq (fun hc=>?_) (fun hc=>?_)
  ·refine d97 ?_
   have hkm:ll.getD k []∈ll:=jai.2 ⟨k,by omega,rfl⟩
   obtain ⟨ep,ec,ee,er⟩:=rde.2 k (by omega)
   have hlk:=hl _ hkm
   have hlw:=hl _ hwm
   refine rr8 ?_;refine d3 ?_;refine d43 ?_;refine k_ld (v:= .slice ep (ll.getD k []).length ec) rfl zq (by rw [←ee];exact rdv.vat k (by omega) (by omega)) ?_;refine mq rfl ?_
   refine jea (Post:=fun v=>v=_) rfl zq callB98 (fun H' hH=>f98_c m H' (er.keeps (sq hH)) (by omega) (hwr.keeps (sq hH)) (by omega)) ?_;rintro v rfl;refine jac ?_;refine jap rfl zq (fun hc=>?_) (fun hc=>?_)
   ·refine d7 ?_;refine rr5 ?_;refine d11 ?_
    refine k_ld (v:= .slice ep (ll.getD k []).length ec) rfl zq (by rw [←ee];exact rdv.vat k (by omega) (by omega)) ?_;refine d167 ?_
    exact m.weak jaa (hnext _ _ _ (by omega) ⟨k+1,ep,ec,ll.getD k [],rfl,by omega,by omega,by rw [jdm _ _ _ (by omega) (by omega),if_pos (by rw [←hw];exact decide_eq_true (by omega))],er,hkm,exU rfl,rfl⟩)
   ·refine d105 ?_
    exact m.weak jaa (hnext _ _ _ (by omega) ⟨k+1,gp,gc,w,rfl,by omega,by omega,by rw [jdm _ _ _ (by omega) (by omega),if_neg (by rw [←hw];unfold ltF;rw [decide_eq_true_iff];omega),hw],hwr,hwm,exU rfl,rfl⟩)
  ·refine d176 ?_
   refine jab (h) rfl Tryz.func97 rfl jaa ?_;refine hK _ _ ?_;obtain rfl:k=ll.length:=by omega
   rw [List.take_of_length_le (by omega)] at hw
   exact ⟨rfl,_,_,by rw [←hw],by rw [←hw];exact hwr⟩
end Go.Proofs
namespace Go.Proofs
open Go.Lo
open Go.Conc (G)
set_option maxRecDepth 100000
set_option synthInstance.maxSize 100000
set_option synthInstance.maxHeartbeats 1000000
set_option maxHeartbeats 4000000
variable {B:Array Obj} {M:Meet} {Y:Sy Tryz.prog B M.pro} {h:Hp} {kn:Nat} {z:List Nat}
theorem jkR (hM:M.n≤64) {c:Frame} {cs:List Frame} {kk:Nat} (hitc: ∀ks Pool,M.PL ks Pool→kn∉ks→(∀k'∈ks,k'<M.n∧M.hit k'=true)→ks.Nodup→(Y.im 0 (.w kn (.hold 1) .on ks) (h++Pool)).R (G (c.finish (.tuple #[])) cs)):
  (Y.im 1 (.w kn (.look false kk) .on z) h).R (G (Frame.enter Tryz.prog 179 [.pointer (some ⟨M.mu,0,none⟩)].toArray .normal) (c::cs)):=by
 refine jbX Tryz.func179 rfl rfl (l:=(.pointer (some ⟨M.mu,0,none⟩))::uu138) rfl ?_;refine d154 ?_;refine d154 ?_;refine d154 ?_;refine d154 ?_;refine d102 ?_
 refine jc5 (aw:=false) (quiet 179 (by decide)) rfl zq hM (fun old0 ho hwk=>jaW ?_)
 refine d14 ?_
 refine jeW (fun D' s' h' l'=>D'=1∧s'= .w kn (.hold 0) .on z∧h=h'∧(∃U:Nat→Value,l'=((.pointer (some ⟨M.mu,0,none⟩))::vw138 U 1 []))) ?_ ?_
 ·rintro _ _ _ _ ⟨rfl,rfl,rfl,U,rfl⟩;refine i_if ?_;refine d60 ?_;refine jdM jbs rfl zq ?_
  refine jaj ?_;refine d5 ?_;refine jfa rfl zq ⟨.inl rfl,.inl rfl⟩ jhf.1 jhf.2.1 jhf.2.2 ?_
  refine s_take jdU rfl zq (fun ks Pool q1 q2 q3 q4=>?_)
  refine d131 ?_
  refine jaK rfl Tryz.func179 (jas rfl) ?_;exact hitc ks Pool q1 q2 q3 q4
 ·intro jn40
  refine jdB ?_;refine jjz (fun nn D' s' h' l'=> ∃(aw:Bool) (old:Wd) (kk it:Nat) (wst:Int) (sv:Bool),D'=1∧s'= .w kn (.try_ aw old kk) .on z∧h=h'∧nn=kk*8+(4-it)∧it≤4∧old.n≤384∧(aw=true→old.w=true∧old.s=false)∧(sv=true→aw=true)∧ ∃U:Nat→Value,l'=((.pointer (some ⟨M.mu,0,none⟩))::(U 1)::(.int .i64 wst)::(.bool sv)::(.bool aw)::(.int .i64 (it:Int))::(.int .i32 (old.val:Int))::jlm U 7 [])) _ ⟨false,old0,_,0,0,false,rfl,rfl,rfl,rfl,by omega,ho,hwk,(fun e=>by cases e),exU rfl⟩ ?_
  rintro nn _ _ _ _ ⟨aw,old,kk,it,wst,sv,rfl,rfl,rfl,rfl,hit,ho,hwk,hsv,U,rfl⟩ hnext;refine jdB ?_;refine jeW (fun D' s' h' l'=>D'=1∧s'= .w kn (.try_ aw old kk) .on z∧h=h'∧(∃U:Nat→Value,l'=((.pointer (some ⟨M.mu,0,none⟩))::(U 1)::(.int .i64 wst)::(.bool sv)::(.bool aw)::(.int .i64 (it:Int))::(.int .i32 (old.val:Int))::jlm U 7 []))) ?_ ?_
  ·rintro _ _ _ _ ⟨rfl,rfl,rfl,U,rfl⟩;refine s_join5 (fun D' s' h' l'=>D'=1∧s'= .w kn (.try_ aw old kk) .on z∧h=h'∧ ∃new:Wd,(∃U:Nat→Value,l'=((.pointer (some ⟨M.mu,0,none⟩))::(U 1)::(.int .i64 wst)::(.bool sv)::(.bool aw)::(.int .i64 (it:Int))::(.int .i32 (old.val:Int))::(.int .i32 (new.val:Int))::vw131 U 8 []))∧((old.l=false∧old.s=false∧new=⟨true,old.w&&!aw,false,old.n⟩)∨((old.l=true∨old.s=true)∧new=⟨old.l,old.w&&!aw,old.s||(sv&&old.l),old.n+1⟩))) ?_ ?_
   ·rintro _ _ _ _ ⟨rfl,rfl,rfl,new,⟨U,rfl⟩,⟨hl,hs,hnew⟩|⟨hls,hnew⟩⟩
    ·refine d134 ?_;refine i_mv rfl zq ?_
     refine jlK (aw:=aw) (old:=old) (new:=new) jeK rfl zq hl hs hnew (jaW ?_) (fun hk=>jaW ?_)
     ·refine d45 ?_;refine d37 ?_
      refine jam (v:= .int .i32 0) rfl zq (by decide) (jaP ((wdB old (by omega)).and5.trans (by rw [hl,hs];decide))) ?_;refine jam (v:= .bool true) rfl zq (by decide) (jbd (by decide)) ?_;refine d45 ?_;refine jgW rfl ?_
      exact jn40 _ _ _ _ ⟨rfl,rfl,rfl,exU rfl⟩
     ·refine d21 ?_;refine d5 ?_;refine d13 ?_
      refine jc5 (quiet 179 (by decide)) rfl zq hM (fun x hx hwx=>jaW ?_)
      refine d14 ?_;refine jda ?_
      exact hnext _ _ _ _ _ (by omega) ⟨aw,x,kk-1,it,wst,sv,rfl,rfl,rfl,rfl,hit,hx,hwx,hsv,exU rfl⟩
    ·refine d134 ?_;refine i_mv rfl zq ?_
     refine jkA (aw:=aw) (sv:=sv) (old:=old) (new:=new) jeK rfl zq hls hsv hnew (fun hk=>jaW ?_) (fun hk=>jaW ?_)
     ·refine d45 ?_;refine d37 ?_
      refine jam (v:= .int .i32 (b01 old.l+4*b01 old.s)) rfl zq (by decide) (jaP ((wdB old (by omega)).and5)) ?_;refine jam (v:= .bool false) rfl zq (by decide) (jbd (decide_eq_false (by rcases hls with e|e<;>simp only [e,b01_true]<;>omega))) ?_;refine d38 ?_;refine d19 ?_
      refine jam (v:= .bool (decide (wst≠0))) rfl zq (by decide) (jba rfl) ?_;refine d14 ?_
      refine jeW (fun D' s' h' l'=>D'=1∧s'= .w kn (.wait (kk-1)) .on z∧h=h'∧ ∃wst1:Int,(∃U:Nat→Value,l'=((.pointer (some ⟨M.mu,0,none⟩))::(U 1)::(.int .i64 wst1)::(.bool sv)::vw135 U 4 []))) ?_ ?_
      ·rintro _ _ _ _ ⟨rfl,rfl,rfl,wst1,U,rfl⟩;refine d134 ?_
       refine s_waits extSemM rfl zq (jaW ?_)
       refine jaj ?_;refine jeW (fun D' s' h' l'=>D'=1∧s'= .w kn (.woken (kk-1)) .on z∧h=h'∧ ∃sv1:Bool,(∃U:Nat→Value,l'=((.pointer (some ⟨M.mu,0,none⟩))::(U 1)::(.int .i64 wst1)::(.bool sv1)::vw135 U 4 []))) ?_ ?_
       ·rintro _ _ _ _ ⟨rfl,rfl,rfl,sv1,U,rfl⟩;refine d102 ?_
        refine jiW (quiet 179 (by decide)) rfl zq hM (fun x hx hs hww=>jaW ?_) (fun nn h1 h384=>jaW ?_)
        ·refine d103 ?_
         refine jam (v:= .int .i32 0) rfl zq (by decide) (jaP ((wdB x (by omega)).and4.trans (by rw [hs];decide))) ?_;refine jam (v:= .bool false) rfl zq (by decide) (jba (by decide)) ?_;refine d38 ?_;refine d154 ?_;refine jbh rfl ?_;refine d14 ?_;refine jda ?_
         exact hnext _ _ _ _ _ (by omega) ⟨true,x,kk-1,0,wst1,sv1,rfl,rfl,rfl,rfl,by omega,hx,fun _=>⟨hww,hs⟩,fun _=>rfl,exU rfl⟩
        ·refine d103 ?_
         refine jam (v:= .int .i32 4) rfl zq (by decide) (jaP ((wdB ⟨false,false,true,nn⟩ (by show nn<390;omega)).and4.trans rfl)) ?_;refine jam (v:= .bool true) rfl zq (by decide) (jba (by decide)) ?_;refine d45 ?_;refine d37 ?_
         refine jam (v:= .int .i32 0) rfl zq (by decide) (jaP ((wdB ⟨false,false,true,nn⟩ (by show nn<390;omega)).and3.trans rfl)) ?_;refine jam (v:= .bool false) rfl zq (by decide) (jba (by decide)) ?_;refine d81 ?_
         refine jcw (v:= .int .i32 (nn:Int)) rfl rfl (.inr rfl) (jd8 (by decide) (wdB ⟨false,false,true,nn⟩ (by show nn<390;omega)).shr3) ?_;refine jam (v:= .bool false) rfl rfl (by decide) (jbd (decide_eq_false (by omega))) ?_;refine d65 ?_;refine d154 ?_
         refine jeW (fun D' s' h' l'=>D'=1∧s'= .w kn (.handed nn) .on z∧h=h'∧ ∃(ex:Bool) (del:Int),(∃U:Nat→Value,l'=((.pointer (some ⟨M.mu,0,none⟩))::vw8 U 1 ((.int .i32 del)::vw129 U 10 [])))∧(ex=false→2≤nn)∧del= -7-4*(b01 ex:Int)) ?_ ?_
         ·rintro _ _ _ _ ⟨rfl,rfl,rfl,ex,del,⟨U,rfl⟩,hex,hdel⟩;refine d134 ?_
          refine s_accept (ex:=ex) (m:=nn) (del:=del) jke rfl (by exact trivial) hex hdel hM (fun u=>jaW ?_)
          refine jaj ?_;refine jgW rfl ?_;exact jn40 _ _ _ _ ⟨rfl,rfl,rfl,exU rfl⟩
         ·intro jn36
          refine jce ?_;cases sv1
          ·refine d5 ?_;refine jmD rfl zq ?_;refine d129 ?_;refine d125 ?_;refine d5 ?_
           refine jam (v:= .int .i32 (-11)) rfl zq (by decide) (jh9 (by decide)) ?_;refine d14 ?_
           exact jn36 _ _ _ _ ⟨rfl,rfl,rfl,true,_,exU rfl,(fun e=>by cases e),by decide⟩
          ·refine d5 ?_;refine jmD rfl zq ?_;refine d81 ?_
           refine jcw (v:= .int .i32 (nn:Int)) rfl rfl (.inr rfl) (jd8 (by decide) (wdB ⟨false,false,true,nn⟩ (by show nn<390;omega)).shr3) ?_;refine jam (v:= .bool (decide ((nn:Int)=1))) rfl rfl (by decide) (jbd rfl) ?_;by_cases hn1:nn=1
           ·rw [decide_eq_true (show (nn:Int)=1 by omega)];refine jcI rfl zq ?_;refine d159 ?_;refine jam (v:= .int .i32 (-11)) rfl zq (by decide) (jh9 (by decide)) ?_;refine d14 ?_
            exact jn36 _ _ _ _ ⟨rfl,rfl,rfl,true,_,exU rfl,(fun e=>by cases e),by decide⟩
           ·rw [decide_eq_false (show¬(nn:Int)=1 by omega)];refine d65 ?_
            exact jn36 _ _ _ _ ⟨rfl,rfl,rfl,false,_,exU rfl,(fun _=>by omega),by decide⟩
       ·intro jn29
        cases sv
        ·refine d5 ?_;refine i_mv rfl zq ?_
         refine s_nano jmU jh5 rfl rfl (fun t2=>jaW ?_)
         refine i_mv rfl rfl ?_;refine jam (v:= .int .i64 (IntKind.i64.wrap (t2-wst1))) rfl rfl (by decide) (jh9 rfl) ?_;refine jam (v:= .bool (decide (IntKind.i64.wrap (t2-wst1)>1000000))) rfl rfl (by decide) (jdx rfl) ?_;refine jcI rfl zq ?_;refine d14 ?_;exact jn29 _ _ _ _ ⟨rfl,rfl,rfl,_,exU rfl⟩
        ·refine d5 ?_;refine d180 ?_;refine jbQ rfl zq ?_;refine d14 ?_
         exact jn29 _ _ _ _ ⟨rfl,rfl,rfl,_,exU rfl⟩
      ·intro jn27
       refine d19 ?_
       refine jam (v:= .bool (decide (wst=0))) rfl zq (by decide) (jbd rfl) ?_;refine jaj ?_;refine i_split (fun hc=>?_) (fun hc=>?_)
       ·refine jbh rfl ?_;refine s_nano jmU jh5 rfl zq (fun t1=>jaW ?_)
        refine d14 ?_
        exact jn27 _ _ _ _ ⟨rfl,rfl,rfl,_,exU rfl⟩
       ·refine jmC ?_;exact jn27 _ _ _ _ ⟨rfl,rfl,rfl,_,exU rfl⟩
     ·refine d21 ?_;refine d5 ?_;refine d13 ?_
      refine jc5 (quiet 179 (by decide)) rfl zq hM (fun x hx hwx=>jaW ?_)
      refine d14 ?_;refine jda ?_
      exact hnext _ _ _ _ _ (by omega) ⟨aw,x,kk-1,it,wst,sv,rfl,rfl,rfl,rfl,hit,hx,hwx,hsv,exU rfl⟩
   ·intro jn22
    refine jce ?_;obtain ⟨ol,ow,os,on⟩:=old
    replace ho:on≤384:=ho
    cases ol<;>cases os
    ·refine d5 ?_;refine d14 ?_;refine jce ?_;refine jce ?_
     cases aw
     ·obtain rfl:sv=false:=by cases sv with
       |true=>exact absurd (hsv rfl) (by simp)
       |false=>rfl
      refine d5 ?_
      refine jam (v:= .int .i32 0) rfl zq (by decide) (jaP ((wdB ⟨false,ow,false,on⟩ (by show on<390;omega)).and4.trans rfl)) ?_;refine jam (v:= .bool true) rfl zq (by decide) (jbd (by decide)) ?_;refine d159 ?_
      refine jam (v:= .int .i32 ((⟨true,ow,false,on⟩:Wd).val:Int)) rfl zq (by decide) (jhl ((wdB ⟨false,ow,false,on⟩ (by show on<390;omega)).or1)) ?_;refine d103 ?_
      refine jam (v:= .int .i32 0) rfl zq (by decide) (jaP ((wdB ⟨false,ow,false,on⟩ (by show on<390;omega)).and5.trans rfl)) ?_;refine jam (v:= .bool false) rfl zq (by decide) (jba (by decide)) ?_;refine d38 ?_;refine d37 ?_;refine d129 ?_;refine d155 ?_;refine d38 ?_
      exact jn22 _ _ _ _ ⟨rfl,rfl,rfl,⟨true,ow,false,on⟩,exU rfl,.inl ⟨rfl,rfl,by simp⟩⟩
     ·obtain rfl:ow=true:=(hwk rfl).1
      cases sv
      ·refine d5 ?_
       refine jam (v:= .int .i32 0) rfl zq (by decide) (jaP ((wdB ⟨false,true,false,on⟩ (by show on<390;omega)).and4.trans rfl)) ?_;refine jam (v:= .bool true) rfl zq (by decide) (jbd (by decide)) ?_;refine d159 ?_
       refine jam (v:= .int .i32 ((⟨true,true,false,on⟩:Wd).val:Int)) rfl zq (by decide) (jhl ((wdB ⟨false,true,false,on⟩ (by show on<390;omega)).or1)) ?_;refine d103 ?_
       refine jam (v:= .int .i32 0) rfl zq (by decide) (jaP ((wdB ⟨false,true,false,on⟩ (by show on<390;omega)).and5.trans rfl)) ?_;refine jam (v:= .bool false) rfl zq (by decide) (jba (by decide)) ?_;refine d38 ?_;refine d37 ?_;refine d129 ?_;refine d155 ?_;refine d45 ?_;refine d37 ?_
       refine jam (v:= .int .i32 2) rfl zq (by decide) (jaP ((wdB ⟨true,true,false,on⟩ (by show on<390;omega)).and2.trans rfl)) ?_;refine jam (v:= .bool false) rfl zq (by decide) (jbd (by decide)) ?_;refine d38 ?_;refine d5 ?_
       refine jam (v:= .int .i32 ((⟨true,false,false,on⟩:Wd).val:Int)) rfl zq (by decide) (jjJ ((wdB ⟨true,true,false,on⟩ (by show on<390;omega)).clr2)) ?_;refine d14 ?_
       exact jn22 _ _ _ _ ⟨rfl,rfl,rfl,⟨true,false,false,on⟩,exU rfl,.inl ⟨rfl,rfl,by simp⟩⟩
      ·refine d5 ?_
       refine jam (v:= .int .i32 0) rfl zq (by decide) (jaP ((wdB ⟨false,true,false,on⟩ (by show on<390;omega)).and4.trans rfl)) ?_;refine jam (v:= .bool true) rfl zq (by decide) (jbd (by decide)) ?_;refine d159 ?_
       refine jam (v:= .int .i32 ((⟨true,true,false,on⟩:Wd).val:Int)) rfl zq (by decide) (jhl ((wdB ⟨false,true,false,on⟩ (by show on<390;omega)).or1)) ?_;refine d103 ?_
       refine jam (v:= .int .i32 0) rfl zq (by decide) (jaP ((wdB ⟨false,true,false,on⟩ (by show on<390;omega)).and5.trans rfl)) ?_;refine jam (v:= .bool false) rfl zq (by decide) (jba (by decide)) ?_;refine d38 ?_;refine d37 ?_;refine d81 ?_
       refine jam (v:= .int .i32 0) rfl rfl (by decide) (jaP ((wdB ⟨false,true,false,on⟩ (by show on<390;omega)).and1.trans rfl)) ?_;refine jam (v:= .bool false) rfl rfl (by decide) (jba (by decide)) ?_;refine jbQ rfl zq ?_;refine d38 ?_;refine d37 ?_;refine d45 ?_;refine d37 ?_;refine jam (v:= .int .i32 2) rfl zq (by decide) (jaP ((wdB ⟨true,true,false,on⟩ (by show on<390;omega)).and2.trans rfl)) ?_;refine jam (v:= .bool false) rfl zq (by decide) (jbd (by decide)) ?_;refine d38 ?_;refine d5 ?_
       refine jam (v:= .int .i32 ((⟨true,false,false,on⟩:Wd).val:Int)) rfl zq (by decide) (jjJ ((wdB ⟨true,true,false,on⟩ (by show on<390;omega)).clr2)) ?_;refine d14 ?_
       exact jn22 _ _ _ _ ⟨rfl,rfl,rfl,⟨true,false,false,on⟩,exU rfl,.inl ⟨rfl,rfl,by simp⟩⟩
    ·refine d5 ?_;refine d14 ?_;refine jce ?_;refine jce ?_
     obtain rfl:aw=false:=by cases aw with
      |true=>exact absurd (hwk rfl).2 (by simp)
      |false=>rfl
     obtain rfl:sv=false:=by cases sv with
      |true=>exact absurd (hsv rfl) (by simp)
      |false=>rfl
     refine d5 ?_
     refine jam (v:= .int .i32 4) rfl zq (by decide) (jaP ((wdB ⟨false,ow,true,on⟩ (by show on<390;omega)).and4.trans rfl)) ?_;refine jam (v:= .bool false) rfl zq (by decide) (jbd (by decide)) ?_;refine d38 ?_;refine d37 ?_
     refine jam (v:= .int .i32 4) rfl zq (by decide) (jaP ((wdB ⟨false,ow,true,on⟩ (by show on<390;omega)).and5.trans rfl)) ?_;refine jam (v:= .bool true) rfl zq (by decide) (jba (by decide)) ?_;refine d159 ?_
     refine jam (v:= .int .i32 ((⟨false,ow,true,on+1⟩:Wd).val:Int)) rfl zq (by decide) (jd9 ((wdB ⟨false,ow,true,on⟩ (by show on<390;omega)).add8)) ?_;refine d103 ?_;refine d129 ?_;refine d155 ?_;refine d38 ?_
     exact jn22 _ _ _ _ ⟨rfl,rfl,rfl,⟨false,ow,true,on+1⟩,exU rfl,.inr ⟨by simp,by simp⟩⟩
    ·refine d5 ?_;refine d14 ?_;refine jce ?_;refine jce ?_
     cases aw
     ·obtain rfl:sv=false:=by cases sv with
       |true=>exact absurd (hsv rfl) (by simp)
       |false=>rfl
      refine d5 ?_
      refine jam (v:= .int .i32 0) rfl zq (by decide) (jaP ((wdB ⟨true,ow,false,on⟩ (by show on<390;omega)).and4.trans rfl)) ?_;refine jam (v:= .bool true) rfl zq (by decide) (jbd (by decide)) ?_;refine d159 ?_
      refine jam (v:= .int .i32 ((⟨true,ow,false,on⟩:Wd).val:Int)) rfl zq (by decide) (jhl ((wdB ⟨true,ow,false,on⟩ (by show on<390;omega)).or1)) ?_;refine d103 ?_
      refine jam (v:= .int .i32 1) rfl zq (by decide) (jaP ((wdB ⟨true,ow,false,on⟩ (by show on<390;omega)).and5.trans rfl)) ?_;refine jam (v:= .bool true) rfl zq (by decide) (jba (by decide)) ?_;refine d159 ?_
      refine jam (v:= .int .i32 ((⟨true,ow,false,on+1⟩:Wd).val:Int)) rfl zq (by decide) (jd9 ((wdB ⟨true,ow,false,on⟩ (by show on<390;omega)).add8)) ?_;refine d103 ?_;refine d129 ?_;refine d155 ?_;refine d38 ?_
      exact jn22 _ _ _ _ ⟨rfl,rfl,rfl,⟨true,ow,false,on+1⟩,exU rfl,.inr ⟨by simp,by simp⟩⟩
     ·obtain rfl:ow=true:=(hwk rfl).1
      cases sv
      ·refine d5 ?_
       refine jam (v:= .int .i32 0) rfl zq (by decide) (jaP ((wdB ⟨true,true,false,on⟩ (by show on<390;omega)).and4.trans rfl)) ?_;refine jam (v:= .bool true) rfl zq (by decide) (jbd (by decide)) ?_;refine d159 ?_
       refine jam (v:= .int .i32 ((⟨true,true,false,on⟩:Wd).val:Int)) rfl zq (by decide) (jhl ((wdB ⟨true,true,false,on⟩ (by show on<390;omega)).or1)) ?_;refine d103 ?_
       refine jam (v:= .int .i32 1) rfl zq (by decide) (jaP ((wdB ⟨true,true,false,on⟩ (by show on<390;omega)).and5.trans rfl)) ?_;refine jam (v:= .bool true) rfl zq (by decide) (jba (by decide)) ?_;refine d159 ?_
       refine jam (v:= .int .i32 ((⟨true,true,false,on+1⟩:Wd).val:Int)) rfl zq (by decide) (jd9 ((wdB ⟨true,true,false,on⟩ (by show on<390;omega)).add8)) ?_;refine d103 ?_;refine d129 ?_;refine d155 ?_;refine d45 ?_;refine d37 ?_
       refine jam (v:= .int .i32 2) rfl zq (by decide) (jaP ((wdB ⟨true,true,false,on+1⟩ (by show on+1<390;omega)).and2.trans rfl)) ?_;refine jam (v:= .bool false) rfl zq (by decide) (jbd (by decide)) ?_;refine d38 ?_;refine d5 ?_
       refine jam (v:= .int .i32 ((⟨true,false,false,on+1⟩:Wd).val:Int)) rfl zq (by decide) (jjJ ((wdB ⟨true,true,false,on+1⟩ (by show on+1<390;omega)).clr2)) ?_;refine d14 ?_
       exact jn22 _ _ _ _ ⟨rfl,rfl,rfl,⟨true,false,false,on+1⟩,exU rfl,.inr ⟨by simp,by simp⟩⟩
      ·refine d5 ?_
       refine jam (v:= .int .i32 0) rfl zq (by decide) (jaP ((wdB ⟨true,true,false,on⟩ (by show on<390;omega)).and4.trans rfl)) ?_;refine jam (v:= .bool true) rfl zq (by decide) (jbd (by decide)) ?_;refine d159 ?_
       refine jam (v:= .int .i32 ((⟨true,true,false,on⟩:Wd).val:Int)) rfl zq (by decide) (jhl ((wdB ⟨true,true,false,on⟩ (by show on<390;omega)).or1)) ?_;refine d103 ?_
       refine jam (v:= .int .i32 1) rfl zq (by decide) (jaP ((wdB ⟨true,true,false,on⟩ (by show on<390;omega)).and5.trans rfl)) ?_;refine jam (v:= .bool true) rfl zq (by decide) (jba (by decide)) ?_;refine d159 ?_
       refine jam (v:= .int .i32 ((⟨true,true,false,on+1⟩:Wd).val:Int)) rfl zq (by decide) (jd9 ((wdB ⟨true,true,false,on⟩ (by show on<390;omega)).add8)) ?_;refine d103 ?_;refine d81 ?_
       refine jam (v:= .int .i32 1) rfl rfl (by decide) (jaP ((wdB ⟨true,true,false,on⟩ (by show on<390;omega)).and1.trans rfl)) ?_;refine jam (v:= .bool true) rfl rfl (by decide) (jba (by decide)) ?_;refine d125 ?_;refine d5 ?_
       refine jam (v:= .int .i32 ((⟨true,true,true,on+1⟩:Wd).val:Int)) rfl zq (by decide) (jhl ((wdB ⟨true,true,false,on+1⟩ (by show on+1<390;omega)).or4)) ?_;refine d103 ?_;refine d45 ?_;refine d37 ?_
       refine jam (v:= .int .i32 2) rfl zq (by decide) (jaP ((wdB ⟨true,true,true,on+1⟩ (by show on+1<390;omega)).and2.trans rfl)) ?_;refine jam (v:= .bool false) rfl zq (by decide) (jbd (by decide)) ?_;refine d38 ?_;refine d5 ?_
       refine jam (v:= .int .i32 ((⟨true,false,true,on+1⟩:Wd).val:Int)) rfl zq (by decide) (jjJ ((wdB ⟨true,true,true,on+1⟩ (by show on+1<390;omega)).clr2)) ?_;refine d14 ?_
       exact jn22 _ _ _ _ ⟨rfl,rfl,rfl,⟨true,false,true,on+1⟩,exU rfl,.inr ⟨by simp,by simp⟩⟩
    ·refine d5 ?_;refine d14 ?_;refine jce ?_;refine jce ?_
     obtain rfl:aw=false:=by cases aw with
      |true=>exact absurd (hwk rfl).2 (by simp)
      |false=>rfl
     obtain rfl:sv=false:=by cases sv with
      |true=>exact absurd (hsv rfl) (by simp)
      |false=>rfl
     refine d5 ?_
     refine jam (v:= .int .i32 4) rfl zq (by decide) (jaP ((wdB ⟨true,ow,true,on⟩ (by show on<390;omega)).and4.trans rfl)) ?_;refine jam (v:= .bool false) rfl zq (by decide) (jbd (by decide)) ?_;refine d38 ?_;refine d37 ?_
     refine jam (v:= .int .i32 5) rfl zq (by decide) (jaP ((wdB ⟨true,ow,true,on⟩ (by show on<390;omega)).and5.trans rfl)) ?_;refine jam (v:= .bool true) rfl zq (by decide) (jba (by decide)) ?_;refine d159 ?_
     refine jam (v:= .int .i32 ((⟨true,ow,true,on+1⟩:Wd).val:Int)) rfl zq (by decide) (jd9 ((wdB ⟨true,ow,true,on⟩ (by show on<390;omega)).add8)) ?_;refine d103 ?_;refine d129 ?_;refine d155 ?_;refine d38 ?_
     exact jn22 _ _ _ _ ⟨rfl,rfl,rfl,⟨true,ow,true,on+1⟩,exU rfl,.inr ⟨by simp,by simp⟩⟩
  ·intro jn11
   refine d19 ?_
   refine jam (v:= .int .i32 (b01 old.l+4*b01 old.s)) rfl zq (by decide) (jaP (wdB old (by omega)).and5) ?_;obtain ⟨ol,ow,os,on⟩:=old
   replace ho:on≤384:=ho
   refine jam (v:= .bool (ol&&!os)) rfl zq (by decide) (jbd (by cases ol<;>cases os<;>rfl)) ?_;cases hsp:ol&&!os
   ·refine d58 ?_;refine d65 ?_
    exact jn11 _ _ _ _ ⟨rfl,rfl,rfl,exU rfl⟩
   ·obtain ⟨rfl,rfl⟩:ol=true∧os=false:=by cases ol<;>cases os<;>simp at hsp⊢
    refine d81 ?_
    refine s_spin jld rfl rfl (fun t ht=>jaW ?_)
    cases t
    ·refine jbQ rfl zq ?_;refine d38 ?_;exact jn11 _ _ _ _ ⟨rfl,rfl,rfl,exU rfl⟩
    ·have hit4:=ht rfl
     refine d125 ?_
     refine jeW (fun D' s' h' l'=>D'=1∧h=h'∧((s'= .w kn (.try_ aw ⟨true,ow,false,on⟩ kk) .on z∧ ∃U:Nat→Value,l'=((.pointer (some ⟨M.mu,0,none⟩))::(U 1)::(.int .i64 wst)::(.bool sv)::(.bool aw)::(.int .i64 (it:Int))::(.int .i32 ((⟨true,ow,false,on⟩:Wd).val:Int))::jlm U 7 []))∨(0<kk∧s'= .w kn (.look true (kk-1)) .on z∧ ∃U:Nat→Value,l'=((.pointer (some ⟨M.mu,0,none⟩))::(U 1)::(.int .i64 wst)::(.bool sv)::(.bool true)::(.int .i64 (it:Int))::(.int .i32 ((⟨true,ow,false,on⟩:Wd).val:Int))::jlm U 7 []))∨(0<kk∧aw=false∧s'= .w kn (.look false (kk-1)) .on z∧ ∃U:Nat→Value,l'=((.pointer (some ⟨M.mu,0,none⟩))::(U 1)::(.int .i64 wst)::(.bool sv)::(.bool false)::(.int .i64 (it:Int))::(.int .i32 ((⟨true,ow,false,on⟩:Wd).val:Int))::jlm U 7 [])))) ?_ ?_
     ·rintro _ _ _ _ ⟨rfl,rfl,⟨rfl,U,rfl⟩|⟨hk,rfl,U,rfl⟩|⟨hk,rfl,rfl,U,rfl⟩⟩
      ·refine d60 ?_
       refine jk3 jga rfl zq rfl ?_;refine jaj ?_;refine d19 ?_;refine jam (v:= .int .i64 ((it+1:Nat):Int)) rfl zq (by decide) (jd9 (by rw [show (it:Int)+1=((it+1:Nat):Int) by omega];exact jdf (by unfold In64;omega))) ?_;refine d14 ?_;refine d102 ?_
       refine jlI (quiet 179 (by decide)) rfl zq hM (fun x hx hwx=>jaW ?_)
       refine d14 ?_;refine jgW rfl ?_
       exact hnext _ _ _ _ _ (by omega) ⟨aw,x,kk,it+1,wst,sv,rfl,rfl,rfl,rfl,by omega,hx,hwx,hsv,exU rfl⟩
      ·refine d60 ?_
       refine jk3 jga rfl zq rfl ?_;refine jaj ?_;refine d19 ?_;refine jam (v:= .int .i64 ((it+1:Nat):Int)) rfl zq (by decide) (jd9 (by rw [show (it:Int)+1=((it+1:Nat):Int) by omega];exact jdf (by unfold In64;omega))) ?_;refine d14 ?_;refine d102 ?_
       refine jc5 (quiet 179 (by decide)) rfl zq hM (fun x hx hwx=>jaW ?_)
       refine d14 ?_;refine jgW rfl ?_
       exact hnext _ _ _ _ _ (by omega) ⟨true,x,kk-1,it+1,wst,sv,rfl,rfl,rfl,rfl,by omega,hx,hwx,fun _=>rfl,exU rfl⟩
      ·refine d60 ?_
       refine jk3 jga rfl zq rfl ?_;refine jaj ?_;refine d19 ?_;refine jam (v:= .int .i64 ((it+1:Nat):Int)) rfl zq (by decide) (jd9 (by rw [show (it:Int)+1=((it+1:Nat):Int) by omega];exact jdf (by unfold In64;omega))) ?_;refine d14 ?_;refine d102 ?_
       refine jc5 (quiet 179 (by decide)) rfl zq hM (fun x hx hwx=>jaW ?_)
       refine d14 ?_;refine jgW rfl ?_
       exact hnext _ _ _ _ _ (by omega) ⟨false,x,kk-1,it+1,wst,sv,rfl,rfl,rfl,rfl,by omega,hx,hwx,hsv,exU rfl⟩
     ·intro jn8
      refine jce ?_;cases aw
      ·cases ow
       ·refine d5 ?_;refine jmD rfl zq ?_;refine d81 ?_
        refine jam (v:= .int .i32 0) rfl rfl (by decide) (jaP ((wdB ⟨true,false,false,on⟩ (by show on<390;omega)).and2.trans rfl)) ?_;refine jam (v:= .bool true) rfl rfl (by decide) (jbd (by decide)) ?_;refine jbQ rfl zq ?_;refine d81 ?_;refine jcw (v:= .int .i32 (on:Int)) rfl rfl (.inr rfl) (jd8 (by decide) (wdB ⟨true,false,false,on⟩ (by show on<390;omega)).shr3) ?_;refine jam (v:= .bool (decide ((on:Int)≠0))) rfl rfl (by decide) (jba rfl) ?_;by_cases hon:on=0
        ·rw [decide_eq_false (show¬(on:Int)≠0 by omega)];refine jbQ rfl zq ?_;refine d180 ?_;refine d24 ?_;refine jjc rfl rfl ?_;refine d65 ?_;exact jn8 _ _ _ _ ⟨rfl,rfl,.inl ⟨rfl,exU rfl⟩⟩
        ·rw [decide_eq_true (show (on:Int)≠0 by omega)];refine jbQ rfl zq ?_;refine d81 ?_;refine jgV rfl rfl ?_;(first|refine i_fa0 rfl rfl ?_|refine i_fa rfl rfl ?_);refine i_mv rfl rfl ?_;refine i_mv rfl rfl ?_;refine jam (v:= .int .i32 ((⟨true,true,false,on⟩:Wd).val:Int)) rfl rfl (by decide) (jhl ((wdB ⟨true,false,false,on⟩ (by show on<390;omega)).or2)) ?_;refine jlL (old:=⟨true,false,false,on⟩) (new:=⟨true,true,false,on⟩) jeK rfl rfl rfl rfl rfl rfl (fun hk=>jaW ?_) (fun hk=>jaW ?_)
         ·refine d125 ?_;refine jbh rfl ?_;refine d14 ?_
          exact jn8 _ _ _ _ ⟨rfl,rfl,.inr (.inl ⟨hk,rfl,exU rfl⟩)⟩
         ·refine jbQ rfl zq ?_;refine d38 ?_;exact jn8 _ _ _ _ ⟨rfl,rfl,.inr (.inr ⟨hk,rfl,rfl,exU rfl⟩)⟩
       ·refine d5 ?_;refine jmD rfl zq ?_;refine d81 ?_
        refine jam (v:= .int .i32 2) rfl rfl (by decide) (jaP ((wdB ⟨true,true,false,on⟩ (by show on<390;omega)).and2.trans rfl)) ?_;refine jam (v:= .bool false) rfl rfl (by decide) (jbd (by decide)) ?_;refine jbQ rfl zq ?_;refine d129 ?_;refine jcI rfl zq ?_;refine d180 ?_;refine d24 ?_;refine jjc rfl rfl ?_;refine d65 ?_;exact jn8 _ _ _ _ ⟨rfl,rfl,.inl ⟨rfl,exU rfl⟩⟩
      ·refine d5 ?_;refine jmD rfl zq ?_;refine d129 ?_;refine jcI rfl zq ?_;refine d129 ?_;refine jcI rfl zq ?_;refine d180 ?_;refine d24 ?_;refine jjc rfl rfl ?_;refine d65 ?_
       exact jn8 _ _ _ _ ⟨rfl,rfl,.inl ⟨rfl,exU rfl⟩⟩
end Go.Proofs
namespace Go.Proofs
open Go.Lo
open Go.Conc (G dcall)
set_option maxRecDepth 100000
set_option synthInstance.maxSize 100000
set_option synthInstance.maxHeartbeats 1000000
set_option maxHeartbeats 4000000
variable {B:Array Obj} {M:Meet} {Y:Sy Tryz.prog B M.pro} {h:Hp} {kn:Nat} {z:List Nat}
theorem jml (hM:M.n≤64) {c:Frame} {cs:List Frame} (hitc: ∀ks Pool,M.PL ks Pool→kn∉ks→(∀k'∈ks,k'<M.n∧M.hit k'=true)→ks.Nodup→(Y.im 0 (.w kn (.hold 1) .on ks) (h++Pool)).R (G (c.finish (.tuple #[])) cs)):
  (Y.im 0 (.w kn .out .on z) h).R (G (Frame.enter Tryz.prog 145 [.pointer (some ⟨M.mu,0,none⟩)].toArray .normal) (c::cs)):=by
 refine jbX Tryz.func145 rfl rfl (l:=(.pointer (some ⟨M.mu,0,none⟩))::uu12) rfl ?_;refine d60 ?_
 refine jev jdd rfl zq ?_
 refine jaj ?_;refine d37 ?_;refine d13 ?_;refine jlM jeK rfl zq (jaW ?_) (fun kk=>jaW ?_)
 ·refine d45 ?_;refine jce ?_;refine i_if ?_;refine d60 ?_
  refine jdM jbs rfl zq ?_
  refine jaj ?_;refine d5 ?_;refine jfa rfl zq ⟨.inl rfl,.inl rfl⟩ jhf.1 jhf.2.1 jhf.2.2 ?_
  refine s_take jdU rfl zq (fun ks Pool q1 q2 q3 q4=>?_)
  refine jaj ?_;refine jft rfl ?_;refine jaK rfl Tryz.func145 (jas rfl) ?_;exact hitc ks Pool q1 q2 q3 q4
 ·refine d38 ?_;refine d5 ?_
  refine jek rfl zq (by kernel_rfl) (jkR hM (fun ks Pool q1 q2 q3 q4=>?_));refine jdq rfl ?_;refine d131 ?_;refine jaK rfl Tryz.func145 (jas rfl) ?_;exact hitc ks Pool q1 q2 q3 q4
theorem lock_c (hM:M.n≤64) {c:Frame} {cs:List Frame} (hitc: ∀ks Pool,M.PL ks Pool→kn∉ks→(∀k'∈ks,k'<M.n∧M.hit k'=true)→ks.Nodup→(Y.im 0 (.w kn (.hold 1) .on ks) (h++Pool)).R (G (c.finish (.tuple #[])) cs)):
  (Y.im 0 (.w kn .out .on z) h).R (G (Frame.enter Tryz.prog 94 [.pointer (some ⟨M.mu,0,none⟩)].toArray .normal) (c::cs)):=by
 refine jbX Tryz.func94 rfl rfl (l:=[.pointer (some ⟨M.mu,0,none⟩),undef,undef,undef,undef,undef]) rfl ?_;refine d5 ?_;refine d13 ?_
 refine jek rfl zq (by kernel_rfl) (jml hM (fun ks Pool q1 q2 q3 q4=>?_));refine jdq rfl ?_;refine d131 ?_;refine jaK rfl Tryz.func94 (jas rfl) ?_;exact hitc ks Pool q1 q2 q3 q4
theorem jhI (hM:M.n≤64) {c:Frame} {cs:List Frame} {x:Wd} {kk:Nat} (hl:x.l=false) (hn:x.n≤384) (hitc:(Y.im 1 (.w kn .fin .on z) h).R (G (c.finish (.tuple #[])) cs)):
  (Y.im 1 (.w kn (.behind x kk) .on z) h).R (G (Frame.enter Tryz.prog 181 [.pointer (some ⟨M.mu,0,none⟩),.int .i32 (x.val:Int)].toArray .normal) (c::cs)):=by
 refine jbX Tryz.func181 rfl rfl (l:=(.pointer (some ⟨M.mu,0,none⟩))::(.int .i32 (x.val:Int))::uu41) rfl ?_;refine d37 ?_
 refine jam (v:= .int .i32 (IntKind.i32.wrap ((x.val:Int)+1))) rfl zq (by decide) (jd9 rfl) ?_;refine jam (v:= .int .i32 1) rfl zq (by decide) (jaP ((wdB x (by omega)).odd hl)) ?_;refine jam (v:= .bool false) rfl zq (by decide) (jbd (by decide)) ?_;refine d38 ?_;refine d19 ?_
 refine jam (v:= .int .i32 (4*b01 x.s)) rfl zq (by decide) (jaP ((wdB x (by omega)).and4)) ?_;refine jam (v:= .bool (!x.s)) rfl zq (by decide) (jbd (by cases x.s<;>rfl)) ?_;cases hs:x.s
 ·have hb:LS.behind x kk=LS.found x kk:=by unfold LS.behind LS.found;rw [hs,hl];simp
  rw [hb];refine d45 ?_;refine d19 ?_;refine d14 ?_;refine jdB ?_
  refine jjz (fun nn D' s' h' l'=> ∃(x:Wd) (kk:Nat),D'=1∧s'= .w kn (LS.found x kk) .on z∧h=h'∧nn=kk*1∧x.n≤384∧ ∃U:Nat→Value,l'=((.pointer (some ⟨M.mu,0,none⟩))::(U 1)::(U 2)::(U 3)::(.int .i32 (x.val:Int))::vw38 U 5 [])) _ ⟨x,kk,rfl,rfl,rfl,rfl,hn,exU rfl⟩ ?_
  clear hb hs hl hn
  rintro nn _ _ _ _ ⟨x,kk,rfl,rfl,rfl,rfl,hn,U,rfl⟩ hnext;refine jdB ?_;refine jce ?_;refine jce ?_;by_cases hc:x.n=0∨x.l=true∨x.w=true∨x.s=true
  ·rw [show LS.found x kk= .fin by unfold LS.found;rw [if_pos hc]];refine d5 ?_
   refine jcw (v:= .int .i32 (x.n:Int)) rfl zq (.inr rfl) (jd8 (by decide) (wdB x (by omega)).shr3) ?_;refine jam (v:= .bool (decide ((x.n:Int)=0))) rfl zq (by decide) (jbd rfl) ?_;by_cases hn0:x.n=0
   ·rw [decide_eq_true (show (x.n:Int)=0 by omega)];refine d129 ?_;refine d125 ?_;refine jft rfl ?_
    refine jaK rfl Tryz.func181 (jas rfl) ?_;exact hitc
   ·rw [decide_eq_false (show¬(x.n:Int)=0 by omega)];refine d81 ?_
    refine jam (v:= .int .i32 (b01 x.l+2*b01 x.w+4*b01 x.s)) rfl rfl (by decide) (jaP ((wdB x (by omega)).and7)) ?_;refine jam (v:= .bool true) rfl rfl (by decide) (jba (decide_eq_true (by rcases hc with e|e|e|e<;>first|omega|(simp only [e,b01_true];omega)))) ?_;refine jcI rfl zq ?_;refine d45 ?_;refine jft rfl ?_;refine jaK rfl Tryz.func181 (jas rfl) ?_;exact hitc
  ·obtain ⟨n,rfl⟩: ∃n,x=⟨false,false,false,n⟩:=by
    obtain ⟨l,w,s,n⟩:=x
    cases l<;>cases w<;>cases s<;>simp at hc⊢
   replace hn:n≤384:=hn
   have hn0:n≠0:=fun e=>hc (.inl e)
   rw [show LS.found ⟨false,false,false,n⟩ kk= .unl ⟨false,false,false,n⟩ kk by unfold LS.found;rw [if_neg hc]];refine d5 ?_
   refine jcw (v:= .int .i32 (n:Int)) rfl zq (.inr rfl) (jd8 (by decide) (wdB ⟨false,false,false,n⟩ (by show n<390;omega)).shr3) ?_;refine jam (v:= .bool false) rfl zq (by decide) (jbd (decide_eq_false (by omega))) ?_;refine d81 ?_
   refine jam (v:= .int .i32 0) rfl rfl (by decide) (jaP ((wdB ⟨false,false,false,n⟩ (by show n<390;omega)).and7.trans rfl)) ?_;refine jam (v:= .bool false) rfl rfl (by decide) (jba (by decide)) ?_;refine d65 ?_;refine d19 ?_
   refine jam (v:= .int .i32 ((⟨false,false,false,n-1⟩:Wd).val:Int)) rfl zq (by decide) (jh9 ((wdB ⟨false,false,false,n⟩ (by show n<390;omega)).sub8 hn0)) ?_;refine jam (v:= .int .i32 ((⟨false,true,false,n-1⟩:Wd).val:Int)) rfl zq (by decide) (jhl ((wdB ⟨false,false,false,n-1⟩ (by show n-1<390;omega)).or2)) ?_;refine d103 ?_;refine d13 ?_;refine i_mv rfl zq ?_;refine i_mv rfl zq ?_
   refine jlJ (old:=⟨false,false,false,n⟩) (new:=⟨false,true,false,n-1⟩) jeK rfl zq rfl (jaW ?_) (fun hk=>jaW ?_)
   ·refine d45 ?_;refine d102 ?_
    refine jlF jmT rfl zq hM (jaW ?_)
    refine jaj ?_;refine jft rfl ?_;refine jaK rfl Tryz.func181 (jas rfl) ?_;exact hitc
   ·refine d38 ?_;refine d5 ?_;refine d13 ?_
    refine jkx (quiet 181 (by decide)) rfl zq hM (fun x hx=>jaW ?_)
    refine d14 ?_;refine jda ?_
    exact hnext _ _ _ _ _ (by omega) ⟨x,kk-1,rfl,rfl,rfl,rfl,hx,exU rfl⟩
 ·have hb:LS.behind x kk= .post:=by unfold LS.behind;rw [hs];rfl
  rw [hb];refine d21 ?_;refine d5 ?_;refine d13 ?_
  refine jlF jmT rfl zq hM (jaW ?_)
  refine d131 ?_
  refine jaK rfl Tryz.func181 (jas rfl) ?_;exact hitc
theorem jiJ (hM:M.n≤64) {c:Frame} {cs:List Frame} {hr hp:Hp} (eh:Weak B h (hr++hp)) (hh:M.hit kn=true) (hP:M.PL (z++[kn]) hp) (hitc:(Y.im 0 (.w kn .fin .on z) hr).R (G (c.finish (.tuple #[])) cs)):
  (Y.im 0 (.w kn (.hold 1) .on z) h).R (G (Frame.enter Tryz.prog 146 [.pointer (some ⟨M.mu,0,none⟩)].toArray .normal) (c::cs)):=by
 refine jbX Tryz.func146 rfl rfl (l:=(.pointer (some ⟨M.mu,0,none⟩))::uu20) rfl ?_;refine jce ?_;refine i_if ?_;refine d102 ?_;refine jky (quiet 146 (by decide)) rfl zq (fun u=>jaW ?_)
 refine jaj ?_;refine d19 ?_;refine jfa rfl zq ⟨.inl rfl,.inl rfl⟩ jhf.1 jhf.2.1 jhf.2.2 ?_
 refine s_put jkc rfl zq eh hh hP ?_
 refine jaj ?_;refine jbh rfl ?_;refine jev jdd rfl zq ?_
 refine jaj ?_;refine d102 ?_;refine s_give jke rfl zq hM (fun x kk hl hn=>jaW ?_)
 refine d103 ?_
 refine jam (v:= .bool (decide ((x.val:Int)≠0))) rfl zq (by decide) (jba rfl) ?_;by_cases hx:x.val=0
 ·rw [decide_eq_false (show¬(x.val:Int)≠0 by omega)];rw [show LS.behind x kk= .fin by rw [show x=⟨false,false,false,0⟩ from Wd.inj hx];rfl];refine d38 ?_;refine jbh rfl ?_
  refine jdM jbs rfl zq ?_
  refine d131 ?_
  refine jaK rfl Tryz.func146 (jas rfl) ?_;exact hitc
 ·rw [decide_eq_true (show (x.val:Int)≠0 by omega)];refine d159 ?_;refine i_mv rfl zq ?_
  refine jek rfl zq (by kernel_rfl) (jhI hM hl hn ?_);refine jdq rfl ?_;refine jaj ?_;refine jbh rfl ?_;refine jdM jbs rfl zq ?_
  refine d131 ?_
  refine jaK rfl Tryz.func146 (jas rfl) ?_;exact hitc
theorem jln (hM:M.n≤64) {b:Frame} {l:List Value} {ds:List Deferred} {todo:List Item} {cs:List Frame} {hr hp:Hp} (eh:Weak B h (hr++hp)) (hh:M.hit kn=true) (hP:M.PL (z++[kn]) hp) (hitc:(Y.im 0 (.w kn .fin .on z) hr).R (Gret b l ds todo cs)):
  (Y.im 0 (.w kn (.hold 1) .on z) h).R (Gret b l (dcall 95 [.pointer (some ⟨M.mu,0,none⟩)].toArray::ds) todo cs):=by
 refine jj0 Tryz.func95 (by kernel_rfl) rfl rfl (l1:=[.pointer (some ⟨M.mu,0,none⟩),undef,undef,undef,undef,undef]) rfl ?_;refine d5 ?_;refine d13 ?_
 refine jek rfl zq (by kernel_rfl) (jiJ hM eh hh hP ?_);refine jdq rfl ?_;refine d131 ?_;refine jj1 rfl Tryz.func95 rfl rfl ?_;exact hitc
theorem k_putQ {D:Nat} {b:Frame} {l l':List Value} {ds:List Deferred} {k:List Item} {cs:List Frame} {d:Option Tmp} {v:Value} [p:PutV l d v l'] (n:(Im.quit Tryz.prog D).R (Gr b l' ds k cs)):(Im.quit Tryz.prog D).R (Gr b (put l d v) ds k cs):=by rw [p.eq];exact n
theorem addK_c {i:Nat} (h0:i≠0) (hM:M.n≤64) {c:Frame} {cs:List Frame} (hq:(Im.quit Tryz.prog 0).R (G (c.finish (.tuple #[])) cs)):
  ((Sy.kid Tryz.prog B M.pro i).im 0 (.w kn .fin .on z) h).R (G (Frame.enter Tryz.prog 90 [.pointer (some ⟨M.wg,0,none⟩),.int .i64 (-1)].toArray .normal) (c::cs)):=by
 refine jbX Tryz.func90 rfl rfl (l:=(.pointer (some ⟨M.wg,0,none⟩))::(.int .i64 (-1))::uu115) rfl ?_;refine jce ?_;refine i_if ?_;refine d37 ?_;refine jam (v:= .bool true) rfl zq (by decide) (jgO (by decide)) ?_;refine d159 ?_
 refine jfa rfl zq ⟨.inr rfl,.inl rfl⟩ jhe.1 jhe.2.1 jhe.2.2 ?_
 refine s_bye h0 jkc rfl zq ?_
 refine jaj ?_;refine d60 ?_;refine jev jdd rfl zq ?_
 refine jaj ?_;refine jbh rfl ?_;refine jht (args:=[]) rfl zq rfl (by decide) ?_;refine jaj ?_;refine d154 ?_;refine jce ?_;refine d60 ?_;refine jk3 jiv rfl zq rfl ?_;refine d38 ?_;refine d134 ?_
 refine jdb (n':=18446744073709551615) rfl zq (by kernel_rfl) (by decide) ?_;refine jcw (v:= .int .u64 18446744069414584320) rfl zq (.inl rfl) (op_shl (by decide) (by decide)) ?_;refine jek rfl zq (by kernel_rfl) ?_;refine jbX Tryz.func139 rfl rfl (l:=(.pointer (some ⟨M.wg,0,none⟩))::(.int .u64 18446744069414584320)::uu8) rfl ?_;refine d154 ?_;refine d134 ?_
 refine s_wgSub h0 (by omega) hM jkd rfl zq (fun v wt hv70 hwt hvw=>?_) (jaW ?_)
 ·show (Im.quit Tryz.prog 1).R _
  refine k_putQ ?_;refine d165 ?_
  refine jaK rfl Tryz.func139 (ja2 rfl) ?_;refine jdq rfl ?_;refine d103 ?_;refine jam (v:= .int .u64 0) rfl zq (by decide) (jaP ((wgB v wt hv70 hwt).flag)) ?_;refine jam (v:= .bool false) rfl zq (by decide) (jba (by decide)) ?_;refine d58 ?_;refine d65 ?_;refine d19 ?_
  refine jcw (v:= .int .u64 (v:Int)) rfl zq (.inr rfl) (jd8 (by decide) (wgB v wt hv70 hwt).hi) ?_;refine jdb rfl zq (by kernel_rfl) (wgB v wt hv70 hwt).hi32 ?_;refine d14 ?_;refine d19 ?_
  refine jam (v:= .int .u64 (wt:Int)) rfl zq (by decide) (jaP ((wgB v wt hv70 hwt).lo)) ?_;refine jdb rfl zq (by kernel_rfl) (wgB v wt hv70 hwt).lo32 ?_;refine d103 ?_;refine i_mv rfl rfl ?_
  refine jam (v:= .bool false) rfl rfl (by decide) (jdx (by decide)) ?_;refine jbQ rfl zq ?_;refine d180 ?_;refine d155 ?_;refine jam (v:= .bool false) rfl zq (by decide) (jgO (decide_eq_false (by omega))) ?_;refine d38 ?_;refine jce ?_;refine jce ?_
  rcases (by omega:wt=0∨(wt=1∧0<v)) with rfl|⟨rfl,hv0⟩
  ·refine d5 ?_
   refine jam (v:= .bool false) rfl zq (by decide) (jba (by decide)) ?_;refine d58 ?_;refine jcI rfl zq ?_;refine d180 ?_;refine d155 ?_
   refine jam (v:= .bool (decide ((v:Int)>0))) rfl zq (by decide) (jdx rfl) ?_;by_cases hv0:0<v
   ·rw [decide_eq_true (show (v:Int)>0 by omega)];refine d58 ?_;refine d125 ?_;refine jft rfl ?_
    refine jco rfl jbs ?_
    refine jaK rfl Tryz.func90 (jas rfl) ?_;exact hq
   ·rw [decide_eq_false (show¬(v:Int)>0 by omega)];refine d81 ?_
    refine jam (v:= .bool true) rfl rfl (by decide) (jbd (by decide)) ?_;refine jcI rfl zq ?_;refine d45 ?_;refine jft rfl ?_;refine jco rfl jbs ?_
    refine jaK rfl Tryz.func90 (jas rfl) ?_;exact hq
  ·refine d5 ?_
   refine jam (v:= .bool true) rfl zq (by decide) (jba (by decide)) ?_;refine d81 ?_
   refine jam (v:= .bool false) rfl rfl (by decide) (jdx (by decide)) ?_;refine jbQ rfl zq ?_;refine d180 ?_;refine d155 ?_;refine jam (v:= .bool true) rfl zq (by decide) (jdx (decide_eq_true (by omega))) ?_;refine d58 ?_;refine d125 ?_;refine jft rfl ?_
   refine jco rfl jbs ?_
   refine jaK rfl Tryz.func90 (jas rfl) ?_;exact hq
 ·refine d165 ?_
  refine jaK rfl Tryz.func139 (ja2 rfl) ?_;refine jdq rfl ?_;refine d103 ?_;refine jam (v:= .int .u64 0) rfl zq (by decide) (jaP ((wgB 0 1 (by omega) (by omega)).flag)) ?_;refine jam (v:= .bool false) rfl zq (by decide) (jba (by decide)) ?_;refine d58 ?_;refine d65 ?_;refine d19 ?_
  refine jcw (v:= .int .u64 0) rfl zq (.inr rfl) (jd8 (by decide) (wgB 0 1 (by omega) (by omega)).hi) ?_;refine jdb rfl zq (by kernel_rfl) (wgB 0 1 (by omega) (by omega)).hi32 ?_;refine d14 ?_;refine d19 ?_
  refine jam (v:= .int .u64 1) rfl zq (by decide) (jaP ((wgB 0 1 (by omega) (by omega)).lo)) ?_;refine jdb rfl zq (by kernel_rfl) (wgB 0 1 (by omega) (by omega)).lo32 ?_;refine d103 ?_;refine i_mv rfl rfl ?_
  refine jam (v:= .bool false) rfl rfl (by decide) (jdx (by decide)) ?_;refine jbQ rfl zq ?_;refine d180 ?_;refine d155 ?_;refine jam (v:= .bool false) rfl zq (by decide) (jgO (by decide)) ?_;refine d38 ?_;refine d37 ?_
  refine jam (v:= .bool true) rfl zq (by decide) (jba (by decide)) ?_;refine d81 ?_
  refine jam (v:= .bool false) rfl rfl (by decide) (jdx (by decide)) ?_;refine jbQ rfl zq ?_;refine d180 ?_;refine d155 ?_;refine jam (v:= .bool false) rfl zq (by decide) (jdx (by decide)) ?_;refine d81 ?_
  refine jam (v:= .bool false) rfl rfl (by decide) (jbd (by decide)) ?_;refine d155 ?_;refine d13 ?_;refine jek rfl zq (by kernel_rfl) ?_
  refine jbX Tryz.func141 rfl rfl (l:=(.pointer (some ⟨M.wg,0,none⟩))::uu6) rfl ?_;refine d154 ?_;refine d102 ?_
  refine jhU h0 (by omega) jf9 rfl zq (jaW ?_)
  refine d165 ?_
  refine jaK rfl Tryz.func141 (ja2 rfl) ?_;refine jdq rfl ?_;refine i_mv rfl zq ?_;refine jam (v:= .bool false) rfl zq (by decide) (jba (by decide)) ?_;refine d38 ?_;refine d102 ?_;refine jek rfl zq (by kernel_rfl) ?_
  refine jbX Tryz.func142 rfl rfl (l:=(.pointer (some ⟨M.wg,0,none⟩))::(.int .u64 0)::uu7) rfl ?_;refine d5 ?_;refine d13 ?_;refine i_mv rfl zq ?_
  refine jhh h0 (by omega) jlb rfl zq (jaW ?_)
  refine d131 ?_
  refine jaK rfl Tryz.func142 (jas rfl) ?_;refine jdq rfl ?_;refine jaj ?_;refine d37 ?_;refine d38 ?_;refine jdB ?_;refine i_loop ?_;refine d37 ?_;refine jam (v:= .bool true) rfl zq (by decide) (jba (by decide)) ?_;refine d45 ?_;refine jmC ?_;refine jce ?_;refine jdB ?_;refine d5 ?_;refine d13 ?_
  refine jhT h0 extSemG rfl zq ?_
  show (Im.quit Tryz.prog 1).R _
  refine k_putQ ?_;refine jaj ?_;refine jda ?_;refine d5 ?_;refine jam (v:= .int .u32 0) rfl zq (by decide) (jh9 (by decide)) ?_;refine d14 ?_;refine jj2 ?_;refine d37 ?_
  refine jam (v:= .bool false) rfl zq (by decide) (jba (by decide)) ?_;refine d21 ?_;refine jgW rfl ?_;refine i_end rfl ?_
  refine jco rfl jbs ?_
  refine jaK rfl Tryz.func90 (jas rfl) ?_;exact hq
theorem jmZ {i:Nat} (h0:i≠0) (hM:M.n≤64) {b:Frame} {l:List Value} {todo:List Item} {fn:Func} {kf:Frame} (hk:b.kind= .deferred) (hf: Tryz.prog.funcs[b.fn]?=some fn) (hres:fn.results= #[]) (hkf:kf={(default:Frame) with fn:= Tryz.prog.funcs.size,defers:=[],mode:= .panicking [goexitEntry]}) (hcat:kf.catches Tryz.prog=false):
  ((Sy.kid Tryz.prog B M.pro i).im 0 (.w kn .fin .on z) h).R (Gret b l [dcall 92 [.pointer (some ⟨M.wg,0,none⟩)].toArray] todo [kf]):=by
 refine jj0 Tryz.func92 (by kernel_rfl) rfl rfl (l1:=[.pointer (some ⟨M.wg,0,none⟩),undef,undef,undef]) rfl ?_;refine d5 ?_
 refine jek rfl zq (by kernel_rfl) (addK_c h0 hM ?_);refine jdq rfl ?_;refine d131 ?_;refine jj1 rfl Tryz.func92 rfl rfl ?_;exact quit_kid hk hf hres hkf hcat
end Go.Proofs
namespace Go.Proofs
open Go.Lo
open Go.Conc (G dcall)
set_option maxRecDepth 100000
set_option synthInstance.maxSize 100000
set_option synthInstance.maxHeartbeats 1000000
set_option maxHeartbeats 4000000
variable {B:Array Obj} {M:Meet} {Y:Sy Tryz.prog B M.pro} {h:Hp} {r:Nat}
theorem addM_c (h0:Y.i=0) (hM:M.n≤64) {c:Frame} {cs:List Frame} (hitc:(Y.im 0 (.m r .adds) h).R (G (c.finish (.tuple #[])) cs)):
  (Y.im 0 (.m r .idle) h).R (G (Frame.enter Tryz.prog 90 [.pointer (some ⟨M.wg,0,none⟩),.int .i64 1].toArray .normal) (c::cs)):=by
 refine jbX Tryz.func90 rfl rfl (l:=(.pointer (some ⟨M.wg,0,none⟩))::(.int .i64 1)::uu115) rfl ?_;refine jce ?_;refine i_if ?_;refine d37 ?_;refine jam (v:= .bool false) rfl zq (by decide) (jgO (by decide)) ?_;refine d38 ?_;refine d60 ?_
 refine jev jdd rfl zq ?_
 refine jaj ?_;refine jbh rfl ?_;refine jht (args:=[]) rfl zq rfl (by decide) ?_;refine jaj ?_;refine d154 ?_;refine jce ?_;refine d60 ?_;refine jk3 jiv rfl zq rfl ?_;refine d38 ?_;refine d134 ?_
 refine jdb (n':=1) rfl zq (by kernel_rfl) (by decide) ?_;refine jcw (v:= .int .u64 4294967296) rfl zq (.inl rfl) (op_shl (by decide) (by decide)) ?_;refine jek rfl zq (by kernel_rfl) ?_;refine jbX Tryz.func139 rfl rfl (l:=(.pointer (some ⟨M.wg,0,none⟩))::(.int .u64 4294967296)::uu8) rfl ?_;refine d154 ?_;refine d134 ?_
 refine s_wgAdd h0 hM jkd rfl zq (fun v hv0 hv70=>jaW ?_)
 refine d165 ?_
 refine jaK rfl Tryz.func139 (ja2 rfl) ?_;refine jdq rfl ?_;refine d103 ?_;refine jam (v:= .int .u64 0) rfl zq (by decide) (jaP ((wgB v 0 hv70 (by omega)).flag)) ?_;refine jam (v:= .bool false) rfl zq (by decide) (jba (by decide)) ?_;refine d58 ?_;refine d65 ?_;refine d19 ?_
 refine jcw (v:= .int .u64 (v:Int)) rfl zq (.inr rfl) (jd8 (by decide) (wgB v 0 hv70 (by omega)).hi) ?_;refine jdb rfl zq (by kernel_rfl) (wgB v 0 hv70 (by omega)).hi32 ?_;refine d14 ?_;refine d19 ?_
 refine jam (v:= .int .u64 0) rfl zq (by decide) (jaP ((wgB v 0 hv70 (by omega)).lo)) ?_;refine jdb rfl zq (by kernel_rfl) (wgB v 0 hv70 (by omega)).lo32 ?_;refine d103 ?_;refine i_mv rfl rfl ?_
 refine jam (v:= .bool true) rfl rfl (by decide) (jdx (by decide)) ?_;refine jbQ rfl zq ?_;refine d81 ?_;refine i_mv rfl rfl ?_;refine jdb (n':=1) rfl rfl (by kernel_rfl) (by decide) ?_;refine jam (v:= .bool (decide ((v:Int)=1))) rfl rfl (by decide) (jbd rfl) ?_;by_cases hv1:v=1
 ·rw [decide_eq_true (show (v:Int)=1 by omega)];refine d125 ?_;refine d5 ?_;refine d13 ?_
  refine jfa rfl zq ⟨.inr rfl,.inr rfl⟩ jkn.1 jkn.2.1 jkn.2.2 ?_
  refine s_said (.inl rfl) h0 extRead rfl zq (jaW ?_)
  refine jaj ?_;refine d37 ?_;refine jam (v:= .bool false) rfl zq (by decide) (jgO (decide_eq_false (by omega))) ?_;refine d38 ?_;refine d37 ?_
  refine jam (v:= .bool false) rfl zq (by decide) (jba (by decide)) ?_;refine d58 ?_;refine jcI rfl zq ?_;refine d180 ?_;refine d155 ?_
  refine jam (v:= .bool true) rfl zq (by decide) (jdx (decide_eq_true (by omega))) ?_;refine d58 ?_;refine d125 ?_;refine jft rfl ?_
  refine jd7 rfl jbs ?_
  refine jaK rfl Tryz.func90 (jas rfl) ?_;exact hitc
 ·rw [decide_eq_false (show¬(v:Int)=1 by omega)];refine jbQ rfl zq ?_;refine d38 ?_;refine d37 ?_;refine jam (v:= .bool false) rfl zq (by decide) (jgO (decide_eq_false (by omega))) ?_;refine d38 ?_;refine d37 ?_
  refine jam (v:= .bool false) rfl zq (by decide) (jba (by decide)) ?_;refine d58 ?_;refine jcI rfl zq ?_;refine d180 ?_;refine d155 ?_
  refine jam (v:= .bool true) rfl zq (by decide) (jdx (decide_eq_true (by omega))) ?_;refine d58 ?_;refine d125 ?_;refine jft rfl ?_
  refine jd7 rfl jbs ?_
  refine jaK rfl Tryz.func90 (jas rfl) ?_;exact hitc
theorem waitM_c (hM:M.n≤64) {K:Goroutine→Hp→Prop} {c:Frame} {cs:List Frame} (hitc: ∀ks Pool,M.PL ks Pool→ks.Nodup→(∀k,k∈ks↔k<M.n∧M.hit k=true)→MRunS Tryz.prog B K none (G (c.finish (.tuple #[])) cs) (h++Pool)):
  ((Sy.zero Tryz.prog B M.pro K).im 0 (.m 0 .idle) h).R (G (Frame.enter Tryz.prog 96 [.pointer (some ⟨M.wg,0,none⟩)].toArray .normal) (c::cs)):=by
 refine jbX Tryz.func96 rfl rfl (l:=(.pointer (some ⟨M.wg,0,none⟩))::uu83) rfl ?_;refine jce ?_;refine i_if ?_;refine jbh rfl ?_;refine jlE rfl jdd rfl zq (fun kk=>jaW ?_)
 refine jaj ?_;refine jdB ?_;refine jjz (fun nn D' s' h' l'=> ∃kk:Nat,D'=1∧s'= .m 0 (.look kk)∧h=h'∧nn=kk*1∧ ∃U:Nat→Value,l'=((.pointer (some ⟨M.wg,0,none⟩))::vw83 U 1 [])) _ ⟨kk,rfl,rfl,rfl,rfl,exU rfl⟩ ?_
 rintro nn _ _ _ _ ⟨kk,rfl,rfl,rfl,rfl,U,rfl⟩ hnext;refine jdB ?_;refine d102 ?_;refine jek rfl zq (by kernel_rfl) ?_;refine jbX Tryz.func141 rfl rfl (l:=(.pointer (some ⟨M.wg,0,none⟩))::uu6) rfl ?_;refine d154 ?_;refine d102 ?_
 refine s_wgLoad rfl hM jf9 rfl zq (jaW ?_) (fun v hv0 hv70=>jaW ?_)
 ·refine d165 ?_
  refine jaK rfl Tryz.func141 (ja2 rfl) ?_;refine jdq rfl ?_;refine d14 ?_;refine d19 ?_;refine jcw (v:= .int .u64 0) rfl zq (.inr rfl) (jd8 (by decide) (wgB 0 0 (by omega) (by omega)).hi) ?_;refine jdb rfl zq (by kernel_rfl) (wgB 0 0 (by omega) (by omega)).hi32 ?_;refine d14 ?_;refine d19 ?_
  refine jam (v:= .int .u64 0) rfl zq (by decide) (jaP ((wgB 0 0 (by omega) (by omega)).lo)) ?_;refine jdb rfl zq (by kernel_rfl) (wgB 0 0 (by omega) (by omega)).lo32 ?_;refine d103 ?_
  refine jam (v:= .bool true) rfl zq (by decide) (jbd (by decide)) ?_;refine d45 ?_;refine jce ?_;refine i_if ?_;refine d60 ?_
  refine jdM jbs rfl zq ?_
  refine jaj ?_;refine d5 ?_;refine jfa rfl zq ⟨.inr rfl,.inl rfl⟩ jhe.1 jhe.2.1 jhe.2.2 ?_
  refine s_join jdU rfl zq (fun ks Pool q1 q2 q3=>?_)
  show (Im.star Tryz.prog B K (h++Pool)).R _
  refine jaj ?_;refine d37 ?_;refine jam (v:= .bool true) rfl zq (by decide) (jbd (by decide)) ?_;refine d81 ?_
  refine jam (v:= .int .u64 0) rfl rfl (by decide) (jaP ((wgB 0 0 (by omega) (by omega)).flag)) ?_;refine jam (v:= .bool false) rfl rfl (by decide) (jba (by decide)) ?_;refine jbQ rfl zq ?_;refine d58 ?_;refine d65 ?_;refine jft rfl ?_;refine jaK rfl Tryz.func96 (jas rfl) ?_;exact hitc ks Pool q1 q2 q3
 ·refine d165 ?_
  refine jaK rfl Tryz.func141 (ja2 rfl) ?_;refine jdq rfl ?_;refine d14 ?_;refine d19 ?_;refine jcw (v:= .int .u64 (v:Int)) rfl zq (.inr rfl) (jd8 (by decide) (wgB v 0 hv70 (by omega)).hi) ?_;refine jdb rfl zq (by kernel_rfl) (wgB v 0 hv70 (by omega)).hi32 ?_;refine d14 ?_;refine d19 ?_
  refine jam (v:= .int .u64 0) rfl zq (by decide) (jaP ((wgB v 0 hv70 (by omega)).lo)) ?_;refine jdb rfl zq (by kernel_rfl) (wgB v 0 hv70 (by omega)).lo32 ?_;refine d103 ?_
  refine jam (v:= .bool false) rfl zq (by decide) (jbd (decide_eq_false (by omega))) ?_;refine d38 ?_;refine d134 ?_;refine i_mv rfl zq ?_
  refine jam (v:= .int .u64 (wgN v 1)) rfl zq (by decide) (jd9 ((wgB v 0 hv70 (by omega)).wait)) ?_;refine jek rfl zq (by kernel_rfl) ?_;refine jbX Tryz.func149 rfl rfl (l:=(.pointer (some ⟨M.wg,0,none⟩))::(.int .u64 (wgN v 0))::(.int .u64 (wgN v 1))::uu10) rfl ?_;refine d154 ?_;refine d134 ?_;refine i_mv rfl zq ?_
  refine s_wgCas rfl extCas64 rfl zq (jaW ?_) (fun hk=>jaW ?_)
  ·refine d165 ?_
   refine jaK rfl Tryz.func149 (ja2 rfl) ?_;refine jdq rfl ?_;refine d45 ?_;refine d37 ?_;refine i_mv rfl rfl ?_;refine jam (v:= .bool true) rfl rfl (by decide) (jbd (by decide)) ?_;refine d125 ?_;refine d5 ?_;refine d13 ?_
   refine jfa rfl zq ⟨.inr rfl,.inr rfl⟩ jkn.1 jkn.2.1 jkn.2.2 ?_
   refine s_said (.inr rfl) rfl extWrite rfl zq (jaW ?_)
   refine jaj ?_;refine d60 ?_;refine d103 ?_;refine jam (v:= .int .u64 0) rfl zq (by decide) (jaP ((wgB v 0 hv70 (by omega)).flag)) ?_;refine jam (v:= .bool false) rfl zq (by decide) (jba (by decide)) ?_;refine i_mv rfl zq ?_;refine jjc rfl rfl ?_;refine d65 ?_;refine d134 ?_;refine s_wgPark rfl extSemW rfl zq (jaW ?_)
   refine jaj ?_;refine d102 ?_;refine jek rfl zq (by kernel_rfl) ?_;refine jbX Tryz.func141 rfl rfl (l:=(.pointer (some ⟨M.wg,0,none⟩))::uu6) rfl ?_;refine d154 ?_;refine d102 ?_
   refine s_wgEnd rfl jf9 rfl zq (jaW ?_)
   refine d165 ?_
   refine jaK rfl Tryz.func141 (ja2 rfl) ?_;refine jdq rfl ?_;refine jam (v:= .bool false) rfl zq (by decide) (jba (by decide)) ?_;refine d14 ?_;refine jce ?_;refine i_if ?_;refine d60 ?_
   refine jdM jbs rfl zq ?_
   refine jaj ?_;refine d5 ?_;refine jfa rfl zq ⟨.inr rfl,.inl rfl⟩ jhe.1 jhe.2.1 jhe.2.2 ?_
   refine s_join jdU rfl zq (fun ks Pool q1 q2 q3=>?_)
   show (Im.star Tryz.prog B K (h++Pool)).R _
   refine jaj ?_;refine d37 ?_;refine d38 ?_;refine jft rfl ?_;refine jaK rfl Tryz.func96 (jas rfl) ?_;exact hitc ks Pool q1 q2 q3
  ·refine d165 ?_
   refine jaK rfl Tryz.func149 (ja2 rfl) ?_;refine jdq rfl ?_;refine d38 ?_;refine jda ?_;exact hnext _ _ _ _ _ (by omega) ⟨kk-1,rfl,rfl,rfl,rfl,exU rfl⟩
end Go.Proofs
namespace Go.Proofs
open Go.Lo
open Go.Conc (G)
set_option maxRecDepth 100000
set_option synthInstance.maxSize 100000
set_option synthInstance.maxHeartbeats 1000000
set_option maxHeartbeats 4000000
variable {b:Fb} {pp:Option Addr} {np cp:Nat} {pt:Option Addr} {nt ct:Nat} {pk:Option Addr} {nk ck:Nat}
variable {B:Array Obj}
variable [LaidF B]
def llK (b:Fb) (ks:List Nat):List (List Int):=ks.map fun k=>jaQ k (allN b)
theorem jjQ (b:Fb) (ks:List Nat) (k:Nat):llK b (ks++[k])=llK b ks++[jaQ k (allN b)]:=by simp [llK]
def PLf {B:Array Obj} (b:Fb) (od:Nat) (ks:List Nat) (hp:Hp):Prop:= ∃(sp:Option Addr) (sc:Nat) (ws:List Value) (X W:Hp),hp=[⟨true,od,.cells [.slice sp (llK b ks).length sc].toArray 52 (0,0)⟩]++X++W∧OwnS 34 1 (.slice sp (llK b ks).length sc) (llK b ks).length ws W∧RdE B X ws (llK b ks)
theorem nodup_le {ks:List Nat} {n:Nat} (h: ∀k∈ks,k<n) (hd:ks.Nodup):ks.length≤n:=by
 have:=List.Nodup.length_le_of_subset (l₂:=List.range n) hd fun z hz=>List.mem_range.2 (h z hz)
 rwa [List.length_range] at this
theorem llK_le {b:Fb} {ks:List Nat} {n:Nat} {p:Nat→Bool} (h: ∀k∈ks,k<n∧p k=true) (hd:ks.Nodup):(llK b ks).length≤n:=by
 unfold llK
 rw [List.length_map];exact nodup_le (fun k hk=>(h k hk).1) hd
def jip (b:Fb) (xs:List Int):Prop:=boatsOf (jfr b xs)=[]
instance (b:Fb) (xs:List Int):Decidable (jip b xs):=by unfold jip;infer_instance
def jeO (B:Array Obj) (b:Fb) (mu wg od N:Nat):Meet:=⟨N,fun k=>decide (jip b (jaQ k (allN b))),PLf (B:=B) b od,mu,wg,156,163⟩
theorem callB91:ja4 Tryz.prog 91=true:=by kernel_rfl
theorem jfh:(kidF Tryz.prog).catches Tryz.prog=false:=by kernel_rfl
theorem kid131 {hb:Hp} (rdp:RdS B hb 3 (.slice pp np cp) np (encs b.pts)) (hp:np≤1000) (rdt:RdS B hb 4 (.slice pt nt ct) nt (encs b.tapes)) (ht:nt≤1000) (rdk:RdS B hb 3 (.slice pk nk ck) nk (encs b.sticks)) (hk:nk≤1000) (hv:FOk b) {q6 q7 q8 q9 q10 N mm i:Nat} (hM:N≤64) (hmm:mm<64) (hi:i≠0):((Sy.kid Tryz.prog B (jeO B b q7 q8 q9 N).pro i).im 0 (.w mm .out .on []) (hb++[⟨false,q6,.cells (fbL b pp np cp pt nt ct pk nk ck).toArray 96 (0,0)⟩,⟨true,q10,.cells [.int .i64 (mm:Int)].toArray 3 (0,0)⟩])).R (kid0 Tryz.prog {target:= .fn (.func 91) [.pointer (some ⟨q8,0,none⟩),.pointer (some ⟨q6,0,none⟩),.pointer (some ⟨q10,0,none⟩),.pointer (some ⟨q7,0,none⟩),.pointer (some ⟨q9,0,none⟩)].toArray,args:= #[]++ #[]}):=by
 have hml:=rdp.elen (by decide)
 have htl:=rdt.elen (by decide)
 have hkl:=rdk.elen (by decide)
 have hv1:=hv.few
 have hv2:=hv.few'
 have hall:allN b=nt+nk:=by unfold allN;omega
 have hin:InB b (jaQ mm (nt+nk)):=by rw [←hall];exact jjZ b mm
 have hto':=Nat.le_trans (jjL (jdG mm (nt+nk)) hin) (show b.tapes.length≤1000 by omega)
 have hko':=Nat.le_trans (jjN (jdG mm (nt+nk)) hin) (show b.sticks.length≤1000 by omega)
 have hM:(jeO B b q7 q8 q9 N).n≤64:=hM
 refine jkX (hg:=fun e=>e) (al:=[.pointer (some ⟨q8,0,none⟩),.pointer (some ⟨q6,0,none⟩),.pointer (some ⟨q10,0,none⟩),.pointer (some ⟨q7,0,none⟩),.pointer (some ⟨q9,0,none⟩)]) (l:=(.pointer (some ⟨q8,0,none⟩))::(.pointer (some ⟨q6,0,none⟩))::(.pointer (some ⟨q10,0,none⟩))::(.pointer (some ⟨q7,0,none⟩))::(.pointer (some ⟨q9,0,none⟩))::uu15) callB91 Tryz.func91 rfl rfl rfl rfl ?_
 refine Md.kidS.to (hg:=fun e=>e) ?_
 refine jak ?_;refine Md.kidS.of ?_
 refine jbh rfl ?_;refine jht rfl zq rfl (by decide) ?_;refine jaj ?_;refine Md.kidS.to (hg:=fun e=>e) ?_
 refine rs9 ?_;refine d74 ?_;refine jaZ rfl zq (by kernel_rfl) (f93_c _ _ (b:=b) (pp:=pp) (cp:=cp) (rdt.keeps SubH.sub) (rdk.keeps SubH.sub) (by omega) hmm) ?_;rintro v h' ⟨nI,nT,nK,rfl,tp,tc,kp,kc,w,rfl,rT,rK,oI⟩;refine jac ?_;obtain ⟨ip,ic,rfl,hic,rI⟩:=jbq (B:=B) oI
 refine d47 ?_
 refine jaw rfl zq (fun q5=>k_hp (jac ?_));refine jaO rfl zq rfl ?_;refine d10 ?_;refine rs2 ?_;have hvo:=onlyI_ok hv (jdG mm (nt+nk)) hin
 have hto:=hvo.few
 have hko:=hvo.few'
 refine jaT rfl zq ?_;refine jae (Post:=fun v=>IsB _ v) rfl zq (by kernel_rfl) (fun H' hH=>f89_c _ H' (b:=jfr b (jaQ mm (nt+nk))) (rdp.keeps (sq hH)) (by omega) (rT.keeps (sq hH)) hto' (rK.keeps (sq hH)) hko' hvo) ?_;rintro v (⟨hc,rfl⟩|⟨hc,rfl⟩)
 ·refine jac ?_;refine d7 ?_;refine Md.kidS.of ?_
  refine jlH rfl (decide_eq_false (by unfold jip;rw [hall];exact hc)) ?_
  exact jmZ hi hM rfl Tryz.func91 rfl rfl jfh
 ·refine jac ?_;refine d36 ?_;refine Md.kidS.of ?_
  refine jbh rfl ?_;refine jek rfl zq (by kernel_rfl) (lock_c hM (fun ks Pool q1 q2 q3 q4=>?_));refine jdq rfl ?_;refine jaj ?_;obtain ⟨sp,sc,ws,X,W,rfl,oW,eX⟩:=q1
  have hks:(llK b ks).length≤64:=Nat.le_trans (llK_le q3 q4) hM
  refine Md.kidS.to (hg:=fun e=>e) ?_
  refine jak ?_;refine Md.kidS.of ?_
  refine jbh rfl ?_;refine jht rfl zq rfl (by decide) ?_;refine jaj ?_;refine Md.kidS.to (hg:=fun e=>e) ?_
  refine rr5 ?_;refine jbb rfl zq ?_;refine mq rfl ?_;refine k_bs kdq rfl zq (by decide) (by decide) rfl (fun q18=>k_hp (jac ?_));refine jbH rfl zq rfl oW kdq (by omega) (by omega) (fun w19 n19 o19=>jac ?_);obtain ⟨p19,c19,rfl,_⟩:=o19.len
  refine d59 ?_
  refine Md.kidS.of ?_
  refine i_end rfl ?_;refine jln hM (hr:=[]) (hp:=[⟨true,q9,.cells [.slice p19 ((llK b ks).length+1) c19].toArray 52 (0,0)⟩]++X++nI++n19) (by rw [List.nil_append];exact jhc) (decide_eq_true (by unfold jip;rw [hall];exact Classical.not_not.1 hc)) ?_ ?_
  ·have e1:(llK b (ks++[mm])).length=(llK b ks).length+1:=by rw [jjQ,List.length_append];rfl
   refine ⟨p19,c19,_,X++nI,n19,by rw [e1];simp only [List.append_assoc],by rw [e1];exact o19,?_⟩
   rw [jjQ];exact (eX.keeps (List.sublist_append_left _ _)).snoc (by rw [hall]) (by rw [hall];exact rI.keeps (List.sublist_append_right _ _)) hic
  ·exact jmZ hi hM rfl Tryz.func91 rfl rfl jfh
theorem jlz: ∀n:Nat,n<7→IntKind.wrap .i64 (1*2^(min (n:Int).toNat IntKind.i64.bits))=((2^n:Nat):Int):=by decide
theorem pow6: ∀i:Nat,i≤6→1≤2^i∧2^i≤64:=by decide
theorem jm3 {b:Fb} {ks:List Nat} (h0:fbS b=0) (hb:boatsOf b=[]) (h: ∀k,k∈ks↔k<2^allN b∧decide (jip b (jaQ k (allN b)))=true):0<(llK b ks).length∧jcM ltF (llK b ks)∈llK b ks∧jcf b (jcM ltF (llK b ks)):=by
 obtain ⟨m0,hm0,e0⟩:=jmp (jg9 (allN b)) (n:=allN b) (fun x hx=>by have:=jk0 b x hx;omega)
 have hk0:m0∈ks:=(h m0).2 ⟨hm0,decide_eq_true (by unfold jip;rw [←e0,jl9];exact hb)⟩
 have hl:0<(llK b ks).length:=by
  unfold llK
  rw [List.length_map];exact List.length_pos_of_mem hk0
 have hmem:=jg8 ltF (llK b ks) hl
 refine ⟨hl,hmem,?_⟩
 obtain ⟨k1,hk1,e1⟩:=List.mem_map.1 hmem
 refine clash_of h0 hb k1 (of_decide_eq_true ((h k1).1 hk1).2) e1.symm fun nn hn hf=>?_
 exact jmQ hl _ (List.mem_map.2 ⟨nn,(h nn).2 ⟨hn,decide_eq_true hf⟩,rfl⟩)
theorem jhx {g:List Int} {k:Nat} (h:k<g.length):g.take (k+1)=g.take k++[g.getD k 0]:=by
 rw [List.take_add_one,List.getElem?_eq_getElem h,List.getD_eq_getElem?_getD,List.getElem?_eq_getElem h];rfl
theorem gT_le (b:Fb) (g:List Int):(gT b g).length≤g.length:=List.length_filter_le _ _
theorem gK_le (b:Fb) (g:List Int):(gK b g).length≤g.length:=by
 unfold gK
 rw [List.length_map];exact List.length_filter_le _ _
theorem jh4 {B:Array Obj} {h H:Hp} {w:Value} {xs:List Int} (r:RdI B h w xs) (s:h.Sublist H):RdI B H w xs:=by
 obtain ⟨p,c,e,r⟩:=r
 exact ⟨p,c,e,r.keeps s⟩
theorem run_mid {P:Program} {B:Array Obj} {K:Goroutine→Hp→Prop} {M:Meet} {g:Goroutine} {h' Pool:Hp} (hP:M.PL [] Pool) (n:((Sy.zero P B M.pro K).im 0 (.m M.n .idle) h').R g):(Md.starS P B).R K g (h'++Pool++[M.muC ⟨false,false,false,0⟩ 0,M.wgC 0 0 0]):=
 MRunS.phase M.pro (.m M.n .idle) (by simp [Meet.muC,Meet.wgC]) (Meet.live M) (Meet.start0 M hP) n
theorem jlh {h:Hp} {b:Fb} {q1 q6 q7 q8 q9 N:Nat} {c1 c6:Array Value}:Weak B (h++[⟨true,q1,.cells c1 26 (0,0)⟩,⟨true,q6,.cells c6 96 (0,0)⟩,⟨true,q7,.cells ([.int .i32 0,.int .u32 0]:List Value).toArray 156 (0,0)⟩,⟨true,q8,.cells ([.int .u64 0,.int .u32 0]:List Value).toArray 163 (0,0)⟩,⟨true,q9,.cells ([.slice none 0 0]:List Value).toArray 52 (0,0)⟩]) ((ro h++[⟨false,q1,.cells c1 26 (0,0)⟩,⟨false,q6,.cells c6 96 (0,0)⟩])++[⟨true,q9,.cells ([.slice none 0 0]:List Value).toArray 52 (0,0)⟩]++[(jeO B b q7 q8 q9 N).muC ⟨false,false,false,0⟩ 0,(jeO B b q7 q8 q9 N).wgC 0 0 0]):=by
 have h1:=jiI (B:=B) (h++[⟨true,q1,.cells c1 26 (0,0)⟩,⟨true,q6,.cells c6 96 (0,0)⟩]) [⟨true,q7,.cells ([.int .i32 0,.int .u32 0]:List Value).toArray 156 (0,0)⟩,⟨true,q8,.cells ([.int .u64 0,.int .u32 0]:List Value).toArray 163 (0,0)⟩,⟨true,q9,.cells ([.slice none 0 0]:List Value).toArray 52 (0,0)⟩]
 refine Weak.trans (by simpa using h1) ?_
 refine Weak.perm ?_
 simp only [ro,List.map_append,List.map_cons,List.map_nil,List.append_assoc,List.cons_append,List.nil_append]
 refine List.Perm.append_left _ (.cons _ (.cons _ ?_))
 exact (List.perm_append_comm (l₁:=[_,_]) (l₂:=[_]))
theorem f40_c (h:Hp) (rdp:Rp B h b pp np cp) (hp:np≤1000) (rdt:Rt B h b pt nt ct) (ht:nt≤1000) (rdk:Rk B h b pk nk ck) (hk:nk≤1000):FnC (Md.starS Tryz.prog B) 40 #[fbV b pp np cp pt nt ct pk nk ck] h fun v h'=> ∃nw,h'=ro h++nw∧ ∃wT wK gg,v= .tuple [wT,wK,.int .i64 (fbS b)].toArray∧RdI B nw wT (gT b gg)∧RdI B nw wK (gK b gg)∧jcf b gg:=by
 have hml:=rdp.elen (by decide)
 have htl:=rdt.elen (by decide)
 have hkl:=rdk.elen (by decide)
 refine jad Tryz.func40 rfl rfl (l:=(fbV b pp np cp pt nt ct pk nk ck)::uu65) rfl ?_
 intro cf cs K hK
 refine rs4 ?_;refine jaq rfl zq (fun q1=>k_hp (jac ?_));refine k_as rfl zq ?_;refine d99 ?_;refine d96 ?_;refine jae (Post:=fun v=>v=_) rfl zq (by kernel_rfl) (fun H' hH=>f54_c _ H' (rdp.keeps (sq hH)) hp (rdt.keeps (sq hH)) ht (rdk.keeps (sq hH)) hk) ?_;rintro v rfl;refine d135 ?_
 refine jaF rfl zq (fun hc=>?_) (fun hc=>?_)
 ·refine d7 ?_;refine d115 ?_;refine k_as rfl zq ?_;refine d34 ?_
  refine jab (h) rfl Tryz.func40 rfl jaa ?_;refine (Md.starS Tryz.prog B).weak (h':=ro h) (by simpa using jiI (B:=B) h []) ?_
  refine hK _ _ ?_;exact ⟨[],by simp,_,_,[],rfl,RdI.nil,RdI.nil,by rw [jcf,if_pos (.inl (by omega))]⟩
 ·refine d36 ?_
  have hz0:fbS b=0:=by omega
  have hv:=jaH hz0
  have hv1:=hv.few
  have hv2:=hv.few'
  have hall:allN b=nt+nk:=by unfold allN;omega
  refine rr4 ?_;refine d122 ?_;refine jaw rfl zq (fun q6=>k_hp (jac ?_));refine d142 ?_;refine d132 ?_
  refine jae (Post:=fun v=>IsB _ v) rfl zq (by kernel_rfl) (fun H' hH=>f89_c _ H' (b:=b) (rdp.keeps (sq hH)) hp (rdt.keeps (sq hH)) ht (rdk.keeps (sq hH)) hk hv) ?_;rintro v (⟨hc,rfl⟩|⟨hc,rfl⟩)
  ·refine jac ?_;have hbne:boatsOf b≠[]:=hc
   refine d7 ?_;refine rs3 ?_;refine k_as rfl zq ?_;refine d34 ?_
   refine jab (h) rfl Tryz.func40 rfl jaa ?_;refine (Md.starS Tryz.prog B).weak (h':=ro h) (by simpa using jiI (B:=B) h []) ?_
   refine hK _ _ ?_;exact ⟨[],by simp,_,_,[],by rw [hz0],RdI.nil,RdI.nil,by rw [jcf,if_pos (.inr hbne)]⟩
  ·refine jac ?_;have hbe:boatsOf b=[]:=Classical.not_not.1 hc
   refine d9 ?_;refine rs1 ?_
   refine jaw rfl zq (fun q7=>k_hp (jac ?_));refine jaB ?_;refine rs1 ?_;refine jaw rfl zq (fun q8=>k_hp (jac ?_));refine jaB ?_;refine rs1 ?_;refine jaw rfl zq (fun q9=>k_hp (jac ?_));refine d25 ?_;refine jak ?_
   have htm:=ht
   obtain ⟨N,hN⟩: ∃N:Nat,N=2^(nt+nk):=⟨_,rfl⟩
   obtain ⟨hN1,hN64⟩:=pow6 (nt+nk) (by omega)
   rw [←hN] at hN1 hN64
   have hM:(jeO B b q7 q8 q9 N).n≤64:=hN64
   refine rr9 ?_;refine d95 ?_;refine d95 ?_;refine jdz rfl zq (by unfold In64;omega) ?_;refine k_shl ((N:Nat):Int) rfl zq (by omega) (by rw [hN,show (nt:Int)+(nk:Int)=((nt+nk:Nat):Int) by omega];exact jlz (nt+nk) (by omega)) ?_;refine mq rfl ?_;refine d57 ?_
   refine (Md.starS Tryz.prog B).weak (h':=(ro h++[⟨false,q1,.cells (fbL b pp np cp pt nt ct pk nk ck).toArray 26 (0,0)⟩,⟨false,q6,.cells (fbL b pp np cp pt nt ct pk nk ck).toArray 96 (0,0)⟩])++[⟨true,q9,.cells ([.slice none 0 0]:List Value).toArray 52 (0,0)⟩]++[(jeO B b q7 q8 q9 N).muC ⟨false,false,false,0⟩ 0,(jeO B b q7 q8 q9 N).wgC 0 0 0]) (jlh) ?_
   refine run_mid (M:=(jeO B b q7 q8 q9 N)) ⟨none,0,[],[],[],rfl,OwnS.nil,RdE.nil⟩ ?_;refine jjz (fun nn D' s' h' l'=> ∃(t:Nat),D'=0∧s'= .m (N-t) .idle∧ro h++[⟨false,q1,.cells (fbL b pp np cp pt nt ct pk nk ck).toArray 26 (0,0)⟩,⟨false,q6,.cells (fbL b pp np cp pt nt ct pk nk ck).toArray 96 (0,0)⟩]=h'∧nn=N-t∧t≤N∧ ∃U:Nat→Value,l'=((fbV b pp np cp pt nt ct pk nk ck)::(.pointer (some ⟨q1,0,none⟩))::(.slice none 0 0)::(.slice none 0 0)::(U 4)::(U 5)::(.pointer (some ⟨q6,0,none⟩))::(.pointer (some ⟨q7,0,none⟩))::(.pointer (some ⟨q8,0,none⟩))::(.pointer (some ⟨q9,0,none⟩))::vw20 U 10 ((.int .i64 (N:Int))::(.int .i64 (t:Int))::vw34 U 32 []))) _ ⟨0,rfl,rfl,rfl,rfl,by omega,exU rfl⟩ ?_
   rintro nn _ _ _ _ ⟨t,rfl,rfl,rfl,rfl,ht,U,rfl⟩ hnext1;refine Md.mid.to ?_
   try dsimp only
   refine rs1 ?_;refine jap rfl zq (fun hc=>?_) (fun hc=>?_)
   ·refine d106 ?_;refine d46 ?_
    refine jaw rfl zq (fun q10=>k_hp (jac ?_));refine jcg rfl zq ?_;refine d25 ?_;obtain ⟨r,hr⟩: ∃r,N-t=r+1:=⟨N-t-1,by omega⟩
    rw [hr];refine Md.mid.of ?_
    refine jbh rfl ?_;refine jek rfl zq (by kernel_rfl) (addM_c rfl hM ?_);refine jdq rfl ?_;refine jaj ?_;refine Md.mid.to ?_
    refine jiZ [(0,.free)] [1] (by kernel_rfl) (by kernel_rfl) ?_;refine jeG rfl zq ?_;refine jaB ?_;refine Md.mid.of ?_
    refine jmf (h':=ro h++[⟨false,q1,.cells (fbL b pp np cp pt nt ct pk nk ck).toArray 26 (0,0)⟩,⟨false,q6,.cells (fbL b pp np cp pt nt ct pk nk ck).toArray 96 (0,0)⟩]) (hc:=ro h++[⟨false,q6,.cells (fbL b pp np cp pt nt ct pk nk ck).toArray 96 (0,0)⟩,⟨true,q10,.cells [.int .i64 (t:Int)].toArray 3 (0,0)⟩]) rfl (show r+1≤N by omega) jaa jaa (fun w sw=>?_) (fun j hj=>by
     rw [show (jeO B b q7 q8 q9 N).n-(r+1)=t from (by omega:N-(r+1)=t)];exact kid131 rdp.ro hp rdt.ro htm rdk.ro hk hv hN64 (by omega) hj) ?_
    ·refine ap_last (F:=ro h++[⟨false,q1,.cells (fbL b pp np cp pt nt ct pk nk ck).toArray 26 (0,0)⟩,⟨false,q6,.cells (fbL b pp np cp pt nt ct pk nk ck).toArray 96 (0,0)⟩]) (q:=q10) (o:= .cells [.int .i64 (t:Int)].toArray 3 (0,0)) (by simpa using sw) (fun c hc=>?_) (fun d hd hr=>?_)
     ·rcases List.mem_append.1 hc with hc|hc
      ·exact (jhZ hc).1
      ·simp only [List.mem_cons,List.not_mem_nil,or_false] at hc
       rcases hc with rfl|rfl<;>rfl
     ·rcases List.mem_append.1 hd with hd|hd
      ·rw [(jhZ hd).1] at hr
       cases hr
      ·simp only [List.mem_cons,List.not_mem_nil,or_false] at hd
       rcases hd with rfl|rfl
       ·cases hr
       ·rfl
    refine Md.mid.to ?_
    refine jbS ?_;refine jay ?_;refine d78 ?_;refine Md.mid.of ?_
    refine Sy.weaken (h':=ro h++[⟨false,q1,.cells (fbL b pp np cp pt nt ct pk nk ck).toArray 26 (0,0)⟩,⟨false,q6,.cells (fbL b pp np cp pt nt ct pk nk ck).toArray 96 (0,0)⟩]) jaa ?_
    exact hnext1 _ _ _ _ _ (by omega) ⟨t+1,rfl,by rw [show r=N-(t+1) by omega],rfl,rfl,by omega,exU rfl⟩
   ·refine d107 ?_;refine jak ?_
    obtain rfl:t=N:=by omega
    rw [Nat.sub_self];refine Md.mid.of ?_
    refine jbh rfl ?_;refine jek rfl zq (by kernel_rfl) (waitM_c hM (fun ks Pool q1 q2 q3=>?_));show (Im.star Tryz.prog B K (_++Pool)).R _
    refine jdq rfl ?_;refine jaj ?_;show (Md.starS Tryz.prog B).R K _ _
    obtain ⟨sp,sc,ws,X,W,rfl,oW,eX⟩:=q1
    have q3': ∀k,k∈ks↔k<2^allN b∧decide (jip b (jaQ k (allN b)))=true:=fun k=>by rw [hall,←hN,←hall];exact q3 k
    obtain ⟨hl0,hgm,hok⟩:=jm3 hz0 hbe q3'
    obtain ⟨ga,gi,gl⟩:=clash_le hok
    have hl64:(llK b ks).length≤64:=Nat.le_trans (llK_le (fun k hk=>(q3 k).1 hk) q2) hN64
    have hlen: ∀l∈llK b ks,l.length≤1000:=fun l hl=>by
     obtain ⟨k,_,rfl⟩:=List.mem_map.1 hl
     have:=jjU k (allN b);omega
    refine rs3 ?_;refine jbb rfl zq ?_;refine jaZ rfl zq (by kernel_rfl) (f97_c _ _ ((oW.rd (List.Sublist.refl _)).keeps SubH.sub) (eX.keeps SubH.sub) (by omega) hl0 hlen) ?_;rintro v h' ⟨rfl,gp,gc,rfl,rg⟩;refine jac ?_;generalize hgg:jcM ltF (llK b ks)=gg at hgm hok ga gi gl rg⊢
    refine d10 ?_;refine d46 ?_;refine d130 ?_
    refine jag (fun nn l h'=> ∃(k:Nat) (wT wK:Value) (nT nK:Hp),nn=gg.length-k∧(k≤gg.length)∧(OwnS 3 1 wT (gT b (gg.take k)).length (ints (gT b (gg.take k))) nT)∧(OwnS 3 1 wK (gK b (gg.take k)).length (ints (gK b (gg.take k))) nK)∧(∃U:Nat→Value,l=((fbV b pp np cp pt nt ct pk nk ck)::(.pointer (some ⟨q1,0,none⟩))::wT::wK::(U 4)::(U 5)::(.pointer (some ⟨q6,0,none⟩))::(.pointer (some ⟨q7,0,none⟩))::(.pointer (some ⟨q8,0,none⟩))::(.pointer (some ⟨q9,0,none⟩))::vw30 U 10 ((.slice gp gg.length gc)::(.int .i64 (gg.length:Int))::(.int .i64 (k:Int))::vw23 U 43 [])))∧ro h++[⟨false,q1,.cells (fbL b pp np cp pt nt ct pk nk ck).toArray 26 (0,0)⟩,⟨false,q6,.cells (fbL b pp np cp pt nt ct pk nk ck).toArray 96 (0,0)⟩]++([⟨true,q9,.cells [.slice sp (llK b ks).length sc].toArray 52 (0,0)⟩]++X++W)++nT++nK=h') _ ⟨0,.slice none 0 0,.slice none 0 0,[],[],rfl,by omega,OwnS.nil,OwnS.nil,exU rfl,(by simp)⟩ ?_;rintro nn l h' ⟨k,wT,wK,nT,nK,rfl,hk9,hoT,hoK,⟨U,rfl⟩,rfl⟩ hnext2;have hgtl:=Nat.le_trans (gT_le b (gg.take k)) (List.length_take_le _ _)
    have hgkl:=Nat.le_trans (gK_le b (gg.take k)) (List.length_take_le _ _)
    refine rs1 ?_;refine jap rfl zq (fun hc=>?_) (fun hc=>?_)
    ·refine d106 ?_;refine rs3 ?_
     obtain ⟨rg_b,rg_o,rfl⟩:=rg.ptr (by omega)
     refine jaJ rfl zq (by first|rfl|assumption) (by omega) (by omega) ?_;refine k_ld rfl zq (rg.iat k (by omega) (by omega)) ?_;refine d10 ?_
     have hgk:=gi _ (mem_getD.2 ⟨k,by omega,rfl⟩)
     refine rr5 ?_;refine mq rfl ?_;refine d95 ?_;refine jap rfl zq (fun hc=>?_) (fun hc=>?_)
     ·refine d7 ?_;refine rr5 ?_;refine d3 ?_
      refine k_bs kdq rfl zq (by decide) (by decide) rfl (fun q53=>k_hp (jac ?_));refine jbH rfl zq rfl hoT kdq (by omega) (by omega) (fun w54 n54 o54=>jac ?_);replace o54:OwnS 3 1 w54 (gT b (gg.take (k+1))).length (ints (gT b (gg.take (k+1)))) n54:=by
       rw [jhx (by omega),gT_yes (b:=b) (x:=gg.getD k 0) (by omega),jbg,List.length_append];exact o54
      have hoK1:=hoK
      rw [←gK_no (b:=b) (x:=gg.getD k 0) (by omega),←jhx (by omega)] at hoK1
      refine d145 ?_
      refine (Md.starS Tryz.prog B).weak (h':=ro h++[⟨false,q1,.cells (fbL b pp np cp pt nt ct pk nk ck).toArray 26 (0,0)⟩,⟨false,q6,.cells (fbL b pp np cp pt nt ct pk nk ck).toArray 96 (0,0)⟩]++([⟨true,q9,.cells [.slice sp (llK b ks).length sc].toArray 52 (0,0)⟩]++X++W)++n54++nK) jjr ?_
      exact hnext2 _ _ _ (by omega) ⟨k+1,_,_,n54,nK,rfl,by omega,o54,hoK1,exU rfl,rfl⟩
     ·refine d6 ?_;refine rr9 ?_;refine d3 ?_;refine d1 ?_;refine d79 ?_
      refine k_bs kdq rfl zq (by decide) (by decide) rfl (fun q61=>k_hp (jac ?_));refine jbH rfl zq rfl hoK kdq (by omega) (by omega) (fun w62 n62 o62=>jac ?_);replace o62:OwnS 3 1 w62 (gK b (gg.take (k+1))).length (ints (gK b (gg.take (k+1)))) n62:=by
       rw [jhx (by omega),gK_yes (b:=b) (x:=gg.getD k 0) (by omega),jbg,List.length_append,htl];exact o62
      have hoT1:=hoT
      rw [←gT_no (b:=b) (x:=gg.getD k 0) (by omega),←jhx (by omega)] at hoT1
      refine d145 ?_
      refine (Md.starS Tryz.prog B).weak (h':=ro h++[⟨false,q1,.cells (fbL b pp np cp pt nt ct pk nk ck).toArray 26 (0,0)⟩,⟨false,q6,.cells (fbL b pp np cp pt nt ct pk nk ck).toArray 96 (0,0)⟩]++([⟨true,q9,.cells [.slice sp (llK b ks).length sc].toArray 52 (0,0)⟩]++X++W)++nT++n62) jjr ?_
      exact hnext2 _ _ _ (by omega) ⟨k+1,_,_,nT,n62,rfl,by omega,hoT1,o62,exU rfl,rfl⟩
    ·refine d107 ?_;refine rs5 ?_;refine d3 ?_;refine k_as rfl zq ?_;refine d34 ?_
     refine jab (ro h++nT++nK) rfl Tryz.func40 rfl jaa ?_;refine hK _ _ ?_;obtain rfl:k=gg.length:=by omega
     rw [List.take_length] at hoT hoK
     exact ⟨nT++nK,by rw [List.append_assoc],_,_,gg,by rw [hz0],jh4 (OwnS.rdI hoT) (List.sublist_append_left _ _),jh4 (OwnS.rdI hoK) (List.sublist_append_right _ _),hok⟩
theorem jfQ {B:Array Obj} {α:Type} {k:Nat} [Enc α k] {t:Nat} {h:Hp} {n c:Nat} {xs:List α} (rd:RdS B h k (.slice none n c) n (encs xs)):OwnS t k (.slice none 0 0) n (encs xs) []:=by
 obtain ⟨p,c',e,hl,r⟩:=rd
 injection e with e1 e2 e3
 subst e1
 rcases r with ⟨_,rfl⟩|⟨b,o,e,_⟩
 ·have h0:encs xs=[]:=List.eq_nil_of_length_eq_zero (by omega)
  rw [h0];exact OwnS.nil
 ·cases e
def BkF (B:Array Obj) (b:Fb) (nw:Hp) (w:Value):Prop:= ∃pp np cp pt nt ct pk nk ck,w=fbV b pp np cp pt nt ct pk nk ck∧RdS B nw 3 (.slice pp np cp) np (encs b.pts)∧RdS B nw 4 (.slice pt nt ct) nt (encs b.tapes)∧RdS B nw 3 (.slice pk nk ck) nk (encs b.sticks)
def noF:Fb:=⟨0,[],[],[]⟩
abbrev zeroF:Value:= .agg [.int .i64 0,.slice none 0 0,.slice none 0 0,.slice none 0 0].toArray
theorem jdv {B:Array Obj} {nw:Hp} {k:Nat}:RdS B nw k (.slice none 0 0) 0 []:=⟨none,0,rfl,by simp,.inl ⟨rfl,rfl⟩⟩
theorem BkF.zero {B:Array Obj} {nw:Hp}:BkF B noF nw zeroF:=⟨none,0,0,none,0,0,none,0,0,rfl,jdv,jdv,jdv⟩
def jiG (b:Fb):Fb:=if openS b 0=0 then b else noF
def addT (b:Fb) (t:Tp):Fb:={b with tapes:=b.tapes++[t]}
def addK (b:Fb) (k:Sk):Fb:={b with sticks:=b.sticks++[k]}
def jd5 (b:Fb) (k:Sk):Int:=if fbS b≠0 then fbS b else openS (addK b k) 0
def jcQ (b:Fb) (k:Sk):Fb:=if fbS b≠0 then noF else jiG (addK b k)
theorem f55_c (m:Md Tryz.prog B) (h:Hp) {p:Option Addr} {n c:Nat} {xs:List Sk} (rd:RdS B h 3 (.slice p n c) n (encs xs)) (hn:n≤1000):FnC m 55 #[.slice p n c] h fun v h'=> ∃nw,h'=h++nw∧OwnS 50 3 v n (encs xs) nw:=by
 refine jad Tryz.func55 rfl rfl (l:=(.slice p n c)::uu7) rfl ?_
 intro cf cs K hK
 refine d67 ?_;refine d16 ?_
 refine jfz rfl zq (fun hc=>?_) (fun hc=>?_)
 ·refine d50 ?_
  refine jab (h) rfl Tryz.func55 rfl jaa ?_;refine hK _ _ ?_;exact ⟨[],by simp,by subst hc;exact jfQ rd⟩
 ·refine d9 ?_;refine rs4 ?_
  refine jf1 kdq rfl zq (fun q5=>k_hp (jac ?_));refine mq rfl ?_
  refine jhr (F:=h) rfl zq jaa OwnS.zero rd.up (jcp _) kdq (by omega) (by omega) (fun w9 n9 o9=>jac ?_);refine d0 ?_
  refine jab (h++n9) rfl Tryz.func55 rfl jaa ?_;refine hK _ _ ?_;exact ⟨n9,rfl,by simpa using o9⟩
theorem f117_c (m:Md Tryz.prog B) (h:Hp) {p:Option Addr} {n c:Nat} {xs:List Pt} (rd:RdS B h 3 (.slice p n c) n (encs xs)) (hn:n≤1000):FnC m 117 #[.slice p n c] h fun v h'=> ∃nw,h'=h++nw∧OwnS 32 3 v n (encs xs) nw:=by
 refine jad Tryz.func117 rfl rfl (l:=(.slice p n c)::uu7) rfl ?_
 intro cf cs K hK
 refine d67 ?_;refine d16 ?_
 refine jfz rfl zq (fun hc=>?_) (fun hc=>?_)
 ·refine d50 ?_
  refine jab (h) rfl Tryz.func117 rfl jaa ?_;refine hK _ _ ?_;exact ⟨[],by simp,by subst hc;exact jfQ rd⟩
 ·refine d9 ?_;refine rs4 ?_
  refine jf1 kdq rfl zq (fun q5=>k_hp (jac ?_));refine mq rfl ?_
  refine jhr (F:=h) rfl zq jaa OwnS.zero rd.up (jcp _) kdq (by omega) (by omega) (fun w9 n9 o9=>jac ?_);refine d0 ?_
  refine jab (h++n9) rfl Tryz.func117 rfl jaa ?_;refine hK _ _ ?_;exact ⟨n9,rfl,by simpa using o9⟩
theorem f118_c (m:Md Tryz.prog B) (h:Hp) {p:Option Addr} {n c:Nat} {xs:List Tp} (rd:RdS B h 4 (.slice p n c) n (encs xs)) (hn:n≤1000):FnC m 118 #[.slice p n c] h fun v h'=> ∃nw,h'=h++nw∧OwnS 89 4 v n (encs xs) nw:=by
 refine jad Tryz.func118 rfl rfl (l:=(.slice p n c)::uu7) rfl ?_
 intro cf cs K hK
 refine d67 ?_;refine d16 ?_
 refine jfz rfl zq (fun hc=>?_) (fun hc=>?_)
 ·refine d50 ?_
  refine jab (h) rfl Tryz.func118 rfl jaa ?_;refine hK _ _ ?_;exact ⟨[],by simp,by subst hc;exact jfQ rd⟩
 ·refine d9 ?_;refine rs4 ?_
  refine jf1 kdq rfl zq (fun q5=>k_hp (jac ?_));refine mq rfl ?_
  refine jhr (F:=h) rfl zq jaa OwnS.zero rd.up (jcp _) kdq (by omega) (by omega) (fun w9 n9 o9=>jac ?_);refine d0 ?_
  refine jab (h++n9) rfl Tryz.func118 rfl jaa ?_;refine hK _ _ ?_;exact ⟨n9,rfl,by simpa using o9⟩
theorem f42_c (m:Md Tryz.prog B) (h:Hp) (x y:Int):FnC m 42 #[.int .i64 x,.int .i64 y] h fun v h'=>h'=h∧v= .agg [.int .i64 x,.int .i64 y].toArray:=by
 refine jad Tryz.func42 rfl rfl (l:=(.int .i64 x)::(.int .i64 y)::uu6) rfl ?_
 intro cf cs K hK
 refine rs1 ?_;refine jaw rfl zq (fun q4=>k_hp (jac ?_));refine jaB ?_;refine d69 ?_;refine jcP rfl zq ?_;refine d120 ?_;refine jab (h) rfl Tryz.func42 rfl jaa ?_;refine hK _ _ ?_;exact ⟨rfl,rfl⟩
theorem f9_c (m:Md Tryz.prog B) (h:Hp) (x:Int):FnC m 9 #[.int .i64 x] h fun v h'=>h'=h∧v= .agg [.int .i64 x,.int .i64 x].toArray:=by
 refine jad Tryz.func9 rfl rfl (l:=[.int .i64 x,undef,undef,undef,undef,undef]) rfl ?_
 intro cf cs K hK
 refine rs1 ?_;refine jaw rfl zq (fun q2=>k_hp (jac ?_));refine jaB ?_;refine d69 ?_;refine jae (Post:=fun v=>v=_) rfl zq (by kernel_rfl) (fun H' hH=>f42_c m H' x x) ?_;rintro v rfl;refine jac ?_;refine d120 ?_;refine jab (h) rfl Tryz.func9 rfl jaa ?_;refine hK _ _ ?_;exact ⟨rfl,rfl⟩
theorem f56_c (m:Md Tryz.prog B) (h:Hp) (rdp:Rp B h b pp np cp) (hp:np≤1000) (rdt:Rt B h b pt nt ct) (ht:nt≤1000) (rdk:Rk B h b pk nk ck) (hk:nk≤1000):FnC m 56 #[fbV b pp np cp pt nt ct pk nk ck] h fun v h'=> ∃nw,h'=h++nw∧ ∃w,v= .tuple [w,.int .i64 (openS b 0)].toArray∧BkF B (jiG b) nw w:=by
 have hml:=rdp.elen (by decide)
 refine jad Tryz.func56 rfl rfl (l:=(fbV b pp np cp pt nt ct pk nk ck)::uu27) rfl ?_
 intro cf cs K hK
 refine rs3 ?_;refine jaq rfl zq (fun q1=>k_hp (jac ?_));refine jaw rfl zq (fun q2=>k_hp (jac ?_));refine d10 ?_;refine d184 ?_
 refine jat rfl zq (by kernel_rfl) (Post:=fun v nw=>Opened b (fbV b pp np cp pt nt ct pk nk ck) (openS b (0:Int)) nw v) (fun H' hH=>f76_c m H' (rdp.keeps (sq hH)) hp (rdt.keeps (sq hH)) ht (rdk.keeps (sq hH)) hk jhC (fun hbz K hK=>by simpa using f85_c m K (b:=b))) ?_;rintro v nw ⟨x1,p1,n1,c1,p2,n2,c2,p3,n3,c3,z1,z2,z3,rfl,hz⟩;refine jaL (jac ?_);refine d47 ?_
 refine jaw rfl zq (fun q4=>k_hp (jac ?_));refine jaO rfl zq (by first|rfl|exact jaf _) ?_;refine aq rfl ?_;refine d16 ?_
 refine jaF rfl zq (fun hc=>?_) (fun hc=>?_)
 ·refine d178 ?_;refine d80 ?_
  refine jab (h) rfl Tryz.func56 rfl jaa ?_;refine hK _ _ ?_;exact ⟨[],by simp,_,rfl,by rw [jiG,if_neg (by assumption)];exact BkF.zero⟩
 ·refine d36 ?_
  refine jah [(0,.pure),(3,.pure),(6,.pure),(1,.read),(4,.read),(7,.read),(2,.keep),(9,.pure),(5,.keep),(8,.keep),(10,.free),(11,.pure),(12,.free),(13,.pure),(14,.free)] (by kernel_rfl) (by kernel_rfl) (List.Sublist.refl _) ?_;have hz0:openS b (0:Int)=0:=by first|assumption|omega
  obtain ⟨hz1,rfl,hzc,rdB⟩:=hz hz0
  injection hz1 with hz1
  injection hz1 with hz1
  injection hz1 with e1 hz1
  injection hz1 with e2 hz1
  injection hz1 with e3 hz1
  injection hz1 with e4 hz1
  injection e1 with _ e1
  injection e2 with u1 u2 u3
  injection e3 with u4 u5 u6
  injection e4 with u7 u8 u9
  subst e1 u1 u2 u3 u4 u5 u6 u7 u8 u9
  obtain ⟨hbz,hoz,hbne⟩:=openS_zero hz0
  have hv:=jaH hbz
  have hpo:=hv.pts
  have hv5:=hpo.five
  have hbl:=jaX hpo
  have hpos:0<(boatsOf b).length:=List.length_pos_iff.2 hbne
  refine d8 ?_;refine d1 ?_;refine d85 ?_
  refine jat rfl zq (by kernel_rfl) (fun H' hH=>f117_c m H' (rdp.keeps (sq hH)) (by omega)) ?_;rintro v n1 o1;refine jaL (jac ?_);obtain ⟨p1,c1,rfl,hc1,r1⟩:=jbq (B:=B) o1
  (first|refine jcc rfl zq ?_|refine k_fa rfl zq ?_)
  refine jat rfl zq (by kernel_rfl) (fun H' hH=>f118_c m H' (rdt.keeps (sq hH)) (by omega)) ?_;rintro v n2 o2;refine jaL (jac ?_);obtain ⟨p2,c2,rfl,hc2,r2⟩:=jbq (B:=B) o2
  refine jat rfl zq (by kernel_rfl) (fun H' hH=>f55_c m H' (rdk.keeps (sq hH)) (by omega)) ?_;rintro v n3 o3;refine jaL (jac ?_);obtain ⟨p3,c3,rfl,hc3,r3⟩:=jbq (B:=B) o3
  refine jcg rfl zq ?_;(first|refine jcc rfl zq ?_|refine k_fa rfl zq ?_);refine jcg rfl zq ?_;refine d70 ?_;refine d96 ?_;refine d80 ?_;refine jab (h++n1++n2++n3) rfl Tryz.func56 rfl jaa ?_;refine hK _ _ ?_;refine ⟨n1++n2++n3,by simp only [List.append_assoc],_,by rw [hz0],?_⟩
  rw [jiG,if_pos hz0];exact ⟨p1,np,c1,p2,nt,c2,p3,nk,c3,rfl,r1.up,r2.up,r3.up⟩
theorem f14_c (m:Md Tryz.prog B) (h:Hp) (rdp:Rp B h b pp np cp) (hp:np≤1000) (rdt:Rt B h b pt nt ct) (ht:nt≤1000) (rdk:Rk B h b pk nk ck) (hk:nk≤1000) (x:Sk):FnC m 14 #[fbV b pp np cp pt nt ct pk nk ck,skV x] h fun v h'=> ∃nw,h'=h++nw∧ ∃w,v= .tuple [w,.int .i64 (jd5 b x)].toArray∧BkF B (jcQ b x) nw w:=by
 have hml:=rdp.elen (by decide)
 have htl:=rdt.elen (by decide)
 have hkl:=rdk.elen (by decide)
 refine jad Tryz.func14 rfl rfl (l:=(fbV b pp np cp pt nt ct pk nk ck)::(skV x)::uu22) rfl ?_
 intro cf cs K hK
 refine rs4 ?_;refine jaq rfl zq (fun q2=>k_hp (jac ?_));refine jaq rfl zq (fun q3=>k_hp (jac ?_));refine jaw rfl zq (fun q4=>k_hp (jac ?_));refine d10 ?_;refine d96 ?_
 refine jae (Post:=fun v=>v=_) rfl zq (by kernel_rfl) (fun H' hH=>f54_c m H' (rdp.keeps (sq hH)) hp (rdt.keeps (sq hH)) ht (rdk.keeps (sq hH)) hk) ?_;rintro v rfl;refine d135 ?_
 refine jaF rfl zq (fun hc=>?_) (fun hc=>?_)
 ·refine d178 ?_;refine d80 ?_
  refine jab (h) rfl Tryz.func14 rfl jaa ?_;refine hK _ _ ?_;exact ⟨[],by simp,_,by rw [jd5,if_pos (by assumption)],by rw [jcQ,if_pos (by assumption)];exact BkF.zero⟩
 ·have hv:=jaH hc
  have hv1:=hv.few
  have hv2:=hv.few'
  refine d36 ?_
  refine jc7 [0,1,2,3,4,5,6,7] (by kernel_rfl) (by kernel_rfl) (List.Sublist.refl _) ?_;refine DrawT.split 2 4 (by decide) ?_ ?_
  ·refine DrawT.leaf [(0,.pure),(1,.read),(3,.read),(2,.keep),(4,.keep),(5,.free),(6,.pure),(7,.free)] (by kernel_rfl) ?_
   refine d157 ?_
   refine jat rfl zq (by kernel_rfl) (fun H' hH=>f55_c m H' (rdk.keeps (sq hH)) (by omega)) ?_;rintro v n2 o2;refine jaL (jac ?_);obtain ⟨p2,c2,rfl,hc2,r2⟩:=jbq (B:=B) o2
   refine k_bs kdq rfl zq (by decide) (by decide) rfl (fun q17=>k_hp (jac ?_));refine jbH rfl zq rfl o2 kdq (by omega) (by omega) (fun w9 n9 o9=>jac ?_);replace o9:OwnS 50 3 w9 (nk+1) (encs (addK b x).sticks) n9:=by rw [show encs (addK b x).sticks=encs b.sticks++skL x by rw [addK,jaV,je4]];exact o9
   obtain ⟨p9,c9,rfl,hc9,r9⟩:=jbq (B:=B) o9
   refine d70 ?_;refine rs6 ?_;refine jaT rfl zq ?_
   refine jat rfl zq (by kernel_rfl) (fun H' hH=>f56_c m H' (b:=addK b x) (rdp.keeps (sq hH)) hp (rdt.keeps (sq hH)) ht (r9.keeps (sq hH)) (by omega)) ?_;rintro v n5 ⟨w5,rfl,hb5⟩;obtain ⟨pp5,np5,cp5,pt5,nt5,ct5,pk5,nk5,ck5,rfl,hr5⟩:=hb5
   refine jaL (jac ?_);refine d17 ?_;refine d80 ?_
   refine jab (h++n5) rfl Tryz.func14 rfl jaa ?_;refine hK _ _ ?_;exact ⟨n5,rfl,_,by rw [jd5,if_neg (fun e=>e hc)],by rw [jcQ,if_neg (fun e=>e hc)];exact ⟨_,_,_,_,_,_,_,_,_,rfl,hr5⟩⟩
  ·refine DrawT.leaf [(0,.pure),(1,.read),(3,.read),(4,.keep),(2,.keep),(5,.free),(6,.pure),(7,.free)] (by kernel_rfl) ?_
   refine d157 ?_
   refine k_bs kdq rfl zq (by decide) (by decide) rfl (fun q17=>k_hp (jac ?_));refine jat rfl zq (by kernel_rfl) (fun H' hH=>f55_c m H' (rdk.keeps (sq hH)) (by omega)) ?_;rintro v n2 o2;refine jaL (jac ?_);obtain ⟨p2,c2,rfl,hc2,r2⟩:=jbq (B:=B) o2
   refine jbH rfl zq rfl o2 kdq (by omega) (by omega) (fun w9 n9 o9=>jac ?_);replace o9:OwnS 50 3 w9 (nk+1) (encs (addK b x).sticks) n9:=by rw [show encs (addK b x).sticks=encs b.sticks++skL x by rw [addK,jaV,je4]];exact o9
   obtain ⟨p9,c9,rfl,hc9,r9⟩:=jbq (B:=B) o9
   refine d70 ?_;refine rs6 ?_;refine jaT rfl zq ?_
   refine jat rfl zq (by kernel_rfl) (fun H' hH=>f56_c m H' (b:=addK b x) (rdp.keeps (sq hH)) hp (rdt.keeps (sq hH)) ht (r9.keeps (sq hH)) (by omega)) ?_;rintro v n5 ⟨w5,rfl,hb5⟩;obtain ⟨pp5,np5,cp5,pt5,nt5,ct5,pk5,nk5,ck5,rfl,hr5⟩:=hb5
   refine jaL (jac ?_);refine d17 ?_;refine d80 ?_
   refine jab (h++n5) rfl Tryz.func14 rfl jaa ?_;refine hK _ _ ?_;exact ⟨n5,rfl,_,by rw [jd5,if_neg (fun e=>e hc)],by rw [jcQ,if_neg (fun e=>e hc)];exact ⟨_,_,_,_,_,_,_,_,_,rfl,hr5⟩⟩
theorem f16_c (m:Md Tryz.prog B) (h:Hp) (rdk:Rk B h b pk nk ck) (hn:nk≤1000) (x:Sk):FnC m 16 #[fbV b pp np cp pt nt ct pk nk ck,skV x] h fun v h'=> ∃nw,h'=h++nw∧ ∃rp rc,v=fbV (addK b x) pp np cp pt nt ct rp (nk+1) rc∧RdS B nw 3 (.slice rp (nk+1) rc) (nk+1) (encs (addK b x).sticks):=by
 have hnl:=rdk.elen (by decide)
 refine jad Tryz.func16 rfl rfl (l:=(fbV b pp np cp pt nt ct pk nk ck)::(skV x)::uu14) rfl ?_
 intro cf cs K hK
 refine rs3 ?_;refine jaq rfl zq (fun q2=>k_hp (jac ?_));refine jaq rfl zq (fun q3=>k_hp (jac ?_));refine jaw rfl zq (fun q4=>k_hp (jac ?_));refine jaB ?_;refine d96 ?_;refine jaw rfl zq (fun q5=>k_hp (jac ?_));refine d142 ?_
 refine jc7 [0,1,2,3,4,5,6,7,8] (by kernel_rfl) (by kernel_rfl) (List.Sublist.refl _) ?_;refine DrawT.split 0 5 (by decide) ?_ ?_
 ·refine DrawT.split 3 5 (by decide) ?_ ?_
  ·refine DrawT.leaf [(1,.pure),(2,.read),(4,.read),(0,.keep),(3,.keep),(5,.keep),(6,.keep),(7,.pure),(8,.free)] (by kernel_rfl) ?_
   refine d157 ?_
   refine jf1 kdq rfl zq (fun q7=>k_hp (jac ?_));refine jgU rfl zq (OwnS.zero (q:=q7)) rdk.up (jcp _) kdq (by omega) (by omega) (fun w10 n10 o10=>jac ?_);replace o10:OwnS 50 3 w10 nk (encs b.sticks) n10:=by simpa using o10
   refine k_bs kdq rfl zq (by decide) (by decide) rfl (fun q12=>k_hp (jac ?_));refine jbH rfl zq rfl o10 kdq (by omega) (by omega) (fun w13 n13 o13=>jac ?_);replace o13:OwnS 50 3 w13 (nk+1) (encs (addK b x).sticks) n13:=by rw [show encs (addK b x).sticks=encs b.sticks++skL x by rw [addK,jaV,je4]];exact o13
   obtain ⟨p13,c13,rfl,_,r13⟩:=jbq (B:=B) o13
   refine d70 ?_;refine d132 ?_;refine d120 ?_
   refine jab (h++n13) rfl Tryz.func16 rfl jaa ?_;refine hK _ _ ?_;exact ⟨n13,rfl,_,_,rfl,r13⟩
  ·refine DrawT.leaf [(1,.pure),(2,.read),(4,.read),(0,.keep),(5,.keep),(3,.keep),(6,.keep),(7,.pure),(8,.free)] (by kernel_rfl) ?_
   refine d157 ?_
   refine jf1 kdq rfl zq (fun q7=>k_hp (jac ?_));refine k_bs kdq rfl zq (by decide) (by decide) rfl (fun q12=>k_hp (jac ?_));refine jgU rfl zq (OwnS.zero (q:=q7)) rdk.up (jcp _) kdq (by omega) (by omega) (fun w10 n10 o10=>jac ?_);replace o10:OwnS 50 3 w10 nk (encs b.sticks) n10:=by simpa using o10
   refine jbH rfl zq rfl o10 kdq (by omega) (by omega) (fun w13 n13 o13=>jac ?_);replace o13:OwnS 50 3 w13 (nk+1) (encs (addK b x).sticks) n13:=by rw [show encs (addK b x).sticks=encs b.sticks++skL x by rw [addK,jaV,je4]];exact o13
   obtain ⟨p13,c13,rfl,_,r13⟩:=jbq (B:=B) o13
   refine d70 ?_;refine d132 ?_;refine d120 ?_
   refine jab (h++n13) rfl Tryz.func16 rfl jaa ?_;refine hK _ _ ?_;exact ⟨n13,rfl,_,_,rfl,r13⟩
 ·refine DrawT.leaf [(1,.pure),(2,.read),(4,.read),(5,.keep),(0,.keep),(3,.keep),(6,.keep),(7,.pure),(8,.free)] (by kernel_rfl) ?_
  refine d157 ?_
  refine k_bs kdq rfl zq (by decide) (by decide) rfl (fun q12=>k_hp (jac ?_));refine jf1 kdq rfl zq (fun q7=>k_hp (jac ?_));refine jgU rfl zq (OwnS.zero (q:=q7)) rdk.up (jcp _) kdq (by omega) (by omega) (fun w10 n10 o10=>jac ?_);replace o10:OwnS 50 3 w10 nk (encs b.sticks) n10:=by simpa using o10
  refine jbH rfl zq rfl o10 kdq (by omega) (by omega) (fun w13 n13 o13=>jac ?_);replace o13:OwnS 50 3 w13 (nk+1) (encs (addK b x).sticks) n13:=by rw [show encs (addK b x).sticks=encs b.sticks++skL x by rw [addK,jaV,je4]];exact o13
  obtain ⟨p13,c13,rfl,_,r13⟩:=jbq (B:=B) o13
  refine d70 ?_;refine d132 ?_;refine d120 ?_
  refine jab (h++n13) rfl Tryz.func16 rfl jaa ?_;refine hK _ _ ?_;exact ⟨n13,rfl,_,_,rfl,r13⟩
theorem f39_c (m:Md Tryz.prog B) (h:Hp) (rdt:Rt B h b pt nt ct) (hn:nt≤1000) (x:Tp):FnC m 39 #[fbV b pp np cp pt nt ct pk nk ck,tpV x] h fun v h'=> ∃nw,h'=h++nw∧ ∃rp rc,v=fbV (addT b x) pp np cp rp (nt+1) rc pk nk ck∧RdS B nw 4 (.slice rp (nt+1) rc) (nt+1) (encs (addT b x).tapes):=by
 have hnl:=rdt.elen (by decide)
 refine jad Tryz.func39 rfl rfl (l:=(fbV b pp np cp pt nt ct pk nk ck)::(tpV x)::uu14) rfl ?_
 intro cf cs K hK
 refine rs3 ?_;refine jaq rfl zq (fun q2=>k_hp (jac ?_));refine jaq rfl zq (fun q3=>k_hp (jac ?_));refine jaw rfl zq (fun q4=>k_hp (jac ?_));refine jaB ?_;refine d96 ?_;refine jaw rfl zq (fun q5=>k_hp (jac ?_));refine d142 ?_
 refine jc7 [0,1,2,3,4,5,6,7,8] (by kernel_rfl) (by kernel_rfl) (List.Sublist.refl _) ?_;refine DrawT.split 0 5 (by decide) ?_ ?_
 ·refine DrawT.split 3 5 (by decide) ?_ ?_
  ·refine DrawT.leaf [(1,.pure),(2,.read),(4,.read),(0,.keep),(3,.keep),(5,.keep),(6,.keep),(7,.pure),(8,.free)] (by kernel_rfl) ?_
   refine d157 ?_
   refine jf1 kdq rfl zq (fun q7=>k_hp (jac ?_));refine jgU rfl zq (OwnS.zero (q:=q7)) rdt.up (jcp _) kdq (by omega) (by omega) (fun w10 n10 o10=>jac ?_);replace o10:OwnS 89 4 w10 nt (encs b.tapes) n10:=by simpa using o10
   refine k_bs kdq rfl zq (by decide) (by decide) rfl (fun q12=>k_hp (jac ?_));refine jbH rfl zq rfl o10 kdq (by omega) (by omega) (fun w13 n13 o13=>jac ?_);replace o13:OwnS 89 4 w13 (nt+1) (encs (addT b x).tapes) n13:=by rw [show encs (addT b x).tapes=encs b.tapes++tpL x by rw [addT,jaV,jhz]];exact o13
   obtain ⟨p13,c13,rfl,_,r13⟩:=jbq (B:=B) o13
   refine d70 ?_;refine d132 ?_;refine d120 ?_
   refine jab (h++n13) rfl Tryz.func39 rfl jaa ?_;refine hK _ _ ?_;exact ⟨n13,rfl,_,_,rfl,r13⟩
  ·refine DrawT.leaf [(1,.pure),(2,.read),(4,.read),(0,.keep),(5,.keep),(3,.keep),(6,.keep),(7,.pure),(8,.free)] (by kernel_rfl) ?_
   refine d157 ?_
   refine jf1 kdq rfl zq (fun q7=>k_hp (jac ?_));refine k_bs kdq rfl zq (by decide) (by decide) rfl (fun q12=>k_hp (jac ?_));refine jgU rfl zq (OwnS.zero (q:=q7)) rdt.up (jcp _) kdq (by omega) (by omega) (fun w10 n10 o10=>jac ?_);replace o10:OwnS 89 4 w10 nt (encs b.tapes) n10:=by simpa using o10
   refine jbH rfl zq rfl o10 kdq (by omega) (by omega) (fun w13 n13 o13=>jac ?_);replace o13:OwnS 89 4 w13 (nt+1) (encs (addT b x).tapes) n13:=by rw [show encs (addT b x).tapes=encs b.tapes++tpL x by rw [addT,jaV,jhz]];exact o13
   obtain ⟨p13,c13,rfl,_,r13⟩:=jbq (B:=B) o13
   refine d70 ?_;refine d132 ?_;refine d120 ?_
   refine jab (h++n13) rfl Tryz.func39 rfl jaa ?_;refine hK _ _ ?_;exact ⟨n13,rfl,_,_,rfl,r13⟩
 ·refine DrawT.leaf [(1,.pure),(2,.read),(4,.read),(5,.keep),(0,.keep),(3,.keep),(6,.keep),(7,.pure),(8,.free)] (by kernel_rfl) ?_
  refine d157 ?_
  refine k_bs kdq rfl zq (by decide) (by decide) rfl (fun q12=>k_hp (jac ?_));refine jf1 kdq rfl zq (fun q7=>k_hp (jac ?_));refine jgU rfl zq (OwnS.zero (q:=q7)) rdt.up (jcp _) kdq (by omega) (by omega) (fun w10 n10 o10=>jac ?_);replace o10:OwnS 89 4 w10 nt (encs b.tapes) n10:=by simpa using o10
  refine jbH rfl zq rfl o10 kdq (by omega) (by omega) (fun w13 n13 o13=>jac ?_);replace o13:OwnS 89 4 w13 (nt+1) (encs (addT b x).tapes) n13:=by rw [show encs (addT b x).tapes=encs b.tapes++tpL x by rw [addT,jaV,jhz]];exact o13
  obtain ⟨p13,c13,rfl,_,r13⟩:=jbq (B:=B) o13
  refine d70 ?_;refine d132 ?_;refine d120 ?_
  refine jab (h++n13) rfl Tryz.func39 rfl jaa ?_;refine hK _ _ ?_;exact ⟨n13,rfl,_,_,rfl,r13⟩
theorem jfJ {α:Type} [Inhabited α] {xs ys:List α} {k:Nat} (h1:k<xs.length) (h2:k<ys.length) (h:xs.take k=ys.take k) (e:xs.getD k default=ys.getD k default):xs.take (k+1)=ys.take (k+1):=by
 rw [List.take_succ,List.take_succ,h,List.getElem?_eq_getElem h1,List.getElem?_eq_getElem h2];rw [List.getD_eq_getElem?_getD,List.getD_eq_getElem?_getD,List.getElem?_eq_getElem h1,List.getElem?_eq_getElem h2] at e
 simp only [Option.getD_some] at e
 rw [e]
instance:KeyT Tryz.prog 30:=⟨by kernel_rfl⟩
instance:Key3T Tryz.prog 32:=⟨by kernel_rfl⟩
instance:Key4T Tryz.prog 89:=⟨by kernel_rfl⟩
instance:KeyST Tryz.prog 50:=⟨by kernel_rfl⟩
theorem pt_ext {x y:Pt} (h:x.h=y.h∧x.lo=y.lo∧x.hi=y.hi):x=y:=by cases x;cases y;simp_all
theorem tp_ext {x y:Tp} (h:x.f=y.f∧x.t=y.t∧x.lo=y.lo∧x.hi=y.hi):x=y:=by cases x;cases y;simp_all
theorem sk_ext {x y:Sk} (h:x.h=y.h∧x.long=y.long∧x.fits=y.fits):x=y:=by cases x;cases y;simp_all
theorem jfk {x y:Fb} (h1:x.plank=y.plank) (h2:x.pts=y.pts) (h3:x.tapes=y.tapes) (h4:x.sticks=y.sticks):x=y:=by cases x;cases y;simp_all
theorem f15_c (m:Md Tryz.prog B) (h:Hp) (rdp:Rp B h b pp np cp) (hp:np≤1000) (rdt:Rt B h b pt nt ct) (ht:nt≤1000) (rdk:Rk B h b pk nk ck) (hk:nk≤1000) {b2:Fb} {pp2:Option Addr} {np2 cp2:Nat} {pt2:Option Addr} {nt2 ct2:Nat} {pk2:Option Addr} {nk2 ck2:Nat} (rdp2:RdS B h 3 (.slice pp2 np2 cp2) np2 (encs b2.pts)) (hp2:np2≤1000) (rdt2:RdS B h 4 (.slice pt2 nt2 ct2) nt2 (encs b2.tapes)) (ht2:nt2≤1000) (rdk2:RdS B h 3 (.slice pk2 nk2 ck2) nk2 (encs b2.sticks)) (hk2:nk2≤1000):FnC m 15 #[fbV b pp np cp pt nt ct pk nk ck,fbV b2 pp2 np2 cp2 pt2 nt2 ct2 pk2 nk2 ck2] h fun v h'=>h'=h∧IsB (b=b2) v:=by
 have hml:=rdp.elen (by decide)
 have htl:=rdt.elen (by decide)
 have hkl:=rdk.elen (by decide)
 have hml2:=rdp2.elen (by decide)
 have htl2:=rdt2.elen (by decide)
 have hkl2:=rdk2.elen (by decide)
 refine jad Tryz.func15 rfl rfl (l:=(fbV b pp np cp pt nt ct pk nk ck)::(fbV b2 pp2 np2 cp2 pt2 nt2 ct2 pk2 nk2 ck2)::uu92) rfl ?_
 intro cf cs K hK
 refine rs3 ?_;refine jaq rfl zq (fun q2=>k_hp (jac ?_));refine jaq rfl zq (fun q3=>k_hp (jac ?_));refine d10 ?_;refine jak ?_
 refine jaA [(0,.free),(1,.free),(2,.free),(3,.free),(4,.free),(5,.free),(6,.free),(7,.free),(8,.free),(9,.free),(10,.free),(11,.free),(12,.free),(13,.free),(14,.free),(15,.free),(16,.free),(17,.free),(18,.free),(19,.free),(20,.free),(21,.free),(22,.free),(23,.free),(24,.free),(25,.free),(26,.free),(27,.free),(28,.free),(29,.free),(30,.free),(31,.free)] (by kernel_rfl) (by kernel_rfl) ?_;refine d1 ?_;refine d1 ?_
 refine jaF rfl zq (fun hc=>?_) (fun hc=>?_)
 ·refine d89 ?_;refine d76 ?_;refine d89 ?_;refine d76 ?_;refine d89 ?_;refine d76 ?_;refine d50 ?_
  refine jab (h) rfl Tryz.func15 rfl jaa ?_;refine hK _ _ ?_;first
   |(have hmk:b.sticks=b2.sticks:=by
      rw [List.take_of_length_le (by omega),List.take_of_length_le (by omega)] at hew
      exact hew
     exact ⟨rfl,IsB.yes (jfk (by omega) hmp hmt hmk)⟩)
   |exact ⟨rfl,IsB.no (fun e=>by
   have e1:=congrArg Fb.plank e
   have e2:=congrArg (fun x:Fb=>x.pts.length) e
   have e3:=congrArg (fun x:Fb=>x.tapes.length) e
   have e4:=congrArg (fun x:Fb=>x.sticks.length) e
   first|omega|(rw [e] at hx;exact hx ⟨rfl,rfl,rfl⟩)|(rw [e] at hx;exact hx ⟨rfl,rfl,rfl,rfl⟩))⟩
 ·refine d173 ?_;refine d12 ?_;refine jcO rfl rfl ?_
  refine jaF rfl rfl (fun hc=>?_) (fun hc=>?_)
  ·refine jau rfl zq ?_;refine d89 ?_;refine d76 ?_;refine d89 ?_;refine d76 ?_;refine d50 ?_;refine jab (h) rfl Tryz.func15 rfl jaa ?_;refine hK _ _ ?_;first
    |(have hmk:b.sticks=b2.sticks:=by
       rw [List.take_of_length_le (by omega),List.take_of_length_le (by omega)] at hew
       exact hew
      exact ⟨rfl,IsB.yes (jfk (by omega) hmp hmt hmk)⟩)
    |exact ⟨rfl,IsB.no (fun e=>by
    have e1:=congrArg Fb.plank e
    have e2:=congrArg (fun x:Fb=>x.pts.length) e
    have e3:=congrArg (fun x:Fb=>x.tapes.length) e
    have e4:=congrArg (fun x:Fb=>x.sticks.length) e
    first|omega|(rw [e] at hx;exact hx ⟨rfl,rfl,rfl⟩)|(rw [e] at hx;exact hx ⟨rfl,rfl,rfl,rfl⟩))⟩
  ·refine jau rfl zq ?_;refine d173 ?_;refine d12 ?_;refine jcO rfl rfl ?_;refine jaF rfl rfl (fun hc=>?_) (fun hc=>?_)
   ·refine jau rfl zq ?_;refine d89 ?_;refine d76 ?_;refine d50 ?_;refine jab (h) rfl Tryz.func15 rfl jaa ?_;refine hK _ _ ?_;first
     |(have hmk:b.sticks=b2.sticks:=by
        rw [List.take_of_length_le (by omega),List.take_of_length_le (by omega)] at hew
        exact hew
       exact ⟨rfl,IsB.yes (jfk (by omega) hmp hmt hmk)⟩)
     |exact ⟨rfl,IsB.no (fun e=>by
     have e1:=congrArg Fb.plank e
     have e2:=congrArg (fun x:Fb=>x.pts.length) e
     have e3:=congrArg (fun x:Fb=>x.tapes.length) e
     have e4:=congrArg (fun x:Fb=>x.sticks.length) e
     first|omega|(rw [e] at hx;exact hx ⟨rfl,rfl,rfl⟩)|(rw [e] at hx;exact hx ⟨rfl,rfl,rfl,rfl⟩))⟩
   ·refine jau rfl zq ?_;refine d173 ?_;refine d12 ?_;refine jcO rfl rfl ?_;refine jaF rfl rfl (fun hc=>?_) (fun hc=>?_)
    ·refine d123 ?_
     refine jab (h) rfl Tryz.func15 rfl jaa ?_;refine hK _ _ ?_;first
      |(have hmk:b.sticks=b2.sticks:=by
         rw [List.take_of_length_le (by omega),List.take_of_length_le (by omega)] at hew
         exact hew
        exact ⟨rfl,IsB.yes (jfk (by omega) hmp hmt hmk)⟩)
      |exact ⟨rfl,IsB.no (fun e=>by
      have e1:=congrArg Fb.plank e
      have e2:=congrArg (fun x:Fb=>x.pts.length) e
      have e3:=congrArg (fun x:Fb=>x.tapes.length) e
      have e4:=congrArg (fun x:Fb=>x.sticks.length) e
      first|omega|(rw [e] at hx;exact hx ⟨rfl,rfl,rfl⟩)|(rw [e] at hx;exact hx ⟨rfl,rfl,rfl,rfl⟩))⟩
    ·refine jau rfl zq ?_;refine d36 ?_;refine d98 ?_;refine jag (fun nn l h'=> ∃(u:Nat),nn=np-u∧(u≤np)∧(b.pts.take u=b2.pts.take u)∧(∃U:Nat→Value,l=((U 0)::(U 1)::(.pointer (some ⟨q2,0,none⟩))::(.pointer (some ⟨q3,0,none⟩))::(U 4)::(.int .i64 (u:Int))::vw88 U 6 []))∧h++[⟨true,q2,.cells (fbL b pp np cp pt nt ct pk nk ck).toArray 26 (0,0)⟩,⟨true,q3,.cells (fbL b2 pp2 np2 cp2 pt2 nt2 ct2 pk2 nk2 ck2).toArray 26 (0,0)⟩]=h') _ ⟨0,rfl,by omega,rfl,exU rfl,rfl⟩ ?_;rintro nn l h' ⟨u,rfl,hu,heu,⟨U,rfl⟩,rfl⟩ hnext1;refine d158 ?_;refine d95 ?_
     refine jap rfl zq (fun hc=>?_) (fun hc=>?_)
     ·refine d97 ?_
      refine jah [(0,.pure),(2,.pure),(5,.pure),(7,.pure),(1,.read),(3,.pure),(4,.read),(6,.read),(8,.pure),(9,.read),(10,.pure)] (by kernel_rfl) (by kernel_rfl) (List.Sublist.refl _) ?_;refine d61 ?_;refine d61 ?_;refine jbb rfl zq ?_
      obtain ⟨m1,o1,rfl⟩:=rdp.ptr (by omega)
      refine jaJ rfl zq (by first|rfl|assumption) (by omega) (by omega) ?_;refine jbf (vs:=ptL (b.pts.getD u default)) rfl zq rfl (rdp.eat u (by omega) (by omega)) ?_;refine jbb rfl zq ?_;obtain ⟨n1,u1,rfl⟩:=rdp2.ptr (by omega)
      refine jaJ rfl zq (by first|rfl|assumption) (by omega) (by omega) ?_;refine jbf (vs:=ptL (b2.pts.getD u default)) rfl zq rfl (rdp2.eat u (by omega) (by omega)) ?_;refine k_neq3 (hg:=by kernel_rfl) rfl zq (fun hc=>?_) (fun hc=>?_)
      ·have hx:=hc
       refine d50 ?_
       refine jab (h) rfl Tryz.func15 rfl jaa ?_;refine hK _ _ ?_;first
        |(have hmk:b.sticks=b2.sticks:=by
           rw [List.take_of_length_le (by omega),List.take_of_length_le (by omega)] at hew
           exact hew
          exact ⟨rfl,IsB.yes (jfk (by omega) hmp hmt hmk)⟩)
        |exact ⟨rfl,IsB.no (fun e=>by
        have e1:=congrArg Fb.plank e
        have e2:=congrArg (fun x:Fb=>x.pts.length) e
        have e3:=congrArg (fun x:Fb=>x.tapes.length) e
        have e4:=congrArg (fun x:Fb=>x.sticks.length) e
        first|omega|(rw [e] at hx;exact hx ⟨rfl,rfl,rfl⟩)|(rw [e] at hx;exact hx ⟨rfl,rfl,rfl,rfl⟩))⟩
      ·have hx:=hc
       refine d105 ?_
       exact m.weak jaa (hnext1 _ _ _ (by omega) ⟨u+1,rfl,by omega,jfJ (by omega) (by omega) heu (pt_ext hx),exU rfl,rfl⟩)
     ·refine d41 ?_;refine jak ?_;refine rs1 ?_
      have hmp:b.pts=b2.pts:=by
       rw [List.take_of_length_le (by omega),List.take_of_length_le (by omega)] at heu
       exact heu
      refine d39 ?_
      refine jag (fun nn l h'=> ∃(v:Nat),nn=nt-v∧(v≤nt)∧(b.tapes.take v=b2.tapes.take v)∧(∃U:Nat→Value,l=((U 0)::(U 1)::(.pointer (some ⟨q2,0,none⟩))::(.pointer (some ⟨q3,0,none⟩))::(U 4)::(U 5)::(.int .i64 (v:Int))::vw87 U 7 []))∧h++[⟨true,q2,.cells (fbL b pp np cp pt nt ct pk nk ck).toArray 26 (0,0)⟩,⟨true,q3,.cells (fbL b2 pp2 np2 cp2 pt2 nt2 ct2 pk2 nk2 ck2).toArray 26 (0,0)⟩]=h') _ ⟨0,rfl,by omega,rfl,exU rfl,rfl⟩ ?_;rintro nn l h' ⟨v,rfl,hv,hev,⟨U,rfl⟩,rfl⟩ hnext2;refine d158 ?_;refine d95 ?_
      refine jap rfl zq (fun hc=>?_) (fun hc=>?_)
      ·refine d97 ?_
       refine jah [(0,.pure),(2,.pure),(5,.pure),(7,.pure),(1,.read),(3,.pure),(4,.read),(6,.read),(8,.pure),(9,.read),(10,.pure)] (by kernel_rfl) (by kernel_rfl) (List.Sublist.refl _) ?_;refine d61 ?_;refine d61 ?_;refine jbb rfl zq ?_
       obtain ⟨m2,o2,rfl⟩:=rdt.ptr (by omega)
       refine jaJ rfl zq (by first|rfl|assumption) (by omega) (by omega) ?_;refine jbf (vs:=tpL (b.tapes.getD v default)) rfl zq rfl (rdt.eat v (by omega) (by omega)) ?_;refine jbb rfl zq ?_;obtain ⟨n2,u2,rfl⟩:=rdt2.ptr (by omega)
       refine jaJ rfl zq (by first|rfl|assumption) (by omega) (by omega) ?_;refine jbf (vs:=tpL (b2.tapes.getD v default)) rfl zq rfl (rdt2.eat v (by omega) (by omega)) ?_;refine k_neq4 (hg:=by kernel_rfl) rfl zq (fun hc=>?_) (fun hc=>?_)
       ·have hx:=hc
        refine d50 ?_
        refine jab (h) rfl Tryz.func15 rfl jaa ?_;refine hK _ _ ?_;first
         |(have hmk:b.sticks=b2.sticks:=by
            rw [List.take_of_length_le (by omega),List.take_of_length_le (by omega)] at hew
            exact hew
           exact ⟨rfl,IsB.yes (jfk (by omega) hmp hmt hmk)⟩)
         |exact ⟨rfl,IsB.no (fun e=>by
         have e1:=congrArg Fb.plank e
         have e2:=congrArg (fun x:Fb=>x.pts.length) e
         have e3:=congrArg (fun x:Fb=>x.tapes.length) e
         have e4:=congrArg (fun x:Fb=>x.sticks.length) e
         first|omega|(rw [e] at hx;exact hx ⟨rfl,rfl,rfl⟩)|(rw [e] at hx;exact hx ⟨rfl,rfl,rfl,rfl⟩))⟩
       ·have hx:=hc
        refine d105 ?_
        exact m.weak jaa (hnext2 _ _ _ (by omega) ⟨v+1,rfl,by omega,jfJ (by omega) (by omega) hev (tp_ext hx),exU rfl,rfl⟩)
      ·refine d41 ?_;refine jak ?_;refine rs1 ?_
       have hmt:b.tapes=b2.tapes:=by
        rw [List.take_of_length_le (by omega),List.take_of_length_le (by omega)] at hev
        exact hev
       refine d39 ?_
       refine jag (fun nn l h'=> ∃(w:Nat),nn=nk-w∧(w≤nk)∧(b.sticks.take w=b2.sticks.take w)∧(∃U:Nat→Value,l=((U 0)::(U 1)::(.pointer (some ⟨q2,0,none⟩))::(.pointer (some ⟨q3,0,none⟩))::(U 4)::(U 5)::(U 6)::(.int .i64 (w:Int))::vw86 U 8 []))∧h++[⟨true,q2,.cells (fbL b pp np cp pt nt ct pk nk ck).toArray 26 (0,0)⟩,⟨true,q3,.cells (fbL b2 pp2 np2 cp2 pt2 nt2 ct2 pk2 nk2 ck2).toArray 26 (0,0)⟩]=h') _ ⟨0,rfl,by omega,rfl,exU rfl,rfl⟩ ?_;rintro nn l h' ⟨w,rfl,hw,hew,⟨U,rfl⟩,rfl⟩ hnext3;refine d158 ?_;refine d95 ?_
       refine jap rfl zq (fun hc=>?_) (fun hc=>?_)
       ·refine d97 ?_
        refine jah [(0,.pure),(2,.pure),(5,.pure),(7,.pure),(1,.read),(3,.pure),(4,.read),(6,.read),(8,.pure),(9,.read),(10,.pure)] (by kernel_rfl) (by kernel_rfl) (List.Sublist.refl _) ?_;refine d61 ?_;refine d61 ?_;refine jbb rfl zq ?_
        obtain ⟨m3,o3,rfl⟩:=rdk.ptr (by omega)
        refine jaJ rfl zq (by first|rfl|assumption) (by omega) (by omega) ?_;refine jbf (vs:=skL (b.sticks.getD w default)) rfl zq rfl (rdk.eat w (by omega) (by omega)) ?_;refine jbb rfl zq ?_;obtain ⟨n3,u3,rfl⟩:=rdk2.ptr (by omega)
        refine jaJ rfl zq (by first|rfl|assumption) (by omega) (by omega) ?_;refine jbf (vs:=skL (b2.sticks.getD w default)) rfl zq rfl (rdk2.eat w (by omega) (by omega)) ?_;refine k_neqSk (hg:=by kernel_rfl) rfl zq (fun hc=>?_) (fun hc=>?_)
        ·have hx:=hc
         refine d50 ?_
         refine jab (h) rfl Tryz.func15 rfl jaa ?_;refine hK _ _ ?_;first
          |(have hmk:b.sticks=b2.sticks:=by
             rw [List.take_of_length_le (by omega),List.take_of_length_le (by omega)] at hew
             exact hew
            exact ⟨rfl,IsB.yes (jfk (by omega) hmp hmt hmk)⟩)
          |exact ⟨rfl,IsB.no (fun e=>by
          have e1:=congrArg Fb.plank e
          have e2:=congrArg (fun x:Fb=>x.pts.length) e
          have e3:=congrArg (fun x:Fb=>x.tapes.length) e
          have e4:=congrArg (fun x:Fb=>x.sticks.length) e
          first|omega|(rw [e] at hx;exact hx ⟨rfl,rfl,rfl⟩)|(rw [e] at hx;exact hx ⟨rfl,rfl,rfl,rfl⟩))⟩
        ·have hx:=hc
         refine d105 ?_
         exact m.weak jaa (hnext3 _ _ _ (by omega) ⟨w+1,rfl,by omega,jfJ (by omega) (by omega) hew (sk_ext hx),exU rfl,rfl⟩)
       ·refine d160 ?_
        refine jab (h) rfl Tryz.func15 rfl jaa ?_;refine hK _ _ ?_;first
         |(have hmk:b.sticks=b2.sticks:=by
            rw [List.take_of_length_le (by omega),List.take_of_length_le (by omega)] at hew
            exact hew
           exact ⟨rfl,IsB.yes (jfk (by omega) hmp hmt hmk)⟩)
         |exact ⟨rfl,IsB.no (fun e=>by
         have e1:=congrArg Fb.plank e
         have e2:=congrArg (fun x:Fb=>x.pts.length) e
         have e3:=congrArg (fun x:Fb=>x.tapes.length) e
         have e4:=congrArg (fun x:Fb=>x.sticks.length) e
         first|omega|(rw [e] at hx;exact hx ⟨rfl,rfl,rfl⟩)|(rw [e] at hx;exact hx ⟨rfl,rfl,rfl,rfl⟩))⟩
def exF:Fb:=⟨2,[⟨0,3,3⟩,⟨4,6,7⟩,⟨12,12,13⟩],[⟨0,1,5,5⟩],[⟨8,9,true⟩]⟩
theorem f25_c (m:Md Tryz.prog B) (h:Hp):FnC m 25 #[] h fun v h'=> ∃nw,h'=h++nw∧BkF B exF nw v:=by
 refine jad Tryz.func25 rfl rfl (l:=uu14) rfl ?_
 intro cf cs K hK
 refine rs1 ?_;refine jaw rfl zq (fun q0=>k_hp (jac ?_));refine d25 ?_
 refine jaA [(0,.free),(1,.free),(2,.free),(3,.free),(4,.free),(5,.free),(6,.free),(7,.free),(8,.free),(9,.free),(10,.free),(11,.free),(12,.free),(13,.free)] (by kernel_rfl) (by kernel_rfl) ?_;refine jae (Post:=fun v=>v=_) rfl zq (by kernel_rfl) (fun H' hH=>f9_c m H' _) ?_;rintro v rfl;refine jac ?_;refine jcP rfl zq ?_;refine jae (Post:=fun v=>v=_) rfl zq (by kernel_rfl) (fun H' hH=>f42_c m H' _ _) ?_;rintro v rfl;refine jac ?_;refine jcP rfl zq ?_;refine jae (Post:=fun v=>v=_) rfl zq (by kernel_rfl) (fun H' hH=>f42_c m H' _ _) ?_;rintro v rfl;refine jac ?_;refine jcP rfl zq ?_;refine k_bs kdq rfl zq (by decide) (by decide) rfl (fun q7=>k_hp (jac ?_));refine jae (Post:=fun v=>v=_) rfl zq (by kernel_rfl) (fun H' hH=>f9_c m H' _) ?_;rintro v rfl;refine jac ?_;refine jcP rfl zq ?_;refine k_bs kdq rfl zq (by decide) (by decide) rfl (fun q9=>k_hp (jac ?_));refine jcP rfl zq ?_;refine k_bs kdq rfl zq (by decide) (by decide) rfl (fun q11=>k_hp (jac ?_));refine jcP rfl zq ?_;refine d120 ?_;refine jab (h++[⟨true,q7,.cells [.int .i64 0,.int .i64 3,.int .i64 3,.int .i64 4,.int .i64 6,.int .i64 7,.int .i64 12,.int .i64 12,.int .i64 13].toArray 32 (0,0)⟩,⟨true,q9,.cells [.int .i64 0,.int .i64 1,.int .i64 5,.int .i64 5].toArray 89 (0,0)⟩,⟨true,q11,.cells [.int .i64 8,.int .i64 9,.bool true].toArray 50 (0,0)⟩]) rfl Tryz.func25 rfl jaa ?_;refine hK _ _ ?_;exact ⟨_,rfl,_,3,3,_,1,1,_,1,1,rfl,jdj (ys:=encs exF.pts) (x:=⟨List.mem_cons_self⟩) rfl,jdj (ys:=encs exF.tapes) (x:=⟨List.mem_cons_of_mem _ List.mem_cons_self⟩) rfl,jdj (ys:=encs exF.sticks) (x:=⟨List.mem_cons_of_mem _ (List.mem_cons_of_mem _ List.mem_cons_self)⟩) rfl⟩
theorem f24_c (m:Md Tryz.prog B) (h:Hp):FnC m 24 #[fbV b pp np cp pt nt ct pk nk ck] h fun v h'=>h'=h∧IsB (20<(np:Int)∨20<(nt:Int)∨20<(nk:Int)) v:=by
 refine jad Tryz.func24 rfl rfl (l:=(fbV b pp np cp pt nt ct pk nk ck)::uu18) rfl ?_
 intro cf cs K hK
 refine rs2 ?_;refine jaq rfl zq (fun q1=>k_hp (jac ?_));refine d10 ?_
 refine jaA [(0,.free),(1,.free),(2,.free),(3,.free),(4,.free),(5,.free),(6,.free),(7,.free),(8,.free),(9,.free),(10,.free),(11,.free),(12,.free),(13,.free),(14,.free),(15,.free),(16,.free)] (by kernel_rfl) (by kernel_rfl) ?_;refine d95 ?_
 refine jbz rfl zq (fun hc=>?_) (fun hc=>?_)
 ·refine d111 ?_;refine d49 ?_;refine d64 ?_
  refine jab (h) rfl Tryz.func24 rfl jaa ?_;refine hK _ _ ?_;first|exact ⟨rfl,IsB.yes (by omega)⟩|exact ⟨rfl,IsB.no (by omega)⟩
 ·refine d173 ?_
  refine jbz rfl rfl (fun hc=>?_) (fun hc=>?_)
  ·refine jau rfl zq ?_;refine d49 ?_;refine d64 ?_;refine jab (h) rfl Tryz.func24 rfl jaa ?_;refine hK _ _ ?_;first|exact ⟨rfl,IsB.yes (by omega)⟩|exact ⟨rfl,IsB.no (by omega)⟩
  ·refine jau rfl zq ?_;refine d173 ?_;refine jbz rfl rfl (fun hc=>?_) (fun hc=>?_)
   ·refine d118 ?_
    refine jab (h) rfl Tryz.func24 rfl jaa ?_;refine hK _ _ ?_;first|exact ⟨rfl,IsB.yes (by omega)⟩|exact ⟨rfl,IsB.no (by omega)⟩
   ·refine d118 ?_
    refine jab (h) rfl Tryz.func24 rfl jaa ?_;refine hK _ _ ?_;first|exact ⟨rfl,IsB.yes (by omega)⟩|exact ⟨rfl,IsB.no (by omega)⟩
theorem f41_c (m:Md Tryz.prog B) (h:Hp) {p p2:Option Addr} {n c n2 c2:Nat} {xs ys:List Int} (rd:RdS B h 1 (.slice p n c) n (ints xs)) (hn:n≤1000000) (rd2:RdS B h 1 (.slice p2 n2 c2) n2 (ints ys)):FnC m 41 #[.slice p n c,.slice p2 n2 c2] h fun v h'=>h'=h∧IsB (xs=ys) v:=by
 refine jad Tryz.func41 rfl rfl (l:=(.slice p n c)::(.slice p2 n2 c2)::uu6) rfl ?_
 intro cf cs K hK
 refine d82 ?_;refine d69 ?_
 refine jae (Post:=fun v=>IsB _ v) rfl zq (by kernel_rfl) (fun H' hH=>f100_c m H' (rd.keeps (sq hH)) hn (rd2.keeps (sq hH))) ?_;rintro v (⟨hc,rfl⟩|⟨hc,rfl⟩)
 ·refine d87 ?_
  refine jab (h) rfl Tryz.func41 rfl jaa ?_;refine hK _ _ ?_;exact ⟨rfl,IsB.yes hc⟩
 ·refine d87 ?_
  refine jab (h) rfl Tryz.func41 rfl jaa ?_;refine hK _ _ ?_;exact ⟨rfl,IsB.no hc⟩
theorem f43_c (m:Md Tryz.prog B) (h:Hp) (lo hi:Int) (k:Nat) (h1:0≤lo∧lo≤hi∧hi≤100000) (hk:k≤100000000):FnC m 43 #[.agg [.int .i64 lo,.int .i64 hi].toArray,.int .i64 (k:Int)] h fun v h'=>h'=h∧v= .int .i64 (lo+((k%(hi-lo+1).toNat:Nat):Int)):=by
 refine jad Tryz.func43 rfl rfl (l:=(.agg [.int .i64 lo,.int .i64 hi].toArray)::(.int .i64 (k:Int))::uu14) rfl ?_
 intro cf cs K hK
 refine rs2 ?_;refine jaq rfl zq (fun q2=>k_hp (jac ?_));refine d10 ?_
 obtain ⟨z,hz⟩:=Int.eq_ofNat_of_zero_le (show 0≤hi-lo+1 by omega)
 have hzk:=Nat.mod_lt k (show 0<z by omega)
 refine jah [(0,.pure),(2,.pure),(3,.pure),(5,.pure),(1,.read),(4,.read),(6,.read),(7,.pure),(8,.pure),(9,.pure),(10,.pure),(11,.pure)] (by kernel_rfl) (by kernel_rfl) (List.Sublist.refl _) ?_;refine d61 ?_;refine d23 ?_;refine d85 ?_;refine jcj rfl zq (by unfold In64;omega) ?_;refine jdz rfl zq (by unfold In64;omega) ?_
 refine k_remT rfl zq (show hi-lo+1≠0 by omega) ?_;rw [show (k:Int).tmod (hi-lo+1)=((k%(hi-lo+1).toNat:Nat):Int) by rw [hz,Int.toNat_natCast];exact (Int.ofNat_tmod k z).symm];have hzk2:k%(hi-lo+1).toNat<z:=by rw [hz,Int.toNat_natCast];exact hzk
 refine d109 ?_
 refine jab (h) rfl Tryz.func43 rfl jaa ?_;refine hK _ _ ?_;exact ⟨rfl,rfl⟩
end Go.Proofs
namespace Go.Proofs
open Go.Lo
open Go.Conc (G)
set_option maxRecDepth 100000
set_option synthInstance.maxSize 100000
set_option synthInstance.maxHeartbeats 1000000
set_option maxHeartbeats 4000000
variable {B:Array Obj}
variable [LaidF B]
def exL:List Int:=[3,6,12]
def exK:Sk:=⟨8,10,false⟩
def exC:Fb:=addK (addT exF ⟨0,2,30,30⟩) ⟨4,7,true⟩
theorem y19:(if (0:Int)≤99∧(99:Int)≤999999 then jdY 99 else 0)=9∧(if (0:Int)≤99∧(99:Int)≤999999 then (0:Int) else 1)=0:=by decide+kernel
theorem y23:atS exF exL 8=0∧atI exF.pts exL 8=9:=by decide+kernel
theorem y25:jgZ exF exL 0 2=0∧jcy exF.pts exL 0 2=15:=by decide+kernel
theorem y27:jaU exF exL=0∧jcN exF.pts exL=180:=by decide+kernel
theorem y29:jf2 exF exL=[1,4,10]:=by decide+kernel
theorem y32:je9 exF exL∧jbO exF exL:=⟨by unfold je9;decide+kernel,by unfold jbO;decide+kernel⟩
theorem y34:fbS exF=0∧(((boatsOf exF).length:Nat):Int)=4:=by decide+kernel
theorem y36:openS exF (if 0≤(1:Int)∧(1:Int)≤((3:Nat):Int)-1 then 0 else 6)=0∧jcl (boatsOf exF) 1=[6,6,7,7]:=by decide+kernel
theorem y38:openS exF (if (exF.pts.getD 0 default).h≤(8:Int)∧(8:Int)≤(exF.pts.getD (3-1) default).h then 0 else 1)=0∧minL ((boatsOf exF).map fun l=>atI exF.pts l 8)=9∧maxL ((boatsOf exF).map fun l=>atI exF.pts l 8)=10:=by decide+kernel
theorem y40:openS exF (ordS 3 1 2)=0∧minL ((boatsOf exF).map fun l=>jcy exF.pts l 1 2)=9∧maxL ((boatsOf exF).map fun l=>jcy exF.pts l 1 2)=10:=by decide+kernel
theorem y42:openS exF 0=0∧minL ((boatsOf exF).map fun l=>jcN exF.pts l)=180∧maxL ((boatsOf exF).map fun l=>jcN exF.pts l)=200:=by decide+kernel
theorem y44:openS exF (if ((exF.pts.getD 0 default).h≤(8:Int)∧(8:Int)≤(exF.pts.getD (3-1) default).h)∧0≤(10:Int)∧(10:Int)≤959 then 0 else 1)=0∧jdl exF 8 10=0:=by decide+kernel
theorem y45:openS exF (if ((exF.pts.getD 0 default).h≤(8:Int)∧(8:Int)≤(exF.pts.getD (3-1) default).h)∧0≤(9:Int)∧(9:Int)≤959 then 0 else 1)=0∧jdl exF 8 9=1:=by decide+kernel
theorem y46:jgt exF (boatsOf exF)=exL:=by decide+kernel
theorem y68:askAt exF=1∧jhF exF=2:=by decide+kernel
theorem y57:jd5 exF exK=0∧fbS (jcQ exF exK)=0∧(((boatsOf (jcQ exF exK)).length:Nat):Int)=3:=by decide+kernel
theorem y58:(jcQ exF exK).pts.length=3∧(jcQ exF exK).tapes.length=1∧(jcQ exF exK).sticks.length=2:=by decide+kernel
theorem y53:fbS exC=0∧boatsOf exC=[]∧boatsOf (jfr exC [])≠[]∧boatsOf (jfr exC [0])≠[]∧boatsOf (jfr exC [1])=[]:=by decide+kernel
theorem y54:jcf exC [1]:=by
 rw [jcf,if_neg (by rintro (e|e);exact e y53.1;exact e y53.2.1)];refine ⟨List.pairwise_singleton _ _,fun x hx=>by obtain rfl:=List.mem_singleton.1 hx;decide,y53.2.2.2.2,fun xs ha hb he hf=>?_⟩
 match xs,hf with
 |[],_=>exact y53.2.2.1 he
 |[x],.inl h=>simp at h
 |[x],.inr ⟨_,h⟩=>
  have hx:=hb x List.mem_cons_self
  unfold jbn at h
  by_cases e:x=1
  ·rw [if_pos e] at h
   simp [jbn] at h
  ·rw [if_neg e] at h
   have:=of_decide_eq_true h
   obtain rfl:x=0:=by omega
   exact y53.2.2.2.1 he
 |a::b::r,.inl h=>simp at h
 |a::b::r,.inr ⟨h,_⟩=>simp at h
theorem y55 {g:List Int} (h:jcf exC g):g=[1]:=jli h y54
theorem y56:gT exC [1]=[1]∧gK exC [1]=[]:=by decide+kernel
theorem y37 {ys:List Int} (h1:Asc ys) (h2: ∀z,z∈ys↔z∈jcl (openL exF (openS exF (if 0≤(1:Int)∧(1:Int)≤((3:Nat):Int)-1 then 0 else 6))) (1:Int).toNat):ys=[6,7]:=by
 refine Asc.eq h1 (by unfold Asc;decide) fun z=>?_
 rw [h2,y36.1,openL,if_neg (fun e=>e rfl),show (1:Int).toNat=1 from rfl,y36.2];simp
theorem f6_c (h:Hp):FnC (Md.starS Tryz.prog B) 6 #[] h fun v h'=> ∃nw,h'=ro h++nw∧v= .bool true:=by
 refine jad Tryz.func6 rfl rfl (l:=uu305) rfl ?_
 intro cf cs K hK
 refine d82 ?_;refine rs3 ?_
 refine jat rfl zq (by kernel_rfl) (Post:=fun v nw=>BkF B exF nw v) (fun H' hH=>f25_c _ H') ?_;rintro v nA ⟨pp,np,cp,pt,nt,ct,pk,nk,ck,rfl,rdp,rdt,rdk⟩;obtain rfl:np=3:=(rdp.elen (by decide)).symm
 obtain rfl:nt=1:=(rdt.elen (by decide)).symm
 obtain rfl:nk=1:=(rdk.elen (by decide)).symm
 refine jaL (jac ?_);refine jaw rfl zq (fun q1=>k_hp (jac ?_));refine d71 ?_;refine rs2 ?_
 refine k_bs kdq rfl zq (by decide) (by decide) rfl (fun q44=>k_hp (jac ?_));refine d148 ?_
 have rdl:RdS B [⟨true,q44,.cells [.int .i64 3,.int .i64 6,.int .i64 12].toArray 3 (0,0)⟩] 1 (.slice (some ⟨q44,0,none⟩) 3 3) 3 (ints exL):=(OwnS.full (t:=3) (q:=q44) (cs:=ints exL) rfl).rd (List.Sublist.refl _)
 refine jae (Post:=fun v=>v= .tuple [.int .i64 9,.int .i64 0].toArray) rfl zq (by kernel_rfl) (fun H' hH=>by have:=f26_c (Md.starS Tryz.prog B) H' 99;rw [y19.1,y19.2] at this;exact this) ?_;rintro v rfl;refine d162 ?_;refine rs8 ?_;refine d77 ?_
 refine jae (Post:=fun v=>v= .tuple [.int .i64 9,.int .i64 0].toArray) rfl zq (by kernel_rfl) (fun H' hH=>by have:=f8_c (Md.starS Tryz.prog B) H' (b:=exF) (xs:=exL) (rdp.keeps (sq hH)) (by decide) (rdt.keeps (sq hH)) (by decide) (rdk.keeps (sq hH)) (by decide) (rdl.keeps (sq hH)) (by decide) 8;rw [ja3 y23.1,y23.2] at this;exact this) ?_;rintro v rfl;refine d162 ?_;refine rs8 ?_;refine d77 ?_
 refine jae (Post:=fun v=>v= .tuple [.int .i64 15,.int .i64 0].toArray) rfl zq (by kernel_rfl) (fun H' hH=>by have:=f27_c (Md.starS Tryz.prog B) H' (b:=exF) (xs:=exL) (rdp.keeps (sq hH)) (by decide) (rdt.keeps (sq hH)) (by decide) (rdk.keeps (sq hH)) (by decide) (rdl.keeps (sq hH)) (by decide) 0 2;rw [ja3 y25.1,y25.2] at this;exact this) ?_;rintro v rfl;refine d162 ?_;refine rs8 ?_;refine d77 ?_
 refine jae (Post:=fun v=>v= .tuple [.int .i64 180,.int .i64 0].toArray) rfl zq (by kernel_rfl) (fun H' hH=>by have:=f28_c (Md.starS Tryz.prog B) H' (b:=exF) (xs:=exL) (rdp.keeps (sq hH)) (by decide) (rdt.keeps (sq hH)) (by decide) (rdk.keeps (sq hH)) (by decide) (rdl.keeps (sq hH)) (by decide);rw [ja3 y27.1,y27.2] at this;exact this) ?_;rintro v rfl;refine d162 ?_;refine rs8 ?_;refine d77 ?_
 refine jat rfl zq (by kernel_rfl) (Post:=fun v new=> ∃w,v= .tuple [w,.int .i64 (jaU exF exL)].toArray∧RdI B new w (if jaU exF exL≠0 then [] else jf2 exF exL)) (fun H' hH=>f29_c _ H' (b:=exF) (xs:=exL) (rdp.keeps (sq hH)) (by decide) (rdt.keeps (sq hH)) (by decide) (rdk.keeps (sq hH)) (by decide) (rdl.keeps (sq hH)) (by decide)) ?_;rintro v n29 ⟨w29,rfl,hw29⟩;refine jaL (jac ?_);rw [if_neg (fun e=>e y27.1),y29] at hw29
 rw [y27.1];obtain ⟨p29,c29,rfl,r29⟩:=hw29
 refine d47 ?_;refine d54 ?_;refine rs8 ?_;refine d77 ?_
 refine jae (Post:=fun v=> ∃w,v= .tuple [w,.int .i64 (jaU exF exL)].toArray∧IsB (jaU exF exL=0∧je9 exF exL∧jbO exF exL) w) rfl zq (by kernel_rfl) (fun H' hH=>f30_c _ H' (b:=exF) (xs:=exL) (rdp.keeps (sq hH)) (by decide) (rdt.keeps (sq hH)) (by decide) (rdk.keeps (sq hH)) (by decide) (rdl.keeps (sq hH)) (by decide)) ?_;rintro v ⟨w32,rfl,hw32⟩;obtain rfl:=isB_true hw32 ⟨y27.1,y32⟩
 rw [y27.1];refine d162 ?_;refine d183 ?_
 refine jae (Post:=fun v=>v= .tuple [.int .i64 4,.int .i64 0].toArray) rfl zq (by kernel_rfl) (fun H' hH=>by have:=f31_c (Md.starS Tryz.prog B) H' (b:=exF) (rdp.keeps (sq hH)) (by decide) (rdt.keeps (sq hH)) (by decide) (rdk.keeps (sq hH)) (by decide);rw [ja3 y34.1,y34.2] at this;exact this) ?_;rintro v rfl;refine d162 ?_;refine d183 ?_
 refine jat rfl zq (by kernel_rfl) (Post:=fun v new=> ∃w ys,v= .tuple [w,.int .i64 (openS exF (if 0≤(1:Int)∧(1:Int)≤((3:Nat):Int)-1 then 0 else 6))].toArray∧OwnS 3 1 w ys.length (ints ys) new∧Asc ys∧ ∀z,z∈ys↔z∈jcl (openL exF (openS exF (if 0≤(1:Int)∧(1:Int)≤((3:Nat):Int)-1 then 0 else 6))) (1:Int).toNat) (fun H' hH=>f32_c _ H' (b:=exF) (rdp.keeps (sq hH)) (by decide) (rdt.keeps (sq hH)) (by decide) (rdk.keeps (sq hH)) (by decide) 1) ?_;rintro v n36 ⟨w36,ys36,rfl,o36,ha36,hm36⟩;refine jaL (jac ?_);obtain rfl:=y37 ha36 hm36
 rw [y36.1];obtain ⟨p36,c36,rfl,_,r36⟩:=jbq (B:=B) o36
 refine d47 ?_;refine d54 ?_;refine d184 ?_
 refine jae (Post:=fun v=>v= .tuple [.agg [.int .i64 9,.int .i64 10].toArray,.int .i64 0].toArray) rfl zq (by kernel_rfl) (fun H' hH=>by have:=f33_c (Md.starS Tryz.prog B) H' (b:=exF) (rdp.keeps (sq hH)) (by decide) (rdt.keeps (sq hH)) (by decide) (rdk.keeps (sq hH)) (by decide) 8;rw [jb6 y38.1,y38.2.1,y38.2.2] at this;exact this) ?_;rintro v rfl;refine d92 ?_
 refine jaw rfl zq (fun q19=>k_hp (jac ?_));refine jaO rfl zq rfl ?_;refine aq rfl ?_;refine d184 ?_;refine jae (Post:=fun v=>v= .tuple [.agg [.int .i64 9,.int .i64 10].toArray,.int .i64 0].toArray) rfl zq (by kernel_rfl) (fun H' hH=>by have:=f34_c (Md.starS Tryz.prog B) H' (b:=exF) (rdp.keeps (sq hH)) (by decide) (rdt.keeps (sq hH)) (by decide) (rdk.keeps (sq hH)) (by decide) 1 2;rw [jb6 y40.1,y40.2.1,y40.2.2] at this;exact this) ?_;rintro v rfl;refine d92 ?_
 refine jaw rfl zq (fun q21=>k_hp (jac ?_));refine jaO rfl zq rfl ?_;refine aq rfl ?_;refine d184 ?_;refine jae (Post:=fun v=>v= .tuple [.agg [.int .i64 180,.int .i64 200].toArray,.int .i64 0].toArray) rfl zq (by kernel_rfl) (fun H' hH=>by have:=f35_c (Md.starS Tryz.prog B) H' (b:=exF) (rdp.keeps (sq hH)) (by decide) (rdt.keeps (sq hH)) (by decide) (rdk.keeps (sq hH)) (by decide);rw [jb6 y42.1,y42.2.1,y42.2.2] at this;exact this) ?_;rintro v rfl;refine d92 ?_
 refine jaw rfl zq (fun q23=>k_hp (jac ?_));refine jaO rfl zq rfl ?_;refine aq rfl ?_;refine d183 ?_;refine jae (Post:=fun v=>v= .tuple [.int .i64 0,.int .i64 0].toArray) rfl zq (by kernel_rfl) (fun H' hH=>by have:=f36_c (Md.starS Tryz.prog B) H' (b:=exF) (rdp.keeps (sq hH)) (by decide) (rdt.keeps (sq hH)) (by decide) (rdk.keeps (sq hH)) (by decide) 8 10;rw [ja3 y44.1,y44.2] at this;exact this) ?_;rintro v rfl;refine d162 ?_;refine d183 ?_
 refine jae (Post:=fun v=>v= .tuple [.int .i64 1,.int .i64 0].toArray) rfl zq (by kernel_rfl) (fun H' hH=>by have:=f36_c (Md.starS Tryz.prog B) H' (b:=exF) (rdp.keeps (sq hH)) (by decide) (rdt.keeps (sq hH)) (by decide) (rdk.keeps (sq hH)) (by decide) 8 9;rw [ja3 y45.1,y45.2] at this;exact this) ?_;rintro v rfl;refine d162 ?_;refine d181 ?_
 refine jat rfl zq (by kernel_rfl) (Post:=fun v new=> ∃w,v= .tuple [w,.int .i64 (if openS exF 0≠0 then 0 else jcN exF.pts (jgt exF (boatsOf exF))),.int .i64 (openS exF 0)].toArray∧RdI B new w (if openS exF 0≠0 then [] else jgt exF (boatsOf exF))) (fun H' hH=>f37_c _ H' (b:=exF) (rdp.keeps (sq hH)) (by decide) (rdt.keeps (sq hH)) (by decide) (rdk.keeps (sq hH)) (by decide)) ?_;rintro v n46 ⟨w46,rfl,hw46⟩;refine jaL (jac ?_);rw [if_neg (fun e=>e y42.1),y46] at hw46
 rw [if_neg (fun e=>e y42.1),y46,y27.2,y42.1];obtain ⟨p46,c46,rfl,r46⟩:=hw46
 refine d47 ?_;refine jfi rfl zq ?_;refine k_as rfl zq ?_;refine d54 ?_;refine d181 ?_
 refine jae (Post:=fun v=>v= .tuple [.int .i64 1,.int .i64 2,.int .i64 0].toArray) rfl zq (by kernel_rfl) (fun H' hH=>by have:=f38_c (Md.starS Tryz.prog B) H' (b:=exF) (rdp.keeps (sq hH)) (by decide) (rdt.keeps (sq hH)) (by decide) (rdk.keeps (sq hH)) (by decide);rw [y68.1,y68.2,y42.1] at this;exact this) ?_;rintro v rfl;refine d92 ?_;refine jfi rfl zq ?_;refine k_as rfl zq ?_;refine d54 ?_;refine rs9 ?_;refine d122 ?_
 refine jat rfl zq (by kernel_rfl) (Post:=fun v new=> ∃w,v= .tuple [w,.int .i64 (jd5 exF exK)].toArray∧BkF B (jcQ exF exK) new w) (fun H' hH=>f14_c _ H' (b:=exF) (rdp.keeps (sq hH)) (by decide) (rdt.keeps (sq hH)) (by decide) (rdk.keeps (sq hH)) (by decide) exK) ?_;rintro v n57 ⟨w57,rfl,pp5,np5,cp5,pt5,nt5,ct5,pk5,nk5,ck5,rfl,rdp5,rdt5,rdk5⟩;refine jaL (jac ?_);rw [y57.1];obtain rfl:np5=3:=(rdp5.elen (by decide)).symm.trans y58.1
 obtain rfl:nt5=1:=(rdt5.elen (by decide)).symm.trans y58.2.1
 obtain rfl:nk5=2:=(rdk5.elen (by decide)).symm.trans y58.2.2
 refine d47 ?_
 refine jaw rfl zq (fun q35=>k_hp (jac ?_));refine jaO rfl zq rfl ?_;refine aq rfl ?_;refine d183 ?_;refine jae (Post:=fun v=>v= .tuple [.int .i64 3,.int .i64 0].toArray) rfl zq (by kernel_rfl) (fun H' hH=>by have:=f31_c (Md.starS Tryz.prog B) H' (b:=jcQ exF exK) (rdp5.keeps (sq hH)) (by decide) (rdt5.keeps (sq hH)) (by decide) (rdk5.keeps (sq hH)) (by decide);rw [ja3 y57.2.1,y57.2.2] at this;exact this) ?_;rintro v rfl;refine d92 ?_;refine d99 ?_
 refine jah [(4,.pure),(0,.read),(1,.call),(2,.pure),(3,.call),(5,.call),(6,.alloc),(7,.free)] (by kernel_rfl) (by kernel_rfl) (List.Sublist.refl _) ?_;refine jcP rfl zq ?_;refine jaT rfl zq ?_;refine jae (Post:=fun v=>v=_) rfl zq (by kernel_rfl) (fun H' hH=>f9_c _ H' _) ?_;rintro v rfl;refine jac ?_;refine jcP rfl zq ?_;refine jat rfl zq (by kernel_rfl) (Post:=fun v nw=> ∃rp rc,v=fbV (addT exF ⟨0,2,30,30⟩) pp 3 cp rp (1+1) rc pk 1 ck∧RdS B nw 4 (.slice rp (1+1) rc) (1+1) (encs (addT exF ⟨0,2,30,30⟩).tapes)) (fun H' hH=>f39_c _ H' (b:=exF) (rdt.keeps (sq hH)) (by decide) ⟨0,2,30,30⟩) ?_;rintro v n78 ⟨pt7,ct7,rfl,rdt7⟩;refine jaL (jac ?_);refine jat rfl zq (by kernel_rfl) (Post:=fun v nw=> ∃rp rc,v=fbV exC pp 3 cp pt7 (1+1) ct7 rp (1+1) rc∧RdS B nw 3 (.slice rp (1+1) rc) (1+1) (encs exC.sticks)) (fun H' hH=>f16_c _ H' (b:=addT exF ⟨0,2,30,30⟩) (rdk.keeps (sq hH)) (by decide) ⟨4,7,true⟩) ?_;rintro v n59 ⟨pk8,ck8,rfl,rdk8⟩;refine jaL (jac ?_);refine jaw rfl zq (fun q39=>k_hp (jac ?_));refine d71 ?_;refine d181 ?_
 refine jaZ rfl zq (by kernel_rfl) (f40_c _ (b:=exC) (rdp.keeps SubH.sub) (by decide) (rdt7.keeps SubH.sub) (by decide) (rdk8.keeps SubH.sub) (by decide)) ?_;rintro v h' ⟨nC,rfl,wT,wK,gg,rfl,⟨pT,cT,rfl,rdT⟩,⟨pK,cK,rfl,rdK⟩,okC⟩;refine jac ?_;obtain rfl:=y55 okC
 rw [y53.1,y56.1,y56.2] at*
 refine d47 ?_;refine jfi rfl zq ?_;refine k_as rfl zq ?_;refine d99 ?_;refine jak ?_
 refine jaA [(0,.free),(1,.free),(2,.free),(3,.free),(4,.free),(5,.free),(6,.free),(7,.free),(8,.free),(9,.free),(10,.free),(11,.free),(12,.free),(13,.free),(14,.free),(15,.free),(16,.free),(17,.free),(18,.free),(19,.free),(20,.free),(21,.free),(22,.free),(23,.free),(24,.free),(25,.free),(26,.free),(27,.free),(28,.free),(29,.free),(30,.free),(31,.free),(32,.free),(33,.free),(34,.free),(35,.free),(36,.free),(37,.free),(38,.free),(39,.free),(40,.free),(41,.free),(42,.free),(43,.free),(44,.free),(45,.free),(46,.free),(47,.free),(48,.free),(49,.free),(50,.free),(51,.free),(52,.free),(53,.free),(54,.free),(55,.free),(56,.free),(57,.free),(58,.free),(59,.free),(60,.free),(61,.free),(62,.free),(63,.free),(64,.free),(65,.free),(66,.free),(67,.free),(68,.free),(69,.free)] (by kernel_rfl) (by kernel_rfl) ?_;refine mq rfl ?_;refine jgS rfl zq (by decide) ?_;refine d113 ?_;refine d113 ?_;refine d113 ?_;refine d113 ?_;refine d113 ?_;refine d113 ?_;refine d113 ?_;refine d113 ?_;refine d113 ?_;refine d113 ?_;refine d113 ?_;refine d113 ?_;refine d113 ?_;refine d113 ?_;refine d113 ?_;refine d113 ?_;refine d113 ?_;refine d36 ?_;refine jak ?_
 refine jah [(0,.pure),(1,.pure),(2,.pure),(3,.pure),(4,.pure),(5,.pure),(6,.pure),(7,.pure),(8,.pure),(9,.pure),(10,.pure),(11,.pure),(12,.pure),(13,.pure),(14,.pure),(15,.pure),(16,.keep),(17,.keep),(18,.pure),(19,.pure),(20,.pure),(21,.pure),(22,.pure),(23,.pure),(24,.pure),(25,.pure),(26,.pure),(27,.pure),(28,.pure),(29,.pure),(30,.keep),(31,.keep),(32,.pure),(33,.pure),(34,.pure),(35,.read),(36,.keep),(37,.pure),(38,.pure),(39,.pure),(40,.read),(41,.keep),(42,.pure),(43,.pure),(44,.pure),(45,.read),(46,.keep),(47,.pure),(48,.pure)] (by kernel_rfl) (by kernel_rfl) (List.Sublist.refl _) ?_;refine mq rfl ?_;refine jgS rfl zq (by decide) ?_;refine d113 ?_;refine d113 ?_;refine d113 ?_;refine d22 ?_
 refine k_bs kdq rfl rfl (by decide) (by decide) rfl (fun q235=>k_hp (jac ?_));have rd235:RdS B [⟨true,q235,.cells [.int .i64 1,.int .i64 4,.int .i64 10].toArray 3 (0,0)⟩] 1 (.slice (some ⟨q235,0,none⟩) 3 3) 3 (ints [1,4,10]):=(OwnS.full (t:=3) (q:=q235) (cs:=ints [1,4,10]) rfl).rd (List.Sublist.refl _)
 refine jae (Post:=fun v=>IsB _ v) rfl rfl (by kernel_rfl) (fun H' hH=>f41_c _ H' (r29.ro.keeps (sq hH)) (by decide) (rd235.keeps (sq hH))) ?_;rintro v (⟨hc,rfl⟩|⟨hc,rfl⟩)
 ·refine d156 ?_;refine d22 ?_;refine d84 ?_;refine d113 ?_;refine d22 ?_
  refine k_bs kdq rfl rfl (by decide) (by decide) rfl (fun q249=>k_hp (jac ?_));have rd249:RdS B [⟨true,q249,.cells [.int .i64 6,.int .i64 7].toArray 3 (0,0)⟩] 1 (.slice (some ⟨q249,0,none⟩) 2 2) 2 (ints [6,7]):=(OwnS.full (t:=3) (q:=q249) (cs:=ints [6,7]) rfl).rd (List.Sublist.refl _)
  refine jae (Post:=fun v=>IsB _ v) rfl rfl (by kernel_rfl) (fun H' hH=>f41_c _ H' (r36.ro.keeps (sq hH)) (by decide) (rd249.keeps (sq hH))) ?_;rintro v (⟨hc,rfl⟩|⟨hc,rfl⟩)
  ·refine d156 ?_;refine d104 ?_
   refine jae (Post:=fun v=>v=_) rfl rfl (by kernel_rfl) (fun H' hH=>f42_c _ H' _ _) ?_;rintro v rfl;refine jac ?_;refine ji9 (hg:=by kernel_rfl) rfl rfl (by decide) ?_;refine jau rfl zq ?_;refine d104 ?_;refine jae (Post:=fun v=>v=_) rfl rfl (by kernel_rfl) (fun H' hH=>f42_c _ H' _ _) ?_;rintro v rfl;refine jac ?_;refine ji9 (hg:=by kernel_rfl) rfl rfl (by decide) ?_;refine jau rfl zq ?_;refine d104 ?_;refine jae (Post:=fun v=>v=_) rfl rfl (by kernel_rfl) (fun H' hH=>f42_c _ H' _ _) ?_;rintro v rfl;refine jac ?_;refine ji9 (hg:=by kernel_rfl) rfl rfl (by decide) ?_;refine jau rfl zq ?_;refine d36 ?_;refine jaA [(0,.free),(1,.free),(2,.free),(3,.free),(4,.free),(5,.free),(6,.free),(7,.free),(8,.free),(9,.free),(10,.free),(11,.free),(12,.free),(13,.free),(14,.free),(15,.free),(16,.free),(17,.free),(18,.free),(19,.free),(20,.free),(21,.free),(22,.free),(23,.free),(24,.free),(25,.free),(26,.free),(27,.free),(28,.free),(29,.free),(30,.free),(31,.free),(32,.free),(33,.free),(34,.free),(35,.free),(36,.free),(37,.free)] (by kernel_rfl) (by kernel_rfl) ?_;refine mq rfl ?_;refine jgT rfl zq (by decide) ?_;refine d22 ?_;refine d147 ?_;refine d22 ?_
   refine k_bs kdq rfl rfl (by decide) (by decide) rfl (fun q276=>k_hp (jac ?_));have rd276:RdS B [⟨true,q276,.cells [.int .i64 3,.int .i64 6,.int .i64 12].toArray 3 (0,0)⟩] 1 (.slice (some ⟨q276,0,none⟩) 3 3) 3 (ints [3,6,12]):=(OwnS.full (t:=3) (q:=q276) (cs:=ints [3,6,12]) rfl).rd (List.Sublist.refl _)
   refine jae (Post:=fun v=>IsB _ v) rfl rfl (by kernel_rfl) (fun H' hH=>f41_c _ H' (r46.ro.keeps (sq hH)) (by decide) (rd276.keeps (sq hH))) ?_;rintro v (⟨hc,rfl⟩|⟨hc,rfl⟩)
   ·refine d94 ?_;refine d22 ?_;refine d147 ?_;refine d22 ?_;refine d147 ?_;refine d22 ?_;refine d147 ?_;refine d22 ?_;refine d147 ?_;refine d22 ?_
    refine k_bs kdq rfl rfl (by decide) (by decide) rfl (fun q297=>k_hp (jac ?_));have rd297:RdS B [⟨true,q297,.cells [.int .i64 1].toArray 3 (0,0)⟩] 1 (.slice (some ⟨q297,0,none⟩) 1 1) 1 (ints [1]):=(OwnS.full (t:=3) (q:=q297) (cs:=ints [1]) rfl).rd (List.Sublist.refl _)
    refine jae (Post:=fun v=>IsB _ v) rfl rfl (by kernel_rfl) (fun H' hH=>f41_c _ H' (rdT.keeps (sq hH)) (by decide) (rd297.keeps (sq hH))) ?_;rintro v (⟨hc,rfl⟩|⟨hc,rfl⟩)
    ·refine d94 ?_;refine d22 ?_;refine jcO rfl rfl ?_;refine jgT rfl rfl (by decide) ?_;refine d64 ?_
     refine jab (ro h) rfl Tryz.func6 rfl jaa ?_;refine hK _ _ ?_;exact ⟨[],by simp,rfl⟩
    ·refine jac ?_;exact absurd rfl hc
   ·refine jac ?_;exact absurd rfl hc
  ·refine jac ?_;exact absurd rfl hc
 ·refine jac ?_;exact absurd rfl hc
theorem fold_min (a:Int) (l:List Int) (y:Int):y≤l.foldl min a↔y≤a∧ ∀z∈l,y≤z:=by
 induction l generalizing a with
 |nil=>simp
 |cons c r ih=>
  have e:y≤min a c↔y≤a∧y≤c:=by omega
  rw [List.foldl_cons,ih,e,and_assoc];simp only [List.mem_cons,forall_eq_or_imp]
theorem fold_max (a:Int) (l:List Int) (y:Int):l.foldl max a<y↔a<y∧ ∀z∈l,z<y:=by
 induction l generalizing a with
 |nil=>simp
 |cons c r ih=>
  have e:max a c<y↔a<y∧c<y:=by omega
  rw [List.foldl_cons,ih,e,and_assoc];simp only [List.mem_cons,forall_eq_or_imp]
theorem jmm {ys:List Int} (h:ys≠[]) (y:Int):y≤minL ys↔ ∀z∈ys,y≤z:=by
 cases ys with
 |nil=>exact absurd rfl h
 |cons a r=>
  show y≤(List.drop 1 (a::r)).foldl min a↔_
  rw [fold_min];simp
theorem jmj {ys:List Int} (h:ys≠[]) (y:Int):maxL ys<y↔ ∀z∈ys,z<y:=by
 cases ys with
 |nil=>exact absurd rfl h
 |cons a r=>
  show (List.drop 1 (a::r)).foldl max a<y↔_
  rw [fold_max];simp
end Go.Proofs
namespace Go.Proofs
open Go.Lo
open Go.Conc (G)
set_option maxRecDepth 100000
set_option synthInstance.maxSize 100000
set_option synthInstance.maxHeartbeats 1000000
set_option maxHeartbeats 4000000
variable {b:Fb} {pp:Option Addr} {np cp:Nat} {pt:Option Addr} {nt ct:Nat} {pk:Option Addr} {nk ck:Nat}
variable {B:Array Obj}
variable [LaidF B]
abbrev u16s (zs:List Int):List Value:=zs.map (Value.int .u16)
theorem u16_at {zs:List Int} {k:Nat} (h:k<zs.length):(u16s zs).getD k undef= .int .u16 (zs.getD k 0):=by
 rw [List.getD_eq_getElem?_getD,List.getD_eq_getElem?_getD,List.getElem?_map,List.getElem?_eq_getElem h];rfl
theorem _root_.Go.Lo.PtsOk.lt {pts:List Pt} (k:PtsOk pts): ∀(d i:Nat),i+d+1<pts.length→(pts.getD i default).h<(pts.getD (i+d+1) default).h
 |0,i,h=>k.up i (by omega)
 |d+1,i,h=>by
  have h1:=k.lt d i (by omega)
  have h2:=k.up (i+d+1) (by omega)
  rw [show i+(d+1)+1=i+d+1+1 by omega];omega
theorem _root_.Go.Lo.PtsOk.ends {pts:List Pt} (k:PtsOk pts):(pts.getD 0 default).h<(pts.getD (pts.length-1) default).h:=by
 have h2:=k.two
 have:=k.lt (pts.length-2) 0 (by omega)
 rw [show 0+(pts.length-2)+1=pts.length-1 by omega] at this
 exact this
theorem f5_c (m:Md Tryz.prog B) (h:Hp) (rdp:Rp B h b pp np cp) (rdt:Rt B h b pt nt ct) (rdk:Rk B h b pk nk ck):FnC m 5 #[fbV b pp np cp pt nt ct pk nk ck] h fun v h'=>h'=h∧IsB (np≤20∧nt≤20∧nk≤20∧fbS b=0) v:=by
 refine jad Tryz.func5 rfl rfl (l:=(fbV b pp np cp pt nt ct pk nk ck)::uu10) rfl ?_
 intro cf cs K hK
 refine rs2 ?_;refine jaq rfl zq (fun q1=>k_hp (jac ?_));refine aq rfl ?_;refine d181 ?_
 refine jae (Post:=fun v=>IsB _ v) rfl zq (by kernel_rfl) (fun H' hH=>f24_c m H') ?_;rintro v (⟨hc,rfl⟩|⟨hc,rfl⟩)
 ·refine d31 ?_;refine d30 ?_;refine d52 ?_;refine d0 ?_
  refine jab (h) rfl Tryz.func5 rfl jaa ?_;refine hK _ _ ?_;first|exact ⟨rfl,IsB.yes ⟨by omega,by omega,by omega,by omega⟩⟩|exact ⟨rfl,IsB.no (by omega)⟩
 ·refine d33 ?_;refine d104 ?_
  refine jae (Post:=fun v=>v=_) rfl rfl (by kernel_rfl) (fun H' hH=>f17_c m H' (rdp.keeps (sq hH)) (by omega) (rdt.keeps (sq hH)) (by omega) (rdk.keeps (sq hH)) (by omega)) ?_;rintro v rfl;refine jac ?_;refine jcd rfl rfl (fun hc=>?_) (fun hc=>?_)
  ·refine d64 ?_
   refine jab (h) rfl Tryz.func5 rfl jaa ?_;refine hK _ _ ?_;first|exact ⟨rfl,IsB.yes ⟨by omega,by omega,by omega,by omega⟩⟩|exact ⟨rfl,IsB.no (by omega)⟩
  ·refine d64 ?_
   refine jab (h) rfl Tryz.func5 rfl jaa ?_;refine hK _ _ ?_;first|exact ⟨rfl,IsB.yes ⟨by omega,by omega,by omega,by omega⟩⟩|exact ⟨rfl,IsB.no (by omega)⟩
theorem f19_c (m:Md Tryz.prog B) (h:Hp) {p:Option Addr} {n c:Nat} {zs:List Int} (rd:RdS B h 1 (.slice p n c) n (u16s zs)) (hz: ∀z∈zs,0≤z∧z≤65535) (k:Nat):FnC m 19 #[.slice p n c,.int .i64 (k:Int)] h fun v h'=>h'=h∧ ∃z:Nat,z≤65535∧v= .int .i64 (z:Int):=by
 refine jad Tryz.func19 rfl rfl (l:=(.slice p n c)::(.int .i64 (k:Int))::uu16) rfl ?_
 intro cf cs K hK
 refine d67 ?_;refine rs8 ?_;refine mq rfl ?_
 refine jaY rfl zq (fun hc=>?_) (fun hc=>?_)
 ·refine d163 ?_;refine jcO rfl rfl ?_
  refine jap rfl rfl (fun hc=>?_) (fun hc=>?_)
  ·refine jaz rfl zq ?_;refine d7 ?_;refine rs6 ?_;refine d3 ?_;have hzl:zs.length=n:=by have:=rd.len;simpa using this
   obtain ⟨pb,po,rfl⟩:=rd.ptr (by omega)
   refine jaJ rfl zq (by first|rfl|assumption) (by omega) (by omega) ?_;have hzk:=getD_all hz (k:=k) (by omega)
   refine k_ld rfl zq (u16_at (zs:=zs) (k:=k) (by omega)▸rd.vat k (by omega) (by omega)) ?_;refine jbk rfl zq (by kernel_rfl) (n':=zs.getD k 0) (by generalize zs.getD k 0=gz at hzk⊢;unfold IntKind.wrap;simp [IntKind.bits,IntKind.signed];omega) ?_;refine d0 ?_
   refine jab (h) rfl Tryz.func19 rfl jaa ?_;refine hK _ _ ?_;exact ⟨rfl,(zs.getD k 0).toNat,by omega,by rw [Int.toNat_of_nonneg (by omega)]⟩
  ·refine jaz rfl zq ?_;refine d9 ?_;refine d26 ?_;refine jab (h) rfl Tryz.func19 rfl jaa ?_;refine hK _ _ ?_;exact ⟨rfl,0,by omega,rfl⟩
 ·exact absurd hc (by omega)
theorem f18_c (m:Md Tryz.prog B) (h:Hp) (rdp:Rp B h b pp np cp) (hp:np≤1000) (hv:FOk b) (z:Nat) (hz:z≤65535):FnC m 18 #[fbV b pp np cp pt nt ct pk nk ck,.int .u16 (z:Int)] h fun v h'=>h'=h∧ ∃x:Int,v= .int .i64 x∧(b.pts.getD 0 default).h≤x∧x≤(b.pts.getD (np-1) default).h:=by
 have hml:=rdp.elen (by decide)
 have h2:=hv.pts.two
 have he:=hv.pts.ends
 rw [hml] at he
 have h0:=hv.pts.at (i:=0) (by omega)
 have h1:=hv.pts.at (i:=np-1) (by omega)
 refine jad Tryz.func18 rfl rfl (l:=(fbV b pp np cp pt nt ct pk nk ck)::(.int .u16 (z:Int))::uu21) rfl ?_
 intro cf cs K hK
 refine rs2 ?_;refine jaq rfl zq (fun q2=>k_hp (jac ?_));refine d10 ?_
 refine jah [(0,.pure),(5,.pure),(7,.pure),(15,.pure),(16,.pure),(1,.read),(2,.pure),(3,.pure),(4,.read),(6,.read),(8,.read),(9,.pure),(10,.pure),(11,.pure),(12,.pure),(13,.read),(14,.keep),(17,.keep),(18,.pure)] (by kernel_rfl) (by kernel_rfl) (List.Sublist.refl _) ?_;refine d8 ?_;refine d61 ?_
 refine jbk rfl zq (by kernel_rfl) (n':=(z:Int)) (by unfold IntKind.wrap;simp [IntKind.bits,IntKind.signed];omega) ?_;refine jbb rfl zq ?_;obtain ⟨rdp_b,rdp_o,rfl⟩:=rdp.ptr (by omega)
 refine d15 ?_
 refine k_ld rfl zq (rdp.fat (v:= .int .i64 (b.pts.getD 0 default).h) 0 0 (by omega) (by omega) rfl) ?_;refine d85 ?_;refine d79 ?_;refine d15 ?_
 refine k_ld rfl zq (rdp.fat (v:= .int .i64 (b.pts.getD (np-1) default).h) (np-1) 0 (by omega) (by omega) rfl) ?_;refine jae (Post:=fun v=>v=_) rfl zq (by kernel_rfl) (fun H' hH=>f42_c m H' _ _) ?_;rintro v rfl;refine jac ?_;refine jae (Post:=fun v=>v=_) rfl zq (by kernel_rfl) (fun H' hH=>f43_c m H' _ _ z (by omega) (by omega)) ?_;rintro v rfl;refine jac ?_;have hz7:=Nat.mod_lt z (show 0<((b.pts.getD (np-1) default).h-(b.pts.getD 0 default).h+1).toNat by omega)
 refine d0 ?_
 refine jab (h) rfl Tryz.func18 rfl jaa ?_;refine hK _ _ ?_;exact ⟨rfl,_,rfl,by omega,by omega⟩
end Go.Proofs
