/- A part of the proof of a law: my own separation logic over the machine, and walks of the program. Condition of each theorem: as its statement says. -/
import Derived.Test.YtgplnpdblmcdoaaGreatDoorWC5
set_option linter.all false
namespace Go.Proofs.Bt
open Go.Proofs
open Go.Lo
open Go.Conc (G)
set_option maxRecDepth 100000
set_option synthInstance.maxSize 100000
set_option synthInstance.maxHeartbeats 1000000
set_option maxHeartbeats 4000000
variable {B:Array Obj}
theorem st_ne {p:Prop} [Decidable p] (h:(if p then (0:Int) else 6)≠0): ¬p:=fun e=>h (if_pos e)
theorem st_eq {p:Prop} [Decidable p] (h:(if p then (0:Int) else 6)=0):p:=Classical.byContradiction fun e=>by rw [if_neg e] at h;cases h
class Laid (B:Array Obj):Prop where
 eq: ∃t f,B[1]?=some (.cells [.func (.func 220) #[] #[],.func (.func 221) #[] #[],.func (.func 222) #[] #[]].toArray t f)
variable [Laid B]
theorem laid_rdN {h:Hp} [x:Laid B]:RdN B h 1 0 [.func (.func 220) #[] #[],.func (.func 221) #[] #[],.func (.func 222) #[] #[]]:=fun j hj=>by
 obtain ⟨t,f,e⟩:=x.eq
 refine Rd.base rfl e ?_
 rw [Nat.zero_add,List.getElem?_toArray,List.getD_eq_getElem?_getD,List.getElem?_eq_getElem hj];rfl
theorem f226_c (m:Md Tryz.prog B) (h:Hp) {p:Option Addr} {n c:Nat} {xs:List Sp} (rd:RdS B h 2 (.slice p n c) n (encs xs)) (hn:n≤100000) {fid:Nat} {fc cp:Array Value} {pr:Nat→Prop} (hcall:ja4 Tryz.prog fid=true) (hf: ∀i,i<n→ ∀H':Hp,h.Sublist H'→FnC m fid (fc++[spV (xs.getD i default)].toArray++cp) H' fun v h'=>h'=H'∧IsB (pr i) v):FnC m 226 #[.slice p n c,.func (.func fid) fc cp] h fun v h'=>h'=h∧ ∃j:Int,v= .int .i64 j∧(0≤j↔ ∃i,i<n∧pr i):=by
 refine jad Tryz.func226 rfl rfl (l:=(.slice p n c)::(.func (.func fid) fc cp)::uu17) rfl ?_
 intro cf cs K hK
 refine d67 ?_;refine d46 ?_;refine d130 ?_
 refine jag (fun nn l h'=> ∃(k:Nat),nn=n-k∧(k≤n)∧(∀i,i<k→ ¬pr i)∧(∃U:Nat→Value,l=((.slice p n c)::(.func (.func fid) fc cp)::vw5 U 2 ((.int .i64 (n:Int))::(.int .i64 (k:Int))::vw10 U 9 [])))∧h=h') _ ⟨0,rfl,by omega,fun i hi=>by omega,exU rfl,rfl⟩ ?_;rintro nn l h' ⟨k,rfl,hk,he,⟨U,rfl⟩,rfl⟩ hnext;refine rs1 ?_;refine jap rfl zq (fun hc=>?_) (fun hc=>?_)
 ·refine d106 ?_;refine d16 ?_;refine d148 ?_;refine d127 ?_
  obtain ⟨rd_b,rd_o,rfl⟩:=rd.ptr (by omega)
  refine jaJ rfl zq (by first|rfl|assumption) (by omega) (by omega) ?_;refine jbf (vs:=spL (xs.getD k default)) rfl zq rfl (rd.eat k (by omega) (by omega)) ?_;refine jea (Post:=fun v=>IsB _ v) rfl zq hcall (fun H' hH=>hf k (by omega) H' hH) ?_;rintro v (⟨hc,rfl⟩|⟨hc,rfl⟩)
  ·refine jac ?_;refine d166 ?_;refine jab (h) rfl Tryz.func226 rfl jaa ?_;refine hK _ _ ?_;first
    |exact ⟨rfl,_,rfl,fun _=>⟨k,by omega,hc⟩,fun _=>by omega⟩
    |(refine ⟨rfl,_,rfl,fun e=>absurd e (by decide),?_⟩;rintro ⟨i,h1,h2⟩;exact absurd h2 (he i (by omega)))
  ·refine jac ?_;refine d177 ?_;exact m.weak jaa (hnext _ _ _ (by omega) ⟨k+1,rfl,by omega,fun i hi=>by
    rcases Nat.lt_or_ge i k with h1|h1
    ·exact he i h1
    ·obtain rfl:i=k:=by omega
     exact hc,exU rfl,rfl⟩)
 ·refine d171 ?_
  refine jab (h) rfl Tryz.func226 rfl jaa ?_;refine hK _ _ ?_;first
   |exact ⟨rfl,_,rfl,fun _=>⟨k,by omega,hc⟩,fun _=>by omega⟩
   |(refine ⟨rfl,_,rfl,fun e=>absurd e (by decide),?_⟩;rintro ⟨i,h1,h2⟩;exact absurd h2 (he i (by omega)))
theorem f223_c (m:Md Tryz.prog B) (h:Hp) {p:Option Addr} {n c:Nat} {xs:List Sp} (rd:RdS B h 2 (.slice p n c) n (encs xs)) (hn:n≤100000) {fid:Nat} {fc cp:Array Value} {pr:Nat→Prop} (hcall:ja4 Tryz.prog fid=true) (hf: ∀i,i<n→ ∀H':Hp,h.Sublist H'→FnC m fid (fc++[spV (xs.getD i default)].toArray++cp) H' fun v h'=>h'=H'∧IsB (pr i) v):FnC m 223 #[.slice p n c,.func (.func fid) fc cp] h fun v h'=>h'=h∧IsB (∃i,i<n∧pr i) v:=by
 refine jad Tryz.func223 rfl rfl (l:=(.slice p n c)::(.func (.func fid) fc cp)::uu7) rfl ?_
 intro cf cs K hK
 refine d82 ?_;refine rs5 ?_;refine d3 ?_
 refine jae (Post:=fun v=> ∃j:Int,v= .int .i64 j∧(0≤j↔ ∃i,i<n∧pr i)) rfl zq (by kernel_rfl) (fun H' hH=>f226_c m H' (rd.keeps (sq hH)) hn hcall (fun i hi K hK=>hf i hi K (SubH.sub.trans (hH.trans hK)))) ?_;rintro v ⟨j,rfl,hj⟩;refine jac ?_;refine jaY rfl zq (fun hc=>?_) (fun hc=>?_)
 ·refine d0 ?_
  refine jab (h) rfl Tryz.func223 rfl jaa ?_;refine hK _ _ ?_;first|exact ⟨rfl,IsB.yes (hj.1 (by assumption))⟩|exact ⟨rfl,IsB.no (fun e=>absurd (hj.2 e) (by omega))⟩
 ·refine d0 ?_
  refine jab (h) rfl Tryz.func223 rfl jaa ?_;refine hK _ _ ?_;first|exact ⟨rfl,IsB.yes (hj.1 (by assumption))⟩|exact ⟨rfl,IsB.no (fun e=>absurd (hj.2 e) (by omega))⟩
theorem f153_c (m:Md Tryz.prog B) (h:Hp) {p:Option Addr} {n c:Nat} {xs:List Int} (rd:RdS B h 1 (.slice p n c) n (ints xs)) (hn:n≤100000) {fid:Nat} {fc cp:Array Value} {pr:Nat→Prop} (hcall:ja4 Tryz.prog fid=true) (hf: ∀i,i<n→ ∀H':Hp,h.Sublist H'→FnC m fid (fc++[Value.int .i64 (xs.getD i 0)].toArray++cp) H' fun v h'=>h'=H'∧IsB (pr i) v):FnC m 153 #[.slice p n c,.func (.func fid) fc cp] h fun v h'=>h'=h∧ ∃j:Int,v= .int .i64 j∧(0≤j↔ ∃i,i<n∧pr i):=by
 refine jad Tryz.func153 rfl rfl (l:=(.slice p n c)::(.func (.func fid) fc cp)::uu17) rfl ?_
 intro cf cs K hK
 refine d67 ?_;refine d46 ?_;refine d130 ?_
 refine jag (fun nn l h'=> ∃(k:Nat),nn=n-k∧(k≤n)∧(∀i,i<k→ ¬pr i)∧(∃U:Nat→Value,l=((.slice p n c)::(.func (.func fid) fc cp)::vw5 U 2 ((.int .i64 (n:Int))::(.int .i64 (k:Int))::vw10 U 9 [])))∧h=h') _ ⟨0,rfl,by omega,fun i hi=>by omega,exU rfl,rfl⟩ ?_;rintro nn l h' ⟨k,rfl,hk,he,⟨U,rfl⟩,rfl⟩ hnext;refine rs1 ?_;refine jap rfl zq (fun hc=>?_) (fun hc=>?_)
 ·refine d106 ?_;refine d16 ?_;refine d148 ?_;refine d127 ?_
  obtain ⟨rd_b,rd_o,rfl⟩:=rd.ptr (by omega)
  refine jaJ rfl zq (by first|rfl|assumption) (by omega) (by omega) ?_;refine k_ld rfl zq (rd.iat k (by omega) (by omega)) ?_;refine jea (Post:=fun v=>IsB _ v) rfl zq hcall (fun H' hH=>hf k (by omega) H' hH) ?_;rintro v (⟨hc,rfl⟩|⟨hc,rfl⟩)
  ·refine jac ?_;refine d166 ?_;refine jab (h) rfl Tryz.func153 rfl jaa ?_;refine hK _ _ ?_;first
    |exact ⟨rfl,_,rfl,fun _=>⟨k,by omega,hc⟩,fun _=>by omega⟩
    |(refine ⟨rfl,_,rfl,fun e=>absurd e (by decide),?_⟩;rintro ⟨i,h1,h2⟩;exact absurd h2 (he i (by omega)))
  ·refine jac ?_;refine d177 ?_;exact m.weak jaa (hnext _ _ _ (by omega) ⟨k+1,rfl,by omega,fun i hi=>by
    rcases Nat.lt_or_ge i k with h1|h1
    ·exact he i h1
    ·obtain rfl:i=k:=by omega
     exact hc,exU rfl,rfl⟩)
 ·refine d171 ?_
  refine jab (h) rfl Tryz.func153 rfl jaa ?_;refine hK _ _ ?_;first
   |exact ⟨rfl,_,rfl,fun _=>⟨k,by omega,hc⟩,fun _=>by omega⟩
   |(refine ⟨rfl,_,rfl,fun e=>absurd e (by decide),?_⟩;rintro ⟨i,h1,h2⟩;exact absurd h2 (he i (by omega)))
theorem f101_c (m:Md Tryz.prog B) (h:Hp) {p:Option Addr} {n c:Nat} {xs:List Int} (rd:RdS B h 1 (.slice p n c) n (ints xs)) (hn:n≤100000) {fid:Nat} {fc cp:Array Value} {pr:Nat→Prop} (hcall:ja4 Tryz.prog fid=true) (hf: ∀i,i<n→ ∀H':Hp,h.Sublist H'→FnC m fid (fc++[Value.int .i64 (xs.getD i 0)].toArray++cp) H' fun v h'=>h'=H'∧IsB (pr i) v):FnC m 101 #[.slice p n c,.func (.func fid) fc cp] h fun v h'=>h'=h∧IsB (∃i,i<n∧pr i) v:=by
 refine jad Tryz.func101 rfl rfl (l:=(.slice p n c)::(.func (.func fid) fc cp)::uu7) rfl ?_
 intro cf cs K hK
 refine d82 ?_;refine rs5 ?_;refine d3 ?_
 refine jae (Post:=fun v=> ∃j:Int,v= .int .i64 j∧(0≤j↔ ∃i,i<n∧pr i)) rfl zq (by kernel_rfl) (fun H' hH=>f153_c m H' (rd.keeps (sq hH)) hn hcall (fun i hi K hK=>hf i hi K (SubH.sub.trans (hH.trans hK)))) ?_;rintro v ⟨j,rfl,hj⟩;refine jac ?_;refine jaY rfl zq (fun hc=>?_) (fun hc=>?_)
 ·refine d0 ?_
  refine jab (h) rfl Tryz.func101 rfl jaa ?_;refine hK _ _ ?_;first|exact ⟨rfl,IsB.yes (hj.1 (by assumption))⟩|exact ⟨rfl,IsB.no (fun e=>absurd (hj.2 e) (by omega))⟩
 ·refine d0 ?_
  refine jab (h) rfl Tryz.func101 rfl jaa ?_;refine hK _ _ ?_;first|exact ⟨rfl,IsB.yes (hj.1 (by assumption))⟩|exact ⟨rfl,IsB.no (fun e=>absurd (hj.2 e) (by omega))⟩
theorem f186_c (m:Md Tryz.prog B) (h:Hp) {p:Option Addr} {n c:Nat} {xs:List Ru} (rd:RdS B h 4 (.slice p n c) n (encs xs)) (hn:n≤100000) {fid:Nat} {fc cp:Array Value} {pr:Nat→Prop} (hcall:ja4 Tryz.prog fid=true) (hf: ∀i,i<n→ ∀H':Hp,h.Sublist H'→FnC m fid (fc++[ruV (xs.getD i default)].toArray++cp) H' fun v h'=>h'=H'∧IsB (pr i) v):FnC m 186 #[.slice p n c,.func (.func fid) fc cp] h fun v h'=>h'=h∧ ∃j:Int,v= .int .i64 j∧(0≤j↔ ∃i,i<n∧pr i):=by
 refine jad Tryz.func186 rfl rfl (l:=(.slice p n c)::(.func (.func fid) fc cp)::uu17) rfl ?_
 intro cf cs K hK
 refine d67 ?_;refine d46 ?_;refine d130 ?_
 refine jag (fun nn l h'=> ∃(k:Nat),nn=n-k∧(k≤n)∧(∀i,i<k→ ¬pr i)∧(∃U:Nat→Value,l=((.slice p n c)::(.func (.func fid) fc cp)::vw5 U 2 ((.int .i64 (n:Int))::(.int .i64 (k:Int))::vw10 U 9 [])))∧h=h') _ ⟨0,rfl,by omega,fun i hi=>by omega,exU rfl,rfl⟩ ?_;rintro nn l h' ⟨k,rfl,hk,he,⟨U,rfl⟩,rfl⟩ hnext;refine rs1 ?_;refine jap rfl zq (fun hc=>?_) (fun hc=>?_)
 ·refine d106 ?_;refine d16 ?_;refine d148 ?_;refine d127 ?_
  obtain ⟨rd_b,rd_o,rfl⟩:=rd.ptr (by omega)
  refine jaJ rfl zq (by first|rfl|assumption) (by omega) (by omega) ?_;refine jbf (vs:=ruL (xs.getD k default)) rfl zq rfl (rd.eat k (by omega) (by omega)) ?_;refine jea (Post:=fun v=>IsB _ v) rfl zq hcall (fun H' hH=>hf k (by omega) H' hH) ?_;rintro v (⟨hc,rfl⟩|⟨hc,rfl⟩)
  ·refine jac ?_;refine d166 ?_;refine jab (h) rfl Tryz.func186 rfl jaa ?_;refine hK _ _ ?_;first
    |exact ⟨rfl,_,rfl,fun _=>⟨k,by omega,hc⟩,fun _=>by omega⟩
    |(refine ⟨rfl,_,rfl,fun e=>absurd e (by decide),?_⟩;rintro ⟨i,h1,h2⟩;exact absurd h2 (he i (by omega)))
  ·refine jac ?_;refine d177 ?_;exact m.weak jaa (hnext _ _ _ (by omega) ⟨k+1,rfl,by omega,fun i hi=>by
    rcases Nat.lt_or_ge i k with h1|h1
    ·exact he i h1
    ·obtain rfl:i=k:=by omega
     exact hc,exU rfl,rfl⟩)
 ·refine d171 ?_
  refine jab (h) rfl Tryz.func186 rfl jaa ?_;refine hK _ _ ?_;first
   |exact ⟨rfl,_,rfl,fun _=>⟨k,by omega,hc⟩,fun _=>by omega⟩
   |(refine ⟨rfl,_,rfl,fun e=>absurd e (by decide),?_⟩;rintro ⟨i,h1,h2⟩;exact absurd h2 (he i (by omega)))
theorem f158_c (m:Md Tryz.prog B) (h:Hp) {p:Option Addr} {n c:Nat} {xs:List Ru} (rd:RdS B h 4 (.slice p n c) n (encs xs)) (hn:n≤100000) {fid:Nat} {fc cp:Array Value} {pr:Nat→Prop} (hcall:ja4 Tryz.prog fid=true) (hf: ∀i,i<n→ ∀H':Hp,h.Sublist H'→FnC m fid (fc++[ruV (xs.getD i default)].toArray++cp) H' fun v h'=>h'=H'∧IsB (pr i) v):FnC m 158 #[.slice p n c,.func (.func fid) fc cp] h fun v h'=>h'=h∧IsB (∃i,i<n∧pr i) v:=by
 refine jad Tryz.func158 rfl rfl (l:=(.slice p n c)::(.func (.func fid) fc cp)::uu7) rfl ?_
 intro cf cs K hK
 refine d82 ?_;refine rs5 ?_;refine d3 ?_
 refine jae (Post:=fun v=> ∃j:Int,v= .int .i64 j∧(0≤j↔ ∃i,i<n∧pr i)) rfl zq (by kernel_rfl) (fun H' hH=>f186_c m H' (rd.keeps (sq hH)) hn hcall (fun i hi K hK=>hf i hi K (SubH.sub.trans (hH.trans hK)))) ?_;rintro v ⟨j,rfl,hj⟩;refine jac ?_;refine jaY rfl zq (fun hc=>?_) (fun hc=>?_)
 ·refine d0 ?_
  refine jab (h) rfl Tryz.func158 rfl jaa ?_;refine hK _ _ ?_;first|exact ⟨rfl,IsB.yes (hj.1 (by assumption))⟩|exact ⟨rfl,IsB.no (fun e=>absurd (hj.2 e) (by omega))⟩
 ·refine d0 ?_
  refine jab (h) rfl Tryz.func158 rfl jaa ?_;refine hK _ _ ?_;first|exact ⟨rfl,IsB.yes (hj.1 (by assumption))⟩|exact ⟨rfl,IsB.no (fun e=>absurd (hj.2 e) (by omega))⟩
theorem f224_c (m:Md Tryz.prog B) (h:Hp) (x:Sp):FnC m 224 #[spV x] h fun v h'=>h'=h∧IsB (¬okM x) v:=by
 refine jad Tryz.func224 rfl rfl (l:=[spV x,undef,undef,undef,undef,undef]) rfl ?_
 intro cf cs K hK
 refine rs2 ?_;refine jaq rfl zq (fun q1=>k_hp (jac ?_));refine aq rfl ?_;refine rs4 ?_;refine jaT rfl zq ?_
 refine jae (Post:=fun v=>IsB _ v) rfl zq (by kernel_rfl) (fun H' hH=>f225_c m H' _ _ _ _ _ (by decide) (by decide)) ?_;rintro v (⟨hc,rfl⟩|⟨hc,rfl⟩)
 ·refine d31 ?_;refine d0 ?_
  refine jab (h) rfl Tryz.func224 rfl jaa ?_;refine hK _ _ ?_;first|exact ⟨rfl,IsB.yes (by unfold okM;omega)⟩|exact ⟨rfl,IsB.no (by unfold okM;omega)⟩
 ·refine d33 ?_;refine d0 ?_
  refine jab (h) rfl Tryz.func224 rfl jaa ?_;refine hK _ _ ?_;first|exact ⟨rfl,IsB.yes (by unfold okM;omega)⟩|exact ⟨rfl,IsB.no (by unfold okM;omega)⟩
theorem f220_c (m:Md Tryz.prog B) (h:Hp) {b:Bk} {pm:Option Addr} {nm cm:Nat} {pr:Option Addr} {nr cr:Nat}:FnC m 220 #[bkV b pm nm cm pr nr cr] h fun v h'=>h'=h∧v= .int .i64 (if¬(0≤b.bend∧b.bend≤99)∨ ¬(0≤b.twist∧b.twist≤99)∨ ¬(0≤b.turns∧b.turns≤5) then 1 else 0):=by
 refine jad Tryz.func220 rfl rfl (l:=(bkV b pm nm cm pr nr cr)::uu21) rfl ?_
 intro cf cs K hK
 refine rs2 ?_;refine jaq rfl zq (fun q1=>k_hp (jac ?_));refine d10 ?_;refine jak ?_
 refine jaA [(0,.free),(1,.free),(2,.free),(3,.free),(4,.free),(5,.free),(6,.free),(7,.free),(8,.free),(9,.free),(10,.free),(11,.free),(12,.free),(13,.free),(14,.free),(15,.free),(16,.free),(17,.free),(18,.free)] (by kernel_rfl) (by kernel_rfl) ?_;refine d23 ?_
 refine jae (Post:=fun v=>IsB _ v) rfl zq (by kernel_rfl) (fun H' hH=>f110_c m H' _ _ _) ?_;rintro v (⟨hc,rfl⟩|⟨hc,rfl⟩)
 ·refine d31 ?_;refine mq rfl ?_;refine d112 ?_
  refine jae (Post:=fun v=>IsB _ v) rfl rfl (by kernel_rfl) (fun H' hH=>f110_c m H' _ _ _) ?_;rintro v (⟨hc,rfl⟩|⟨hc,rfl⟩)
  ·refine d156 ?_;refine mq rfl ?_;refine d112 ?_
   refine jae (Post:=fun v=>IsB _ v) rfl rfl (by kernel_rfl) (fun H' hH=>f110_c m H' _ _ _) ?_;rintro v (⟨hc,rfl⟩|⟨hc,rfl⟩)
   ·refine d156 ?_;refine d9 ?_;refine d26 ?_
    refine jab (h) rfl Tryz.func220 rfl jaa ?_;refine hK _ _ ?_;refine ⟨rfl,?_⟩
    first|(rw [if_pos (by omega)];done)|(rw [if_neg (by omega)];done)
   ·refine d93 ?_;refine d123 ?_
    refine jab (h) rfl Tryz.func220 rfl jaa ?_;refine hK _ _ ?_;refine ⟨rfl,?_⟩
    first|(rw [if_pos (by omega)];done)|(rw [if_neg (by omega)];done)
  ·refine d93 ?_;refine jau rfl zq ?_;refine d49 ?_;refine d76 ?_;refine d50 ?_
   refine jab (h) rfl Tryz.func220 rfl jaa ?_;refine hK _ _ ?_;refine ⟨rfl,?_⟩
   first|(rw [if_pos (by omega)];done)|(rw [if_neg (by omega)];done)
 ·refine d33 ?_;refine d49 ?_;refine d76 ?_;refine d49 ?_;refine d76 ?_;refine d50 ?_
  refine jab (h) rfl Tryz.func220 rfl jaa ?_;refine hK _ _ ?_;refine ⟨rfl,?_⟩
  first|(rw [if_pos (by omega)];done)|(rw [if_neg (by omega)];done)
theorem f221_c (m:Md Tryz.prog B) (h:Hp) {b:Bk} {pm:Option Addr} {nm cm:Nat} {pr:Option Addr} {nr cr:Nat} (rdm:RdS B h 2 (.slice pm nm cm) nm (encs b.marks)) (hm:nm≤1000):FnC m 221 #[bkV b pm nm cm pr nr cr] h fun v h'=>h'=h∧v= .int .i64 (marksS b.marks):=by
 have hml:=rdm.elen (by decide)
 refine jad Tryz.func221 rfl rfl (l:=(bkV b pm nm cm pr nr cr)::uu12) rfl ?_
 intro cf cs K hK
 refine rs2 ?_;refine jaq rfl zq (fun q1=>k_hp (jac ?_));refine d10 ?_;refine jaS ?_;refine rs5 ?_;refine jaT rfl zq ?_
 refine jae (Post:=fun v=>v=_) rfl zq (by kernel_rfl) (fun H' hH=>f107_c m H' _ _ _ _ _ _ _ _ _) ?_;rintro v rfl;refine jac ?_;refine jae (Post:=fun v=>IsB _ v) rfl zq (by kernel_rfl) (fun H' hH=>f110_c m H' _ _ _) ?_;rintro v (⟨hc,rfl⟩|⟨hc,rfl⟩)
 ·refine d31 ?_;refine d73 ?_;refine rs5 ?_;refine d23 ?_
  refine jae (Post:=fun v=>IsB _ v) rfl zq (by kernel_rfl) (fun H' hH=>f223_c m H' (pr:=fun i=> ¬okM (b.marks.getD i default)) (rdm.keeps (sq hH)) (by omega) (by kernel_rfl) (fun i hi K hK=>f224_c m K _)) ?_;rintro v (⟨hc,rfl⟩|⟨hc,rfl⟩)
  ·refine jac ?_;refine d136 ?_;refine jab (h) rfl Tryz.func221 rfl jaa ?_;refine hK _ _ ?_;refine ⟨rfl,?_⟩
   first
    |(rw [marksS,if_pos (by omega)];done)
    |(rw [marksS,if_neg (by omega),if_neg (fun e=>by obtain ⟨i,h1,h2⟩:=hc;exact h2 (e _ (jai.2 ⟨i,by omega,rfl⟩)))];done)
    |(rw [marksS,if_neg (by omega),if_pos (fun x hx=>by obtain ⟨i,h1,rfl⟩:=jai.1 hx;exact Classical.byContradiction fun e=>hc ⟨i,by omega,e⟩)];done)
  ·refine jac ?_;refine d73 ?_;refine d117 ?_;refine d26 ?_;refine jab (h) rfl Tryz.func221 rfl jaa ?_;refine hK _ _ ?_;refine ⟨rfl,?_⟩
   first
    |(rw [marksS,if_pos (by omega)];done)
    |(rw [marksS,if_neg (by omega),if_neg (fun e=>by obtain ⟨i,h1,h2⟩:=hc;exact h2 (e _ (jai.2 ⟨i,by omega,rfl⟩)))];done)
    |(rw [marksS,if_neg (by omega),if_pos (fun x hx=>by obtain ⟨i,h1,rfl⟩:=jai.1 hx;exact Classical.byContradiction fun e=>hc ⟨i,by omega,e⟩)];done)
 ·refine d33 ?_;refine d136 ?_
  refine jab (h) rfl Tryz.func221 rfl jaa ?_;refine hK _ _ ?_;refine ⟨rfl,?_⟩
  first
   |(rw [marksS,if_pos (by omega)];done)
   |(rw [marksS,if_neg (by omega),if_neg (fun e=>by obtain ⟨i,h1,h2⟩:=hc;exact h2 (e _ (jai.2 ⟨i,by omega,rfl⟩)))];done)
   |(rw [marksS,if_neg (by omega),if_pos (fun x hx=>by obtain ⟨i,h1,rfl⟩:=jai.1 hx;exact Classical.byContradiction fun e=>hc ⟨i,by omega,e⟩)];done)
theorem f222_c (m:Md Tryz.prog B) (h:Hp) {b:Bk} {pm:Option Addr} {nm cm:Nat} {pr:Option Addr} {nr cr:Nat} (rdm:RdS B h 2 (.slice pm nm cm) nm (encs b.marks)) (hm:nm≤1000) (rdr:RdS B h 4 (.slice pr nr cr) nr (encs b.rules)) (hr:nr≤1000):FnC m 222 #[bkV b pm nm cm pr nr cr] h fun v h'=>h'=h∧v= .int .i64 (jax b.marks.length b.rules):=by
 have hml:=rdm.elen (by decide)
 have hrl:=rdr.elen (by decide)
 refine jad Tryz.func222 rfl rfl (l:=(bkV b pm nm cm pr nr cr)::uu42) rfl ?_
 intro cf cs K hK
 refine rs2 ?_;refine jaq rfl zq (fun q1=>k_hp (jac ?_));refine d10 ?_;refine rs5 ?_;refine d150 ?_
 refine jbz rfl zq (fun hc=>?_) (fun hc=>?_)
 ·refine d50 ?_
  refine jab (h) rfl Tryz.func222 rfl jaa ?_;refine hK _ _ ?_;refine ⟨rfl,?_⟩
  first
   |(rw [jax,if_pos (by omega)];done)
   |(rw [jax,if_neg (by omega),he,List.drop_eq_nil_of_le (by omega)];rfl)
   |(rw [jax,if_neg (by omega),he,jao b.rules k (by omega),jaM,if_pos (by omega)];done)
   |(rw [jax,if_neg (by omega),he,jao b.rules k (by omega),jaM,if_neg (by omega),if_pos (by omega)];done)
   |(rw [jax,if_neg (by omega),he,jao b.rules k (by omega),jaM,if_neg (by omega),if_neg (by omega),if_pos (by omega)];done)
 ·refine d36 ?_;refine rs5 ?_;refine d23 ?_;refine d130 ?_
  refine jag (fun nn l h'=> ∃(k:Nat),nn=nr-k∧(k≤nr)∧(jaM b.marks.length b.rules=jaM b.marks.length (b.rules.drop k))∧(∃U:Nat→Value,l=((bkV b pm nm cm pr nr cr)::(.pointer (some ⟨q1,0,none⟩))::vw10 U 2 ((.slice pr nr cr)::(.int .i64 (nr:Int))::(.int .i64 (k:Int))::vw28 U 15 [])))∧h++[⟨true,q1,.cells (bkL b pm nm cm pr nr cr).toArray 104 (0,0)⟩]=h') _ ⟨0,rfl,by omega,rfl,exU rfl,rfl⟩ ?_;rintro nn l h' ⟨k,rfl,hk,he,⟨U,rfl⟩,rfl⟩ hnext;refine rs1 ?_;refine jap rfl zq (fun hc=>?_) (fun hc=>?_)
  ·refine d106 ?_;refine rs4 ?_
   obtain ⟨rdr_b,rdr_o,rfl⟩:=rdr.ptr (by omega)
   refine jaJ rfl zq (by first|rfl|assumption) (by omega) (by omega) ?_;refine jbf (vs:=[.int .i64 (b.rules.getD k default).a,.int .i64 (b.rules.getD k default).b,.int .i64 (b.rules.getD k default).lo,.int .i64 (b.rules.getD k default).hi]) rfl zq rfl (rdr.eat k (by omega) (by omega)) ?_;refine jaw rfl zq (fun q4=>k_hp (jac ?_));refine jaO rfl zq rfl ?_;refine d57 ?_;refine rs13 ?_;refine jaT rfl zq ?_;refine d1 ?_;refine jae (Post:=fun v=>v=_) rfl zq (by kernel_rfl) (fun H' hH=>f64_c m H' _ _ _ _ _ _ _ _ _ _ (by omega)) ?_;rintro v rfl;refine jac ?_;refine jaF rfl zq (fun hc=>?_) (fun hc=>?_)
   ·replace hc:=st_ne hc
    refine d49 ?_;refine d76 ?_;refine d136 ?_
    refine jab (h) rfl Tryz.func222 rfl jaa ?_;refine hK _ _ ?_;refine ⟨rfl,?_⟩
    first
     |(rw [jax,if_pos (by omega)];done)
     |(rw [jax,if_neg (by omega),he,List.drop_eq_nil_of_le (by omega)];rfl)
     |(rw [jax,if_neg (by omega),he,jao b.rules k (by omega),jaM,if_pos (by omega)];done)
     |(rw [jax,if_neg (by omega),he,jao b.rules k (by omega),jaM,if_neg (by omega),if_pos (by omega)];done)
     |(rw [jax,if_neg (by omega),he,jao b.rules k (by omega),jaM,if_neg (by omega),if_neg (by omega),if_pos (by omega)];done)
   ·replace hc:=st_eq hc
    refine d104 ?_;refine d12 ?_
    refine jae (Post:=fun v=>v=_) rfl rfl (by kernel_rfl) (fun H' hH=>f64_c m H' _ _ _ _ _ _ _ _ _ _ (by omega)) ?_;rintro v rfl;refine jac ?_;refine jaF rfl rfl (fun hc=>?_) (fun hc=>?_)
    ·replace hc:=st_ne hc
     refine jau rfl zq ?_;refine d136 ?_;refine jab (h) rfl Tryz.func222 rfl jaa ?_;refine hK _ _ ?_;refine ⟨rfl,?_⟩
     first
      |(rw [jax,if_pos (by omega)];done)
      |(rw [jax,if_neg (by omega),he,List.drop_eq_nil_of_le (by omega)];rfl)
      |(rw [jax,if_neg (by omega),he,jao b.rules k (by omega),jaM,if_pos (by omega)];done)
      |(rw [jax,if_neg (by omega),he,jao b.rules k (by omega),jaM,if_neg (by omega),if_pos (by omega)];done)
      |(rw [jax,if_neg (by omega),he,jao b.rules k (by omega),jaM,if_neg (by omega),if_neg (by omega),if_pos (by omega)];done)
    ·replace hc:=st_eq hc
     refine jau rfl zq ?_;refine d73 ?_;refine rs6 ?_;refine d1 ?_;refine d1 ?_;refine jaY rfl zq (fun hc=>?_) (fun hc=>?_)
     ·refine d136 ?_
      refine jab (h) rfl Tryz.func222 rfl jaa ?_;refine hK _ _ ?_;refine ⟨rfl,?_⟩
      first
       |(rw [jax,if_pos (by omega)];done)
       |(rw [jax,if_neg (by omega),he,List.drop_eq_nil_of_le (by omega)];rfl)
       |(rw [jax,if_neg (by omega),he,jao b.rules k (by omega),jaM,if_pos (by omega)];done)
       |(rw [jax,if_neg (by omega),he,jao b.rules k (by omega),jaM,if_neg (by omega),if_pos (by omega)];done)
       |(rw [jax,if_neg (by omega),he,jao b.rules k (by omega),jaM,if_neg (by omega),if_neg (by omega),if_pos (by omega)];done)
     ·refine d73 ?_;refine rs5 ?_;refine d62 ?_
      refine jae (Post:=fun v=>IsB _ v) rfl zq (by kernel_rfl) (fun H' hH=>f225_c m H' _ _ _ _ _ (by decide) (by decide)) ?_;rintro v (⟨hc,rfl⟩|⟨hc,rfl⟩)
      ·refine d31 ?_;refine d73 ?_;refine d117 ?_;refine jay ?_;refine d78 ?_
       exact m.weak jaa (hnext _ _ _ (by omega) ⟨k+1,rfl,by omega,by rw [he,jao b.rules k (by omega),jaM,if_neg (by omega),if_neg (by omega),if_neg (by omega)],exU rfl,rfl⟩)
      ·refine d33 ?_;refine d136 ?_
       refine jab (h) rfl Tryz.func222 rfl jaa ?_;refine hK _ _ ?_;refine ⟨rfl,?_⟩
       first
        |(rw [jax,if_pos (by omega)];done)
        |(rw [jax,if_neg (by omega),he,List.drop_eq_nil_of_le (by omega)];rfl)
        |(rw [jax,if_neg (by omega),he,jao b.rules k (by omega),jaM,if_pos (by omega)];done)
        |(rw [jax,if_neg (by omega),he,jao b.rules k (by omega),jaM,if_neg (by omega),if_pos (by omega)];done)
        |(rw [jax,if_neg (by omega),he,jao b.rules k (by omega),jaM,if_neg (by omega),if_neg (by omega),if_pos (by omega)];done)
  ·refine d171 ?_
   refine jab (h) rfl Tryz.func222 rfl jaa ?_;refine hK _ _ ?_;refine ⟨rfl,?_⟩
   first
    |(rw [jax,if_pos (by omega)];done)
    |(rw [jax,if_neg (by omega),he,List.drop_eq_nil_of_le (by omega)];rfl)
    |(rw [jax,if_neg (by omega),he,jao b.rules k (by omega),jaM,if_pos (by omega)];done)
    |(rw [jax,if_neg (by omega),he,jao b.rules k (by omega),jaM,if_neg (by omega),if_pos (by omega)];done)
    |(rw [jax,if_neg (by omega),he,jao b.rules k (by omega),jaM,if_neg (by omega),if_neg (by omega),if_pos (by omega)];done)
end Go.Proofs.Bt
namespace Go.Proofs.Bt
open Go.Proofs
open Go.Lo
open Go.Conc (G)
set_option maxRecDepth 100000
set_option synthInstance.maxSize 100000
set_option synthInstance.maxHeartbeats 1000000
set_option maxHeartbeats 4000000
variable {B:Array Obj}
variable [Laid B]
def chkS (b:Bk) (k:Nat):Int:=if k=0 then (if¬(0≤b.bend∧b.bend≤99)∨ ¬(0≤b.twist∧b.twist≤99)∨ ¬(0≤b.turns∧b.turns≤5) then 1 else 0) else if k=1 then marksS b.marks else jax b.marks.length b.rules
theorem jkf {b:Bk} {k:Nat} (hk:k<3) (h: ∀i,i<k→chkS b i=0) (hs:chkS b k≠0):bookS b=chkS b k:=by
 unfold bookS
 rcases (by omega:k=0∨k=1∨k=2) with rfl|rfl|rfl
 ·simp only [chkS,if_true] at hs⊢
  by_cases e: ¬(0≤b.bend∧b.bend≤99)∨ ¬(0≤b.twist∧b.twist≤99)∨ ¬(0≤b.turns∧b.turns≤5)
  ·rw [if_pos e,if_pos e]
  ·rw [if_neg e] at hs
   exact absurd rfl hs
 ·have h0:=h 0 (by omega)
  simp only [chkS,if_true] at h0
  have hs':marksS b.marks≠0:=hs
  by_cases e: ¬(0≤b.bend∧b.bend≤99)∨ ¬(0≤b.twist∧b.twist≤99)∨ ¬(0≤b.turns∧b.turns≤5)
  ·rw [if_pos e] at h0
   cases h0
  ·rw [if_neg e,if_pos hs'];rfl
 ·have h0:=h 0 (by omega)
  simp only [chkS,if_true] at h0
  have h1:marksS b.marks=0:=h 1 (by omega)
  by_cases e: ¬(0≤b.bend∧b.bend≤99)∨ ¬(0≤b.twist∧b.twist≤99)∨ ¬(0≤b.turns∧b.turns≤5)
  ·rw [if_pos e] at h0
   cases h0
  ·rw [if_neg e,if_neg (by omega)];rfl
theorem jiy {b:Bk} (h: ∀i,i<3→chkS b i=0):bookS b=0:=by
 unfold bookS
 have h0:=h 0 (by omega)
 simp only [chkS,if_true] at h0
 have h1:marksS b.marks=0:=h 1 (by omega)
 by_cases e: ¬(0≤b.bend∧b.bend≤99)∨ ¬(0≤b.twist∧b.twist≤99)∨ ¬(0≤b.turns∧b.turns≤5)
 ·rw [if_pos e] at h0
  cases h0
 ·rw [if_neg e,if_neg (by omega)];exact h 2 (by omega)
theorem chk_get (k:Nat) (hk:k<3):([Value.func (.func 220) #[] #[],.func (.func 221) #[] #[],.func (.func 222) #[] #[]].toArray)[(k:Int).toNat*1]?=some (.func (.func (220+k)) #[] #[]):=by
 rcases (by omega:k=0∨k=1∨k=2) with rfl|rfl|rfl<;>rfl
theorem chk_call (k:Nat) (hk:k<3):ja4 Tryz.prog (220+k)=true:=by
 rcases (by omega:k=0∨k=1∨k=2) with rfl|rfl|rfl<;>kernel_rfl
theorem chk_c (m:Md Tryz.prog B) (h:Hp) {b:Bk} {pm:Option Addr} {nm cm:Nat} {pr:Option Addr} {nr cr:Nat} (rdm:RdS B h 2 (.slice pm nm cm) nm (encs b.marks)) (hm:nm≤1000) (rdr:RdS B h 4 (.slice pr nr cr) nr (encs b.rules)) (hr:nr≤1000) (k:Nat) (hk:k<3):FnC m (220+k) #[bkV b pm nm cm pr nr cr] h fun v h'=>h'=h∧v= .int .i64 (chkS b k):=by
 rcases (by omega:k=0∨k=1∨k=2) with rfl|rfl|rfl
 ·exact f220_c m h
 ·exact f221_c m h rdm hm
 ·exact f222_c m h rdm hm rdr hr
theorem f60_c (m:Md Tryz.prog B) (h:Hp) {b:Bk} {pm:Option Addr} {nm cm:Nat} {pr:Option Addr} {nr cr:Nat} (rdm:RdS B h 2 (.slice pm nm cm) nm (encs b.marks)) (hm:nm≤1000) (rdr:RdS B h 4 (.slice pr nr cr) nr (encs b.rules)) (hr:nr≤1000):FnC m 60 #[bkV b pm nm cm pr nr cr] h fun v h'=>h'=h∧v= .int .i64 (bookS b):=by
 refine jad Tryz.func60 rfl rfl (l:=(bkV b pm nm cm pr nr cr)::uu17) rfl ?_
 intro cf cs K hK
 refine rs2 ?_;refine jaq rfl zq (fun q1=>k_hp (jac ?_));refine d10 ?_;refine rs2 ?_
 refine jbf (vs:=[.func (.func 220) #[] #[],.func (.func 221) #[] #[],.func (.func 222) #[] #[]]) rfl zq rfl laid_rdN ?_;refine mq rfl ?_;refine d57 ?_
 refine jag (fun nn l h'=> ∃(k:Nat),nn=3-k∧(k≤3)∧(∀i,i<k→chkS b i=0)∧(∃U:Nat→Value,l=[bkV b pm nm cm pr nr cr,.pointer (some ⟨q1,0,none⟩),U 2,U 3,U 4,U 5,.agg [.func (.func 220) #[] #[],.func (.func 221) #[] #[],.func (.func 222) #[] #[]].toArray,.int .i64 (k:Int),U 8,U 9,U 10,U 11,U 12,U 13,U 14,U 15,U 16,U 17])∧h++[⟨true,q1,.cells (bkL b pm nm cm pr nr cr).toArray 43 (0,0)⟩]=h') _ ⟨0,rfl,by omega,fun i hi=>by omega,exU rfl,rfl⟩ ?_;rintro nn l h' ⟨k,rfl,hk,he,⟨U,rfl⟩,rfl⟩ hnext;refine rs1 ?_;refine jap rfl zq (fun hc=>?_) (fun hc=>?_)
 ·refine d106 ?_;refine rs2 ?_
  refine k_ixv rfl zq (by omega) (by omega) (chk_get k (by omega)) ?_;refine aq rfl ?_;refine d116 ?_;refine d122 ?_
  refine jea (Post:=fun v=>v=_) rfl zq (chk_call k (by omega)) (fun H' hH=>chk_c m H' (rdm.keeps (sq hH)) hm (rdr.keeps (sq hH)) hr k (by omega)) ?_;rintro v rfl;refine d135 ?_
  refine jaF rfl zq (fun hc=>?_) (fun hc=>?_)
  ·refine d166 ?_
   refine jab (h) rfl Tryz.func60 rfl jaa ?_;refine hK _ _ ?_;first
    |exact ⟨rfl,by rw [jkf (by omega) he (by assumption)]⟩
    |exact ⟨rfl,by rw [jiy (fun i hi=>he i (by omega))]⟩
  ·refine d177 ?_
   exact m.weak jaa (hnext _ _ _ (by omega) ⟨k+1,rfl,by omega,fun i hi=>by
    rcases Nat.lt_or_ge i k with h1|h1
    ·exact he i h1
    ·obtain rfl:i=k:=by omega
     first|exact hc|exact Classical.byContradiction hc,exU rfl,rfl⟩)
 ·refine d171 ?_
  refine jab (h) rfl Tryz.func60 rfl jaa ?_;refine hK _ _ ?_;first
   |exact ⟨rfl,by rw [jkf (by omega) he (by assumption)]⟩
   |exact ⟨rfl,by rw [jiy (fun i hi=>he i (by omega))]⟩
theorem f48_c (m:Md Tryz.prog B) (h:Hp) {b:Bk} {pm:Option Addr} {nm cm:Nat} {pr:Option Addr} {nr cr:Nat} {l:List Int} (hl:l.length=nm) (h7:nm≤7) (hs:Small 959 l):FnC m 48 #[bkV b pm nm cm pr nr cr,htV l] h fun v h'=> ∃nw,h'=h++nw∧OwnS 3 1 v (nm-2) (ints (bends l)) nw:=by
 refine jad Tryz.func48 rfl rfl (l:=(bkV b pm nm cm pr nr cr)::(htV l)::uu8) rfl ?_
 intro cf cs K hK
 refine rs3 ?_;refine jaq rfl zq (fun q2=>k_hp (jac ?_));refine jaq rfl zq (fun q3=>k_hp (jac ?_));refine d148 ?_;refine jaT rfl zq ?_
 refine jae (Post:=fun v=>v=_) rfl zq (by kernel_rfl) (fun H' hH=>f107_c m H' _ _ _ _ _ _ _ _ _) ?_;rintro v rfl;refine jac ?_;refine k_slA (c:=nm) rfl zq rfl (by omega) ?_;refine jat rfl zq (by kernel_rfl) (Post:=fun v nw=>OwnS 3 1 v (nm-1) (ints (diffs l)) nw) (fun H' hH=>f106_c m H' _ l nm hl.symm (by omega) (hs.le (by omega)) ((rdS_hts (q:=q3) hl (by omega) 7).keeps hH)) ?_;rintro v1 w1 o1;refine jaL (jac ?_);have hsd:=hs.diffs
 refine jat rfl zq (by kernel_rfl) (Post:=fun v nw=>OwnS 3 1 v (nm-2) (ints (bends l)) nw) (fun H' hH=>f106_c m H' v1 (diffs l) (nm-1) (by rw [jbI];omega) (by omega) (hsd.le (by omega)) (o1.rd'.keeps hH)) ?_;rintro v2 w2 o2;refine jaL (jac ?_);refine d0 ?_
 refine jab (h++w2) rfl Tryz.func48 rfl jaa ?_;refine hK _ _ ?_;exact ⟨w2,rfl,o2⟩
theorem f111_c (m:Md Tryz.prog B) (h:Hp) {b:Bk} {pm:Option Addr} {nm cm:Nat} {pr:Option Addr} {nr cr:Nat} {l:List Int} (hl:l.length=nm) (h7:nm≤7) (hs:Small 959 l):FnC m 111 #[bkV b pm nm cm pr nr cr,htV l] h fun v h'=> ∃nw,h'=h++nw∧OwnS 3 1 v (nm-3) (ints (diffs (bends l))) nw:=by
 refine jad Tryz.func111 rfl rfl (l:=(bkV b pm nm cm pr nr cr)::(htV l)::uu7) rfl ?_
 intro cf cs K hK
 refine rs3 ?_;refine jaq rfl zq (fun q2=>k_hp (jac ?_));refine jaq rfl zq (fun q3=>k_hp (jac ?_));refine aq rfl ?_;refine rs5 ?_;refine d137 ?_
 refine jat rfl zq (by kernel_rfl) (fun H' hH=>f48_c m H' hl h7 hs) ?_;rintro v1 w1 o1;refine jaL (jac ?_);have hsb:=hs.bends
 refine jat rfl zq (by kernel_rfl) (Post:=fun v nw=>OwnS 3 1 v (nm-3) (ints (diffs (bends l))) nw) (fun H' hH=>f106_c m H' v1 (bends l) (nm-2) (by rw [jcV];omega) (by omega) (hsb.le (by omega)) (o1.rd'.keeps hH)) ?_;rintro v2 w2 o2;refine jaL (jac ?_);refine d0 ?_
 refine jab (h++w2) rfl Tryz.func111 rfl jaa ?_;refine hK _ _ ?_;exact ⟨w2,rfl,o2⟩
end Go.Proofs.Bt
namespace Go.Proofs.Bt
open Go.Proofs
open Go.Lo
open Go.Conc (G)
set_option maxRecDepth 100000
set_option synthInstance.maxSize 100000
set_option synthInstance.maxHeartbeats 1000000
set_option maxHeartbeats 4000000
variable {B:Array Obj}
variable [Laid B]
theorem f112_c (m:Md Tryz.prog B) (h:Hp) {b:Bk} {pm:Option Addr} {nm cm:Nat} {pr:Option Addr} {nr cr:Nat} {ln:List Int} (hl:ln.length=nm) (h7:nm≤7) (hs:Small 959 ln):FnC m 112 #[bkV b pm nm cm pr nr cr,htV ln] h fun v h'=>h'=h∧v= .int .i64 (turns ln):=by
 refine jad Tryz.func112 rfl rfl (l:=(bkV b pm nm cm pr nr cr)::(htV ln)::uu36) rfl ?_
 intro cf cs K hK
 refine rs3 ?_;refine jaq rfl zq (fun q2=>k_hp (jac ?_));refine jaq rfl zq (fun q3=>k_hp (jac ?_));refine aq rfl ?_;refine rs2 ?_;refine d99 ?_;refine rs5 ?_;refine d137 ?_
 refine jat rfl zq (by kernel_rfl) (fun H' hH=>f48_c m H' hl h7 hs) ?_;rintro v1 w1 o1;obtain ⟨p1,c1,rfl,_⟩:=o1.len
 refine jaL (jac ?_);have r1:RdS B w1 1 (.slice p1 (nm-2) c1) (nm-2) (ints (bends ln)):=o1.rd (List.Sublist.refl _)
 have hbl:=jcV ln
 refine d130 ?_
 refine jag (fun nn l h'=> ∃(k:Nat) (s t:Int),nn=nm-k∧(k≤nm-2)∧(turnF ((bends ln).take k)=(s,t))∧(0≤s)∧(s≤k)∧(∃U:Nat→Value,l=((bkV b pm nm cm pr nr cr)::(htV ln)::(.pointer (some ⟨q2,0,none⟩))::(.pointer (some ⟨q3,0,none⟩))::(U 4)::(.int .i64 s)::(.int .i64 t)::vw4 U 7 ((.slice p1 (nm-2) c1)::(.int .i64 ((nm-2:Nat):Int))::(.int .i64 (k:Int))::vw24 U 14 [])))∧h++[⟨true,q2,.cells (bkL b pm nm cm pr nr cr).toArray 104 (0,0)⟩,⟨true,q3,.cells (hts ln).toArray 106 (0,0)⟩]++w1=h') _ ⟨0,0,0,rfl,by omega,rfl,by omega,by omega,exU rfl,by simp⟩ ?_;rintro nn l h' ⟨k,s,t,rfl,hk,hst,hs0,hs1,⟨U,rfl⟩,rfl⟩ hnext;refine rs1 ?_;refine jap rfl zq (fun hc=>?_) (fun hc=>?_)
 ·refine d106 ?_;refine rs3 ?_
  obtain ⟨r1_b,r1_o,rfl⟩:=r1.ptr (by omega)
  refine jaJ rfl zq (by first|rfl|assumption) (by omega) (by omega) ?_;refine k_ld rfl zq (r1.iat k (by omega) (by omega)) ?_;refine d108 ?_
  refine jcd rfl zq (fun hc=>?_) (fun hc=>?_)
  ·refine d7 ?_;refine jbU rfl ?_;refine d78 ?_
   have ht:=jbZ (bends ln) k (by omega)
   rw [hst] at ht
   simp only [turnSt] at ht
   exact m.weak jaa (hnext _ _ _ (by omega) ⟨k+1,_,_,rfl,by omega,by first|(exfalso;omega)|(rw [ht];repeat first|rw [if_pos (by omega)]|rw [if_neg (by omega)]),by omega,by omega,exU rfl,rfl⟩)
  ·refine d36 ?_;refine jak ?_
   refine jaA [(0,.free),(1,.free),(2,.free),(3,.free),(4,.free),(5,.free),(6,.free),(7,.free),(8,.free),(9,.free),(10,.free),(11,.free),(12,.free),(13,.free)] (by kernel_rfl) (by kernel_rfl) ?_;refine mq rfl ?_
   refine jbz rfl zq (fun hc=>?_) (fun hc=>?_)
   ·refine d22 ?_
    refine jap rfl rfl (fun hc=>?_) (fun hc=>?_)
    ·refine jaz rfl zq ?_;refine d89 ?_;refine jaz rfl zq ?_;refine d7 ?_;refine d55 ?_;refine d149 ?_;refine d145 ?_;have ht:=jbZ (bends ln) k (by omega)
     rw [hst] at ht
     simp only [turnSt] at ht
     exact m.weak jaa (hnext _ _ _ (by omega) ⟨k+1,_,_,rfl,by omega,by first|(exfalso;omega)|(rw [ht];repeat first|rw [if_pos (by omega)]|rw [if_neg (by omega)]),by omega,by omega,exU rfl,rfl⟩)
    ·refine jaz rfl zq ?_;refine d22 ?_;refine jap rfl rfl (fun hc=>?_) (fun hc=>?_)
     ·refine k_mv rfl rfl ?_;refine k_mv rfl rfl ?_;refine jbz rfl rfl (fun hc=>?_) (fun hc=>?_)
      ·refine jaz rfl rfl ?_;refine jau rfl zq ?_;refine d7 ?_;refine d55 ?_;refine d149 ?_;refine d145 ?_;have ht:=jbZ (bends ln) k (by omega)
       rw [hst] at ht
       simp only [turnSt] at ht
       exact m.weak jaa (hnext _ _ _ (by omega) ⟨k+1,_,_,rfl,by omega,by first|(exfalso;omega)|(rw [ht];repeat first|rw [if_pos (by omega)]|rw [if_neg (by omega)]),by omega,by omega,exU rfl,rfl⟩)
      ·refine jaz rfl rfl ?_;refine d119 ?_;refine d149 ?_;refine d145 ?_;have ht:=jbZ (bends ln) k (by omega)
       rw [hst] at ht
       simp only [turnSt] at ht
       exact m.weak jaa (hnext _ _ _ (by omega) ⟨k+1,_,_,rfl,by omega,by first|(exfalso;omega)|(rw [ht];repeat first|rw [if_pos (by omega)]|rw [if_neg (by omega)]),by omega,by omega,exU rfl,rfl⟩)
     ·refine k_mv rfl rfl ?_;refine d2 ?_;refine jau rfl rfl ?_;refine d119 ?_;refine d149 ?_;refine d145 ?_;have ht:=jbZ (bends ln) k (by omega)
      rw [hst] at ht
      simp only [turnSt] at ht
      exact m.weak jaa (hnext _ _ _ (by omega) ⟨k+1,_,_,rfl,by omega,by first|(exfalso;omega)|(rw [ht];repeat first|rw [if_pos (by omega)]|rw [if_neg (by omega)]),by omega,by omega,exU rfl,rfl⟩)
   ·refine d30 ?_;refine jau rfl zq ?_;refine d22 ?_
    refine jap rfl rfl (fun hc=>?_) (fun hc=>?_)
    ·refine k_mv rfl rfl ?_;refine k_mv rfl rfl ?_;refine jbz rfl rfl (fun hc=>?_) (fun hc=>?_)
     ·refine jaz rfl rfl ?_;refine jau rfl zq ?_;refine d7 ?_;refine d55 ?_;refine d149 ?_;refine d145 ?_;have ht:=jbZ (bends ln) k (by omega)
      rw [hst] at ht
      simp only [turnSt] at ht
      exact m.weak jaa (hnext _ _ _ (by omega) ⟨k+1,_,_,rfl,by omega,by first|(exfalso;omega)|(rw [ht];repeat first|rw [if_pos (by omega)]|rw [if_neg (by omega)]),by omega,by omega,exU rfl,rfl⟩)
     ·refine jaz rfl rfl ?_;refine d119 ?_;refine d149 ?_;refine d145 ?_;have ht:=jbZ (bends ln) k (by omega)
      rw [hst] at ht
      simp only [turnSt] at ht
      exact m.weak jaa (hnext _ _ _ (by omega) ⟨k+1,_,_,rfl,by omega,by first|(exfalso;omega)|(rw [ht];repeat first|rw [if_pos (by omega)]|rw [if_neg (by omega)]),by omega,by omega,exU rfl,rfl⟩)
    ·refine k_mv rfl rfl ?_;refine d2 ?_;refine jau rfl rfl ?_;refine d119 ?_;refine d149 ?_;refine d145 ?_;have ht:=jbZ (bends ln) k (by omega)
     rw [hst] at ht
     simp only [turnSt] at ht
     exact m.weak jaa (hnext _ _ _ (by omega) ⟨k+1,_,_,rfl,by omega,by first|(exfalso;omega)|(rw [ht];repeat first|rw [if_pos (by omega)]|rw [if_neg (by omega)]),by omega,by omega,exU rfl,rfl⟩)
 ·refine d107 ?_;refine d86 ?_
  refine jab (h) rfl Tryz.func112 rfl jaa ?_;refine hK _ _ ?_;obtain rfl:k=nm-2:=by omega
  rw [List.take_of_length_le (by omega)] at hst
  exact ⟨rfl,by rw [turns,hst]⟩
theorem f108_c (m:Md Tryz.prog B) (h:Hp) (x:Int):FnC m 108 #[.int .i64 x] h fun v h'=> ∃nw,h'=h++nw∧ ∃q,nw=[⟨true,q,.cells [.int .i64 x].toArray 3 (0,0)⟩]∧v= .func (.func 109) #[] [.pointer (some ⟨q,0,none⟩)].toArray:=by
 refine jad Tryz.func108 rfl rfl (l:=[.int .i64 x,undef,undef,undef]) rfl ?_
 intro cf cs K hK
 refine rs2 ?_;refine jaq rfl zq (fun q1=>k_hp (jac ?_));refine aq rfl ?_;refine rs2 ?_;refine jeG rfl zq ?_;refine d0 ?_
 refine jab (h++[⟨true,q1,.cells [.int .i64 x].toArray 3 (0,0)⟩]) rfl Tryz.func108 rfl jaa ?_;refine hK _ _ ?_;exact ⟨_,rfl,q1,rfl,rfl⟩
theorem f109_c (m:Md Tryz.prog B) (h:Hp) (x y:Int) {q:Nat} (rd:Rd B h ⟨q,0,none⟩ (.int .i64 y)) (hy: -100000≤y∧y≤100000):FnC m 109 #[.int .i64 x,.pointer (some ⟨q,0,none⟩)] h fun v h'=>h'=h∧IsB (¬(-y≤x∧x≤y)) v:=by
 refine jad Tryz.func109 rfl rfl (l:=(.int .i64 x)::(.pointer (some ⟨q,0,none⟩))::uu8) rfl ?_
 intro cf cs K hK
 refine d82 ?_;refine rs7 ?_;refine mq rfl ?_
 refine k_ld rfl zq rd ?_;refine k_neg rfl zq (by unfold In64;omega) ?_;refine k_ld rfl zq rd ?_;refine jae (Post:=fun v=>IsB _ v) rfl zq (by kernel_rfl) (fun H' hH=>f110_c m H' _ _ _) ?_;rintro v (⟨hc,rfl⟩|⟨hc,rfl⟩)
 ·refine d31 ?_;refine d0 ?_
  refine jab (h) rfl Tryz.func109 rfl jaa ?_;refine hK _ _ ?_;first|exact ⟨rfl,IsB.yes (by omega)⟩|exact ⟨rfl,IsB.no (by omega)⟩
 ·refine d33 ?_;refine d0 ?_
  refine jab (h) rfl Tryz.func109 rfl jaa ?_;refine hK _ _ ?_;first|exact ⟨rfl,IsB.yes (by omega)⟩|exact ⟨rfl,IsB.no (by omega)⟩
theorem jkh:ja4 Tryz.prog 109=true:=by kernel_rfl
theorem rd_has {B:Array Obj} {h:Hp} {q t:Nat} {rw:Bool} {f:Nat×Nat} {v:Value} [x:Has h q rw (.cells [v].toArray t f)]:Rd B h ⟨q,0,none⟩ v:=Rd.held x.mem rfl
theorem f49_c (m:Md Tryz.prog B) (h:Hp) {b:Bk} {pm:Option Addr} {nm cm:Nat} {pr:Option Addr} {nr cr:Nat} {ln:List Int} (hl:ln.length=nm) (h7:nm≤7) (hs:Small 959 ln) (hv:Valid b):FnC m 49 #[bkV b pm nm cm pr nr cr,htV ln] h fun v h'=>h'=h∧IsB (fair b.bend b.twist b.turns ln) v:=by
 have hbl:=jcV ln
 have hdl:=jbI (bends ln)
 have hv1:=hv.bend
 have hv2:=hv.twist
 refine jad Tryz.func49 rfl rfl (l:=(bkV b pm nm cm pr nr cr)::(htV ln)::uu35) rfl ?_
 intro cf cs K hK
 refine rs3 ?_;refine jaq rfl zq (fun q2=>k_hp (jac ?_));refine jaq rfl zq (fun q3=>k_hp (jac ?_));refine aq rfl ?_;refine d67 ?_
 refine jah [(3,.pure),(4,.pure),(5,.pure),(0,.read),(1,.read),(6,.read),(2,.keep),(7,.keep),(8,.keep),(9,.pure),(10,.pure),(14,.pure),(15,.pure),(16,.pure),(11,.read),(12,.read),(17,.read),(13,.keep),(18,.keep),(19,.keep),(20,.pure),(21,.pure),(22,.pure),(26,.pure),(27,.pure),(23,.read),(24,.read),(28,.read),(25,.keep),(29,.pure),(30,.pure),(31,.pure)] (by kernel_rfl) (by kernel_rfl) (List.Sublist.refl _) ?_;refine mq rfl ?_;refine d8 ?_;refine jaT rfl zq ?_;refine d74 ?_
 refine jat rfl zq (by kernel_rfl) (fun H' hH=>f48_c m H' hl h7 hs) ?_;rintro v1 w1 o1;obtain ⟨p1,c1,rfl,_⟩:=o1.len
 refine jaL (jac ?_);refine jhq (Post:=fun v nw=> ∃q,nw=[⟨true,q,.cells [.int .i64 b.bend].toArray 3 (0,0)⟩]∧v= .func (.func 109) #[] [.pointer (some ⟨q,0,none⟩)].toArray) rfl zq (by kernel_rfl) (fun H' hH=>f108_c m H' _) ?_;rintro _ _ ⟨qa,rfl,rfl⟩;refine jaL (jac ?_);refine jae (Post:=fun v=>IsB _ v) rfl zq (by kernel_rfl) (fun H' hH=>f101_c m H' (pr:=fun i=> ¬(-b.bend≤(bends ln).getD i 0∧(bends ln).getD i 0≤b.bend)) (o1.rd'.keeps hH) (by omega) jkh (fun i hi K hK=>by simpa using f109_c m K ((bends ln).getD i 0) b.bend ((rd_has (q:=qa)).keeps (hH.trans hK)) (by omega))) ?_;rintro v (⟨hc,rfl⟩|⟨hc,rfl⟩)
 ·refine jac ?_;have hA:=hc
  refine jgR rfl zq ?_;refine d168 ?_;refine jau rfl zq ?_;refine d89 ?_;refine d52 ?_;refine d0 ?_;refine jab (h) rfl Tryz.func49 rfl jaa ?_;refine hK _ _ ?_;first
   |exact ⟨rfl,IsB.no fun e=>by
     obtain ⟨i,h1,h2⟩:=hA
     exact h2 (e.1 _ (mem_getD.2 ⟨i,by omega,rfl⟩))⟩
   |exact ⟨rfl,IsB.no fun e=>by
     obtain ⟨i,h1,h2⟩:=hC
     exact h2 (e.2.1 _ (mem_getD.2 ⟨i,by omega,rfl⟩))⟩
   |exact ⟨rfl,IsB.no fun e=>by have:=e.2.2;omega⟩
   |exact ⟨rfl,IsB.yes ⟨fun x hx=>by
     obtain ⟨i,h1,rfl⟩:=mem_getD.1 hx
     exact Classical.byContradiction fun e=>hA ⟨i,by omega,e⟩,fun x hx=>by
     obtain ⟨i,h1,rfl⟩:=mem_getD.1 hx
     exact Classical.byContradiction fun e=>hC ⟨i,by omega,e⟩,by omega⟩⟩
 ·refine jac ?_;have hA:=hc
  refine jii rfl zq ?_;refine d22 ?_;refine d90 ?_;refine jaT rfl rfl ?_;refine jaT rfl rfl ?_;refine jbb rfl rfl ?_;refine jat rfl rfl (by kernel_rfl) (fun H' hH=>f111_c m H' hl h7 hs) ?_;rintro v2 w2 o2;obtain ⟨p2,c2,rfl,_⟩:=o2.len
  refine jaL (jac ?_);refine jhq (Post:=fun v nw=> ∃q,nw=[⟨true,q,.cells [.int .i64 b.twist].toArray 3 (0,0)⟩]∧v= .func (.func 109) #[] [.pointer (some ⟨q,0,none⟩)].toArray) rfl rfl (by kernel_rfl) (fun H' hH=>f108_c m H' _) ?_;rintro _ _ ⟨qb,rfl,rfl⟩;refine jaL (jac ?_);refine jae (Post:=fun v=>IsB _ v) rfl rfl (by kernel_rfl) (fun H' hH=>f101_c m H' (pr:=fun i=> ¬(-b.twist≤(diffs (bends ln)).getD i 0∧(diffs (bends ln)).getD i 0≤b.twist)) (o2.rd'.keeps hH) (by omega) jkh (fun i hi K hK=>by simpa using f109_c m K ((diffs (bends ln)).getD i 0) b.twist ((rd_has (q:=qb)).keeps (hH.trans hK)) (by omega))) ?_;rintro v (⟨hc,rfl⟩|⟨hc,rfl⟩)
  ·refine jac ?_;have hC:=hc
   refine d143 ?_;refine d89 ?_;refine d52 ?_;refine d0 ?_
   refine jab (h) rfl Tryz.func49 rfl jaa ?_;refine hK _ _ ?_;first
    |exact ⟨rfl,IsB.no fun e=>by
      obtain ⟨i,h1,h2⟩:=hA
      exact h2 (e.1 _ (mem_getD.2 ⟨i,by omega,rfl⟩))⟩
    |exact ⟨rfl,IsB.no fun e=>by
      obtain ⟨i,h1,h2⟩:=hC
      exact h2 (e.2.1 _ (mem_getD.2 ⟨i,by omega,rfl⟩))⟩
    |exact ⟨rfl,IsB.no fun e=>by have:=e.2.2;omega⟩
    |exact ⟨rfl,IsB.yes ⟨fun x hx=>by
      obtain ⟨i,h1,rfl⟩:=mem_getD.1 hx
      exact Classical.byContradiction fun e=>hA ⟨i,by omega,e⟩,fun x hx=>by
      obtain ⟨i,h1,rfl⟩:=mem_getD.1 hx
      exact Classical.byContradiction fun e=>hC ⟨i,by omega,e⟩,by omega⟩⟩
  ·refine jac ?_;have hC:=hc
   refine jii rfl rfl ?_;refine jaz rfl zq ?_;refine mq rfl ?_;refine d90 ?_;refine jaT rfl rfl ?_;refine jaT rfl rfl ?_;refine jbb rfl rfl ?_;refine jae (Post:=fun v=>v=_) rfl rfl (by kernel_rfl) (fun H' hH=>f112_c m H' hl h7 hs) ?_;rintro v rfl;refine jac ?_;refine ja1 rfl rfl (fun hc=>?_) (fun hc=>?_)
   ·refine d64 ?_
    refine jab (h) rfl Tryz.func49 rfl jaa ?_;refine hK _ _ ?_;first
     |exact ⟨rfl,IsB.no fun e=>by
       obtain ⟨i,h1,h2⟩:=hA
       exact h2 (e.1 _ (mem_getD.2 ⟨i,by omega,rfl⟩))⟩
     |exact ⟨rfl,IsB.no fun e=>by
       obtain ⟨i,h1,h2⟩:=hC
       exact h2 (e.2.1 _ (mem_getD.2 ⟨i,by omega,rfl⟩))⟩
     |exact ⟨rfl,IsB.no fun e=>by have:=e.2.2;omega⟩
     |exact ⟨rfl,IsB.yes ⟨fun x hx=>by
       obtain ⟨i,h1,rfl⟩:=mem_getD.1 hx
       exact Classical.byContradiction fun e=>hA ⟨i,by omega,e⟩,fun x hx=>by
       obtain ⟨i,h1,rfl⟩:=mem_getD.1 hx
       exact Classical.byContradiction fun e=>hC ⟨i,by omega,e⟩,by omega⟩⟩
   ·refine d64 ?_
    refine jab (h) rfl Tryz.func49 rfl jaa ?_;refine hK _ _ ?_;first
     |exact ⟨rfl,IsB.no fun e=>by
       obtain ⟨i,h1,h2⟩:=hA
       exact h2 (e.1 _ (mem_getD.2 ⟨i,by omega,rfl⟩))⟩
     |exact ⟨rfl,IsB.no fun e=>by
       obtain ⟨i,h1,h2⟩:=hC
       exact h2 (e.2.1 _ (mem_getD.2 ⟨i,by omega,rfl⟩))⟩
     |exact ⟨rfl,IsB.no fun e=>by have:=e.2.2;omega⟩
     |exact ⟨rfl,IsB.yes ⟨fun x hx=>by
       obtain ⟨i,h1,rfl⟩:=mem_getD.1 hx
       exact Classical.byContradiction fun e=>hA ⟨i,by omega,e⟩,fun x hx=>by
       obtain ⟨i,h1,rfl⟩:=mem_getD.1 hx
       exact Classical.byContradiction fun e=>hC ⟨i,by omega,e⟩,by omega⟩⟩
end Go.Proofs.Bt
namespace Go.Proofs.Bt
open Go.Proofs
open Go.Lo
open Go.Conc (G)
set_option maxRecDepth 100000
set_option synthInstance.maxSize 100000
set_option synthInstance.maxHeartbeats 1000000
set_option maxHeartbeats 4000000
variable {B:Array Obj}
variable [Laid B]
theorem jl1 {B:Array Obj} {h:Hp} {q:Nat} {ln:List Int} (rd:RdN B h q 0 (hts ln)) {H:Hp} [s:SubH h H] {j:Int} (h0:0≤j) (h1:j<7):Rd B H ⟨q,0+j.toNat*1,none⟩ (.int .i64 (ln.getD j.toNat 0)):=by
 have:=rd j.toNat (by rw [jbc];omega)
 rw [List.getD_eq_getElem?_getD,jjd (by omega)] at this
 rw [Nat.mul_one];exact this.keeps s.sub
theorem rdN_has {B:Array Obj} {h:Hp} {q t:Nat} {rw:Bool} {f:Nat×Nat} {vs:List Value} [x:Has h q rw (.cells vs.toArray t f)]:RdN B h q 0 vs:=fun j hj=>Rd.held x.mem (by
 rw [Nat.zero_add,List.getElem?_toArray,List.getD_eq_getElem?_getD,List.getElem?_eq_getElem hj];rfl)
theorem callB159:ja4 Tryz.prog 159=true:=by kernel_rfl
def jfL (ln:List Int) (r:Ru):Prop:=r.lo≤ln.getD r.b.toNat 0-ln.getD r.a.toNat 0∧ln.getD r.b.toNat 0-ln.getD r.a.toNat 0≤r.hi
def right (b:Bk) (ln:List Int):Prop:= ∀r∈b.rules,jfL ln r
theorem f159_c (m:Md Tryz.prog B) (h:Hp) (r:Ru) {q:Nat} {ln:List Int} (rd:RdN B h q 0 (hts ln)) (hs:Small 959 ln) (ha:0≤r.a∧r.a<7) (hb:0≤r.b∧r.b<7):FnC m 159 #[ruV r,.pointer (some ⟨q,0,none⟩)] h fun v h'=>h'=h∧IsB (¬jfL ln r) v:=by
 refine jad Tryz.func159 rfl rfl (l:=(ruV r)::(.pointer (some ⟨q,0,none⟩))::uu19) rfl ?_
 intro cf cs K hK
 refine rs2 ?_;refine jaq rfl zq (fun q2=>k_hp (jac ?_));refine d10 ?_
 refine jah [(0,.pure),(4,.pure),(9,.pure),(10,.pure),(12,.pure),(13,.pure),(1,.read),(2,.pure),(3,.read),(5,.read),(6,.pure),(7,.read),(8,.pure),(11,.read),(14,.read),(15,.keep),(16,.pure),(17,.pure)] (by kernel_rfl) (by kernel_rfl) (List.Sublist.refl _) ?_;refine d8 ?_;refine d8 ?_;refine d23 ?_;refine jdZ rfl zq (by omega) (by omega) ?_
 have hs1:=hs r.b.toNat
 refine k_ld rfl zq (jl1 rd (by omega) (by omega)) ?_;refine jbb rfl zq ?_;refine jdZ rfl zq (by omega) (by omega) ?_;have hs2:=hs r.a.toNat
 refine k_ld rfl zq (jl1 rd (by omega) (by omega)) ?_;refine jcj rfl zq (by unfold In64;omega) ?_;refine d85 ?_;refine jae (Post:=fun v=>IsB _ v) rfl zq (by kernel_rfl) (fun H' hH=>f110_c m H' _ _ _) ?_;rintro v (⟨hc,rfl⟩|⟨hc,rfl⟩)
 ·refine d31 ?_;refine d0 ?_
  refine jab (h) rfl Tryz.func159 rfl jaa ?_;refine hK _ _ ?_;first|exact ⟨rfl,IsB.yes (by unfold jfL;omega)⟩|exact ⟨rfl,IsB.no (by unfold jfL;omega)⟩
 ·refine d33 ?_;refine d0 ?_
  refine jab (h) rfl Tryz.func159 rfl jaa ?_;refine hK _ _ ?_;first|exact ⟨rfl,IsB.yes (by unfold jfL;omega)⟩|exact ⟨rfl,IsB.no (by unfold jfL;omega)⟩
theorem f122_c (m:Md Tryz.prog B) (h:Hp) {b:Bk} {pm:Option Addr} {nm cm:Nat} {pr:Option Addr} {nr cr:Nat} {ln:List Int} (hl:ln.length=nm) (h7:nm≤7) (hs:Small 959 ln) (hm:b.marks.length=nm) (rdr:RdS B h 4 (.slice pr nr cr) nr (encs b.rules)) (hr:nr≤1000) (hv:Valid b):FnC m 122 #[bkV b pm nm cm pr nr cr,htV ln] h fun v h'=>h'=h∧IsB (right b ln) v:=by
 have hrl:=rdr.elen (by decide)
 have hru: ∀i,i<b.rules.length→(0≤(b.rules.getD i default).a∧(b.rules.getD i default).a<7)∧(0≤(b.rules.getD i default).b∧(b.rules.getD i default).b<7):=fun i hi=>by
  have:=hv.rules _ (jai.2 ⟨i,hi,rfl⟩)
  omega
 refine jad Tryz.func122 rfl rfl (l:=(bkV b pm nm cm pr nr cr)::(htV ln)::uu9) rfl ?_
 intro cf cs K hK
 refine rs3 ?_;refine jaq rfl zq (fun q2=>k_hp (jac ?_));refine jaq rfl zq (fun q3=>k_hp (jac ?_));refine aq rfl ?_;refine rs7 ?_;refine d23 ?_;refine jeG rfl zq ?_
 refine jae (Post:=fun v=>IsB _ v) rfl zq (by kernel_rfl) (fun H' hH=>f158_c m H' (pr:=fun i=> ¬jfL ln (b.rules.getD i default)) (rdr.keeps (sq hH)) (by omega) callB159 (fun i hi K hK=>by simpa using f159_c m K (b.rules.getD i default) ((rdN_has (q:=q3)).keeps (hH.trans hK)) hs (hru i (by omega)).1 (hru i (by omega)).2)) ?_;rintro v (⟨hc,rfl⟩|⟨hc,rfl⟩)
 ·refine d31 ?_;refine d0 ?_
  refine jab (h) rfl Tryz.func122 rfl jaa ?_;refine hK _ _ ?_;first
   |exact ⟨rfl,IsB.no fun e=>by
     obtain ⟨i,h1,h2⟩:=hc
     exact h2 (e _ (jai.2 ⟨i,by omega,rfl⟩))⟩
   |exact ⟨rfl,IsB.yes fun r hr=>by
     obtain ⟨i,h1,rfl⟩:=jai.1 hr
     exact Classical.byContradiction fun e=>hc ⟨i,by omega,e⟩⟩
 ·refine d33 ?_;refine d0 ?_
  refine jab (h) rfl Tryz.func122 rfl jaa ?_;refine hK _ _ ?_;first
   |exact ⟨rfl,IsB.no fun e=>by
     obtain ⟨i,h1,h2⟩:=hc
     exact h2 (e _ (jai.2 ⟨i,by omega,rfl⟩))⟩
   |exact ⟨rfl,IsB.yes fun r hr=>by
     obtain ⟨i,h1,rfl⟩:=jai.1 hr
     exact Classical.byContradiction fun e=>hc ⟨i,by omega,e⟩⟩
end Go.Proofs.Bt
namespace Go.Proofs.Bt
open Go.Proofs
open Go.Lo
open Go.Conc (G)
set_option maxRecDepth 100000
set_option synthInstance.maxSize 100000
set_option synthInstance.maxHeartbeats 1000000
set_option maxHeartbeats 4000000
variable {B:Array Obj}
variable [Laid B]
def okN (be:Int) (pre:List Int) (n:Int):Prop:=2≤pre.length→ -be≤n-2*pre.getD (pre.length-1) 0+pre.getD (pre.length-2) 0∧n-2*pre.getD (pre.length-1) 0+pre.getD (pre.length-2) 0≤be
instance (be:Int) (pre:List Int) (n:Int):Decidable (okN be pre n):=by unfold okN;infer_instance
def genL (be:Int):List Sp→List Int→List (List Int)
 |[],pre=>[pre]
 |x::ms,pre=>(spanL x).flatMap fun n=>if okN be pre n then genL be ms (pre++[n]) else []
def genJ (be:Int) (x:Sp) (ms:List Sp) (pre:List Int) (j:Nat):List (List Int):=((spanL x).take j).flatMap fun n=>if okN be pre n then genL be ms (pre++[n]) else []
theorem jmK (be:Int) (x:Sp) (ms:List Sp) (pre:List Int):genJ be x ms pre 0=[]:=rfl
theorem jmL (be:Int) (x:Sp) (ms:List Sp) (pre:List Int) (j:Nat) (h:j<(x.hi-x.lo+1).toNat):genJ be x ms pre (j+1)=genJ be x ms pre j++if okN be pre (x.lo+j) then genL be ms (pre++[x.lo+j]) else []:=by
 unfold genJ
 rw [take_snoc' _ j (by rw [spanL_length];exact h),spanL_getD x j h,List.flatMap_append];simp
theorem jmN (be:Int) (x:Sp) (ms:List Sp) (pre:List Int) (j:Nat) (h:(x.hi-x.lo+1).toNat≤j):genJ be x ms pre j=genL be (x::ms) pre:=by
 unfold genJ
 rw [List.take_of_length_le (by rw [spanL_length];exact h)];rfl
theorem jmM (be:Int) (x:Sp) (ms:List Sp) (pre:List Int) (j:Nat):(genJ be x ms pre j).length≤(genL be (x::ms) pre).length:=by
 have:genL be (x::ms) pre=genJ be x ms pre j++((spanL x).drop j).flatMap fun n=>if okN be pre n then genL be ms (pre++[n]) else []:=by
  unfold genJ
  rw [←List.flatMap_append,List.take_append_drop];rfl
 rw [this,List.length_append];omega
theorem jmJ (be:Int): ∀(ms:List Sp) (pre:List Int),(∀x∈ms,okM x)→(genL be ms pre).length≤3^ms.length
 |[],pre,_=>by simp [genL]
 |x::ms,pre,h=>by
  have hx:=h x List.mem_cons_self
  unfold okM at hx
  have hs:(spanL x).length≤3:=by rw [spanL_length];omega
  have gen: ∀(ns:List Int),(ns.flatMap fun n=>if okN be pre n then genL be ms (pre++[n]) else []).length≤ns.length*3^ms.length:=by
   intro ns
   induction ns with
   |nil=>simp
   |cons n ns ih=>
    rw [List.flatMap_cons,List.length_append,List.length_cons,Nat.add_mul,Nat.one_mul];have h1:=jmJ be ms (pre++[n]) (fun y hy=>h y (List.mem_cons_of_mem _ hy))
    have h2:(if okN be pre n then genL be ms (pre++[n]) else []).length≤3^ms.length:=by
     split
     ·exact h1
     ·simp
    omega
  have h1:=gen (spanL x)
  have h2:(spanL x).length*3^ms.length≤3*3^ms.length:=Nat.mul_le_mul_right _ hs
  have h3:3^(x::ms).length=3*3^ms.length:=by rw [List.length_cons,Nat.pow_succ,Nat.mul_comm]
  rw [h3];exact Nat.le_trans h1 h2
theorem hts_rep {n:Nat} (hn:n≤7):hts (List.replicate n 0)=[.int .i64 0,.int .i64 0,.int .i64 0,.int .i64 0,.int .i64 0,.int .i64 0,.int .i64 0]:=by
 rw [←hts_nil];simp only [hts,padL,List.replicate_append_replicate,List.take_replicate,List.nil_append]
 congr 2
theorem take_set {ln:List Int} {i:Nat} {n:Int} (h:i<ln.length):(ln.set i n).take (i+1)=ln.take i++[n]:=by
 rw [List.take_succ_eq_append_getElem (by simpa using h)];simp [List.take_set_of_le]
theorem jlt {ln l2:List Int} {i j:Nat} (e:ln.take i=l2.take i) (h:j<i):ln.getD j 0=l2.getD j 0:=by
 have:=congrArg (fun l:List Int=>l[j]?) e
 simp only [List.getElem?_take,if_pos h] at this
 rw [List.getD_eq_getElem?_getD,List.getD_eq_getElem?_getD,this]
theorem take_len {ln:List Int} {i n:Nat} (h:ln.length=n) (hi:i≤n):(ln.take i).length=i:=by rw [List.length_take];omega
theorem Small.set {m:Int} {ln:List Int} {i:Nat} {n:Int} (h:Small m ln) (hn: -m≤n∧n≤m):Small m (ln.set i n):=fun j=>by
 by_cases e:i=j
 ·subst e
  by_cases hl:i<ln.length
  ·rw [List.getD_eq_getElem?_getD,List.getElem?_set_self hl];exact hn
  ·rw [List.set_eq_of_length_le (by omega)];exact h i
 ·rw [List.getD_eq_getElem?_getD,List.getElem?_set_ne e,←List.getD_eq_getElem?_getD];exact h j
theorem hts_set {ln:List Int} {i:Nat} {n:Int} (hl:ln.length≤7) (hi:i<ln.length):hts (ln.set i n)=(hts ln).set i (.int .i64 n):=by
 simp only [hts,ints,padL]
 rw [←List.map_set];congr 1
 rw [←List.take_set,List.set_append_left _ _ hi]
theorem jkv {ln:List Int} {i:Nat} {n:Int} (hl:ln.length≤7) (hi:i<ln.length):SetSeg (hts ln) (0+(i:Int).toNat*1) [.int .i64 n] (hts (ln.set i n)):=⟨by
 rw [hts_set hl hi,Int.toNat_natCast,Nat.mul_one,Nat.zero_add];have:i<(hts ln).length:=by rw [jbc];omega
 rw [List.set_eq_take_append_cons_drop,if_pos this];simp,by rw [jbc];simp;omega⟩
def walkH (h0:Hp) (bl:List Value) (yv:Value) (ln:List Int) (qb qy qa qn:Nat):Hp:=
 h0++[⟨true,qb,.cells bl.toArray 104 (0,0)⟩,⟨true,qy,.cells [yv].toArray 110 (0,0)⟩,⟨true,qa,.cells (hts ln).toArray 106 (0,0)⟩,⟨true,qn,.cells [.func (.func 157) #[] [.pointer (some ⟨qb,0,none⟩),.pointer (some ⟨qy,0,none⟩),.pointer (some ⟨qa,0,none⟩),.pointer (some ⟨qn,0,none⟩)].toArray].toArray 101 (0,0)⟩]
def EachL {P:Program} {B:Array Obj} (m:Md P B) (h0:Hp) (nm:Nat) (yv:Value) (YI:List (List Int)→Hp→Prop):Prop:=
 ∀(F R:Hp) (dn:List (List Int)) (ln:List Int),h0.Sublist F→ln.length=nm→Small 959 ln→dn.length<2187→YI dn R→CallV m yv [htV ln] (F++R) fun v h'=>v= .bool true∧ ∃R',h'=F++R'∧YI (dn++[ln]) R'
theorem jgy {ln l2:List Int} {i j:Nat} (e:l2.take i=ln.take i) (h:j<i):l2.getD j 0=(ln.take i).getD j 0:=by
 rw [jlt e h,List.getD_eq_getElem?_getD,List.getD_eq_getElem?_getD,List.getElem?_take,if_pos h]
theorem CallV.fn' {P:Program} {B:Array Obj} {m:Md P B} {f:FuncId} {first cap vs:Array Value} {args:List Value} {h:Hp} {Post:Value→Hp→Prop} (hf:ja4 P f=true) (e:first++args.toArray++cap=vs) (c:FnC m f vs h Post):CallV m (.func (.func f) first cap) args h Post:=CallV.fn hf (e▸c)
theorem jhD:ja4 Tryz.prog 157=true:=by kernel_rfl
theorem f157_c (m:Md Tryz.prog B) {h0:Hp} {b:Bk} {pm:Option Addr} {nm cm:Nat} {pr:Option Addr} {nr cr:Nat} (rdm:RdS B h0 2 (.slice pm nm cm) nm (encs b.marks)) (hv:Valid b) {yv:Value} [CellsV yv [yv]] {YI:List (List Int)→Hp→Prop} (hY:EachL m h0 nm yv YI) (qb qy qa qn:Nat):
  ∀(d i:Nat) (ln:List Int) (dn:List (List Int)) (R:Hp),i+d=nm→ln.length=nm→Small 959 ln→dn.length+(genL b.bend (b.marks.drop i) (ln.take i)).length≤2187→YI dn R→
   FnC m 157 #[.int .i64 (i:Int),.pointer (some ⟨qb,0,none⟩),.pointer (some ⟨qy,0,none⟩),.pointer (some ⟨qa,0,none⟩),.pointer (some ⟨qn,0,none⟩)] (walkH h0 (bkL b pm nm cm pr nr cr) yv ln qb qy qa qn++R) fun v h'=>v= .bool true∧ ∃ln' R',h'=walkH h0 (bkL b pm nm cm pr nr cr) yv ln' qb qy qa qn++R'∧ln'.length=nm∧Small 959 ln'∧ln'.take i=ln.take i∧YI (dn++genL b.bend (b.marks.drop i) (ln.take i)) R':=by
 intro d
 induction d using Nat.strongRecOn
 rename_i d ih
 intro i ln dn R hid hln hsm hdn hR
 have hml:=rdm.elen (by decide)
 have hv1:=hv.many
 have hv2:=hv.bend
 unfold walkH at ih⊢
 refine jad Tryz.func157 rfl rfl (l:=(.int .i64 (i:Int))::(.pointer (some ⟨qb,0,none⟩))::(.pointer (some ⟨qy,0,none⟩))::(.pointer (some ⟨qa,0,none⟩))::(.pointer (some ⟨qn,0,none⟩))::uu63) rfl ?_
 intro cf cs K hK
 refine d67 ?_;refine d115 ?_;refine jaT rfl zq ?_
 refine jae (Post:=fun v=>v=_) rfl zq (by kernel_rfl) (fun H' hH=>f107_c m H' _ _ _ _ _ _ _ _ _) ?_;rintro v rfl;refine jac ?_;refine jcd rfl zq (fun hc=>?_) (fun hc=>?_)
 ·refine d7 ?_;refine rs4 ?_;refine jbb rfl zq ?_;refine jaT rfl zq ?_
  refine jdy rfl zq (hY _ R dn ln (List.sublist_append_left _ _) hln hsm (by
   rw [List.drop_eq_nil_of_le (by omega)] at hdn
   simp [genL] at hdn
   omega) hR) ?_
  rintro v h' ⟨rfl,R',rfl,hR'⟩;refine d87 ?_
  refine jab ((h0++[⟨true,qb,.cells (bkL b pm nm cm pr nr cr).toArray 104 (0,0)⟩,⟨true,qy,.cells [yv].toArray 110 (0,0)⟩,⟨true,qa,.cells (hts ln).toArray 106 (0,0)⟩,⟨true,qn,.cells [.func (.func 157) #[] [.pointer (some ⟨qb,0,none⟩),.pointer (some ⟨qy,0,none⟩),.pointer (some ⟨qa,0,none⟩),.pointer (some ⟨qn,0,none⟩)].toArray].toArray 101 (0,0)⟩])++R') rfl Tryz.func157 rfl jaa ?_;refine hK _ _ ?_;refine ⟨rfl,ln,R',rfl,hln,hsm,rfl,?_⟩
  rw [List.drop_eq_nil_of_le (by omega),List.take_of_length_le (by omega)];exact hR'
 ·refine d36 ?_;refine rs8 ?_
  have hok:=hv.marks _ (jai.2 ⟨i,by omega,rfl⟩)
  unfold okM at hok
  have hdrop:=jao b.marks i (by omega)
  refine d23 ?_;refine mq rfl ?_
  obtain ⟨rdm_b,rdm_o,rfl⟩:=rdm.ptr (by omega)
  refine d15 ?_
  refine k_ld rfl zq (rdm.fat (v:= .int .i64 (b.marks.getD i default).lo) i 0 (by omega) (by omega) rfl) ?_;refine d39 ?_
  refine jag (fun nn l h'=> ∃(j:Nat) (n7:Int) (l1:List Int) (R1:Hp),nn=((b.marks.getD i default).hi-(b.marks.getD i default).lo+1).toNat-j∧(n7=(b.marks.getD i default).lo+(j:Int))∧(j≤((b.marks.getD i default).hi-(b.marks.getD i default).lo+1).toNat)∧(l1.length=nm)∧(Small 959 l1)∧(l1.take i=ln.take i)∧(YI (dn++genJ b.bend (b.marks.getD i default) (b.marks.drop (i+1)) (ln.take i) j) R1)∧(∃U:Nat→Value,l=((.int .i64 (i:Int))::(.pointer (some ⟨qb,0,none⟩))::(.pointer (some ⟨qy,0,none⟩))::(.pointer (some ⟨qa,0,none⟩))::(.pointer (some ⟨qn,0,none⟩))::(U 5)::(U 6)::(.int .i64 n7)::vw60 U 8 []))∧(h0++[⟨true,qb,.cells (bkL b (some ⟨rdm_b,rdm_o,none⟩) nm cm pr nr cr).toArray 104 (0,0)⟩,⟨true,qy,.cells [yv].toArray 110 (0,0)⟩,⟨true,qa,.cells (hts l1).toArray 106 (0,0)⟩,⟨true,qn,.cells [.func (.func 157) #[] [.pointer (some ⟨qb,0,none⟩),.pointer (some ⟨qy,0,none⟩),.pointer (some ⟨qa,0,none⟩),.pointer (some ⟨qn,0,none⟩)].toArray].toArray 101 (0,0)⟩])++R1=h') _ ⟨0,_,ln,R,rfl,by exact (Int.add_zero _).symm,by omega,hln,hsm,rfl,by rw [jmK,List.append_nil];exact hR,exU rfl,rfl⟩ ?_;rintro nn l h' ⟨j,n7,l1,R1,rfl,rfl,hj,hl1,hs1,ht1,hR1,⟨U,rfl⟩,rfl⟩ hnext1;refine jak ?_;refine rs9 ?_;refine mq rfl ?_;refine d23 ?_;refine mq rfl ?_;refine d15 ?_;refine k_ld rfl zq (rdm.fat (v:= .int .i64 (b.marks.getD i default).hi) i 1 (by omega) (by omega) rfl) ?_;refine ja1 rfl zq (fun hc=>?_) (fun hc=>?_)
  ·refine d75 ?_;refine rs4 ?_
   have hgs:=jmL b.bend (b.marks.getD i default) (b.marks.drop (i+1)) (ln.take i) j (by omega)
   have hss:=jkv (n:=((b.marks.getD i default).lo+(j:Int))) (show l1.length≤7 by omega) (show i<l1.length by omega)
   have htk:(l1.set i ((b.marks.getD i default).lo+(j:Int))).take i=ln.take i:=by rw [List.take_set_of_le (Nat.le_refl _),ht1]
   have hsS:Small 959 (l1.set i ((b.marks.getD i default).lo+(j:Int))):=hs1.set (by omega)
   have hA:=hsS i
   have hB:=hsS (i-1)
   have hC:=hsS (i-2)
   have hpl:(ln.take i).length=i:=take_len hln (by omega)
   have e0:(l1.set i ((b.marks.getD i default).lo+(j:Int))).getD i 0=((b.marks.getD i default).lo+(j:Int)):=by rw [List.getD_eq_getElem?_getD,List.getElem?_set_self (by omega)];rfl
   have e1:1≤i→(l1.set i ((b.marks.getD i default).lo+(j:Int))).getD (i-1) 0=(ln.take i).getD (i-1) 0:=fun h=>jgy htk (by omega)
   have e2:2≤i→(l1.set i ((b.marks.getD i default).lo+(j:Int))).getD (i-2) 0=(ln.take i).getD (i-2) 0:=fun h=>jgy htk (by omega)
   refine d139 ?_;refine jcg rfl zq ?_;refine d25 ?_;refine jak ?_
   refine jah [(0,.pure),(1,.pure),(2,.pure),(3,.pure),(4,.pure),(6,.pure),(7,.pure),(8,.pure),(12,.pure),(13,.pure),(14,.pure),(17,.pure),(18,.pure),(21,.pure),(22,.pure),(5,.read),(9,.read),(10,.pure),(11,.pure),(15,.read),(16,.pure),(19,.read),(20,.pure),(23,.read),(24,.keep),(25,.pure),(26,.pure)] (by kernel_rfl) (by kernel_rfl) (List.Sublist.refl _) ?_;refine mq rfl ?_
   refine jaY rfl zq (fun hc=>?_) (fun hc=>?_)
   ·refine d22 ?_;refine jdZ rfl rfl (by omega) (by omega) ?_;refine d100 ?_;refine jdZ rfl rfl (by omega) (by omega) ?_;refine d100 ?_;refine jdZ rfl rfl (by omega) (by omega) ?_;refine d90 ?_;refine d90 ?_
    refine k_ld rfl rfl (jjG (q:=qa) i rfl (by omega)) ?_;refine k_ld rfl rfl (jjG (q:=qa) (i-1) (by omega) (by omega)) ?_;refine jhp rfl rfl (by unfold In64;omega) ?_;refine jcj rfl rfl (by unfold In64;omega) ?_;refine k_ld rfl rfl (jjG (q:=qa) (i-2) (by omega) (by omega)) ?_;refine jdz rfl rfl (by unfold In64;omega) ?_;refine jbb rfl rfl ?_;refine k_neg rfl rfl (by unfold In64;omega) ?_;refine jbb rfl rfl ?_;refine jae (Post:=fun v=>IsB _ v) rfl rfl (by kernel_rfl) (fun H' hH=>f110_c m H' _ _ _) ?_;rintro v (⟨hc,rfl⟩|⟨hc,rfl⟩)
    ·refine jac ?_;have hyes:okN b.bend (ln.take i) ((b.marks.getD i default).lo+(j:Int)):=fun _=>by
      rw [hpl,←e1 (by omega),←e2 (by omega)];rw [e0] at hc
      omega
     refine d143 ?_;refine d9 ?_;refine rs5 ?_;refine jbb rfl zq ?_;refine d4 ?_
     have hrec:=ih (d-1) (by omega) (i+1) (l1.set i ((b.marks.getD i default).lo+(j:Int))) (dn++genJ b.bend (b.marks.getD i default) (b.marks.drop (i+1)) (ln.take i) j) R1 (by omega) (by simp [hl1]) hsS (by
      rw [take_set (by omega),ht1,List.length_append];have h1:=jmM b.bend (b.marks.getD i default) (b.marks.drop (i+1)) (ln.take i) (j+1)
      rw [hgs,if_pos hyes,List.length_append] at h1
      rw [hdrop] at hdn
      omega) hR1
     rw [show ((i+1:Nat):Int)=(i:Int)+1 by omega] at hrec
     have hcv:=CallV.fn' (first:= #[]) (args:=[.int .i64 ((i:Int)+1)]) (cap:=[Value.pointer (some ⟨qb,0,none⟩),Value.pointer (some ⟨qy,0,none⟩),Value.pointer (some ⟨qa,0,none⟩),Value.pointer (some ⟨qn,0,none⟩)].toArray) jhD (by simp) hrec
     refine jdy rfl zq hcv ?_;clear hcv hrec
     rintro v h' ⟨rfl,ln2,R2,rfl,hl2,hs2,ht2',hR2⟩;have ht2:ln2.take i=ln.take i:=by
      have:=congrArg (List.take i) ht2'
      rw [List.take_take,List.take_take,Nat.min_eq_left (by omega)] at this
      rw [this,htk]
     rw [take_set (by omega),ht1] at hR2
     refine d31 ?_;refine d105 ?_
     exact m.weak jaa (hnext1 _ _ _ (by omega) ⟨j+1,_,ln2,R2,rfl,by omega,by omega,hl2,hs2,ht2,by rw [hgs,if_pos hyes,←List.append_assoc];exact hR2,exU rfl,rfl⟩)
    ·refine jac ?_;have hno: ¬okN b.bend (ln.take i) ((b.marks.getD i default).lo+(j:Int)):=fun e=>hc (by
      have:=e (by omega)
      rw [hpl,←e1 (by omega),←e2 (by omega)] at this
      rw [e0];omega)
     refine jii rfl rfl ?_;refine jaz rfl zq ?_;refine d7 ?_;refine jbU rfl ?_;refine d55 ?_;rw [if_neg hno,List.append_nil] at hgs
     rw [←hgs] at hR1
     exact m.weak jaa (hnext1 _ _ _ (by omega) ⟨j+1,_,l1.set i ((b.marks.getD i default).lo+(j:Int)),R1,rfl,by omega,by omega,by simp [hl1],hsS,htk,hR1,exU rfl,rfl⟩)
   ·have hyes:okN b.bend (ln.take i) ((b.marks.getD i default).lo+(j:Int)):=fun h2=>by exfalso;omega
    refine d168 ?_;refine d2 ?_;refine d2 ?_;refine d2 ?_;refine d2 ?_;refine d2 ?_;refine d2 ?_;refine d52 ?_;refine d9 ?_;refine rs5 ?_;refine jbb rfl zq ?_;refine d4 ?_
    have hrec:=ih (d-1) (by omega) (i+1) (l1.set i ((b.marks.getD i default).lo+(j:Int))) (dn++genJ b.bend (b.marks.getD i default) (b.marks.drop (i+1)) (ln.take i) j) R1 (by omega) (by simp [hl1]) hsS (by
     rw [take_set (by omega),ht1,List.length_append];have h1:=jmM b.bend (b.marks.getD i default) (b.marks.drop (i+1)) (ln.take i) (j+1)
     rw [hgs,if_pos hyes,List.length_append] at h1
     rw [hdrop] at hdn
     omega) hR1
    rw [show ((i+1:Nat):Int)=(i:Int)+1 by omega] at hrec
    have hcv:=CallV.fn' (first:= #[]) (args:=[.int .i64 ((i:Int)+1)]) (cap:=[Value.pointer (some ⟨qb,0,none⟩),Value.pointer (some ⟨qy,0,none⟩),Value.pointer (some ⟨qa,0,none⟩),Value.pointer (some ⟨qn,0,none⟩)].toArray) jhD (by simp) hrec
    refine jdy rfl zq hcv ?_;clear hcv hrec
    rintro v h' ⟨rfl,ln2,R2,rfl,hl2,hs2,ht2',hR2⟩;have ht2:ln2.take i=ln.take i:=by
     have:=congrArg (List.take i) ht2'
     rw [List.take_take,List.take_take,Nat.min_eq_left (by omega)] at this
     rw [this,htk]
    rw [take_set (by omega),ht1] at hR2
    refine d31 ?_;refine d105 ?_
    exact m.weak jaa (hnext1 _ _ _ (by omega) ⟨j+1,_,ln2,R2,rfl,by omega,by omega,hl2,hs2,ht2,by rw [hgs,if_pos hyes,←List.append_assoc];exact hR2,exU rfl,rfl⟩)
  ·refine d160 ?_
   refine jab ((h0++[⟨true,qb,.cells (bkL b (some ⟨rdm_b,rdm_o,none⟩) nm cm pr nr cr).toArray 104 (0,0)⟩,⟨true,qy,.cells [yv].toArray 110 (0,0)⟩,⟨true,qa,.cells (hts l1).toArray 106 (0,0)⟩,⟨true,qn,.cells [.func (.func 157) #[] [.pointer (some ⟨qb,0,none⟩),.pointer (some ⟨qy,0,none⟩),.pointer (some ⟨qa,0,none⟩),.pointer (some ⟨qn,0,none⟩)].toArray].toArray 101 (0,0)⟩])++R1) rfl Tryz.func157 rfl jaa ?_;refine hK _ _ ?_;refine ⟨rfl,l1,R1,rfl,hl1,hs1,ht1,?_⟩
   rw [hdrop,←jmN _ _ _ _ j (by omega)];exact hR1
theorem f121_c (m:Md Tryz.prog B) {h0:Hp} {b:Bk} {pm:Option Addr} {nm cm:Nat} {pr:Option Addr} {nr cr:Nat} (rdm:RdS B h0 2 (.slice pm nm cm) nm (encs b.marks)) (hv:Valid b) {yv:Value} [CellsV yv [yv]] {YI:List (List Int)→Hp→Prop} (hY:EachL m h0 nm yv YI) {R:Hp} (hR:YI [] R):
  FnC m 121 #[bkV b pm nm cm pr nr cr,yv] (h0++R) fun v h'=>v= .tuple [].toArray∧ ∃R',h'=h0++R'∧YI (genL b.bend b.marks []) R':=by
 have hml:=rdm.elen (by decide)
 have hv1:=hv.many
 refine jad Tryz.func121 rfl rfl (l:=(bkV b pm nm cm pr nr cr)::yv::uu7) rfl ?_
 intro cf cs K hK
 refine rs2 ?_;refine jaq rfl zq (fun q2=>k_hp (jac ?_));refine jaq rfl zq (fun q3=>k_hp (jac ?_));refine jaB ?_;refine rs1 ?_;refine jaw rfl zq (fun q4=>k_hp (jac ?_));refine jaB ?_;refine rs1 ?_;refine jaw rfl zq (fun q5=>k_hp (jac ?_));refine jaB ?_;refine rs2 ?_;refine jeG rfl zq ?_;refine d59 ?_;refine rr2 ?_;refine jbb rfl zq ?_;refine jih (Weak.mid h0 R _) ?_;have hw:=f157_c m (pr:=pr) (nr:=nr) (cr:=cr) rdm hv hY q2 q3 q4 q5 nm 0 (List.replicate nm 0) [] R (by omega) (by simp) (fun j=>by rw [List.getD_eq_getElem?_getD,List.getElem?_replicate];split<;>simp) (by
  have h1:=jmJ b.bend b.marks [] hv.marks
  have h2:3^b.marks.length≤3^7:=Nat.pow_le_pow_right (by omega) (by omega)
  simp only [List.drop_zero,List.take_zero,List.length_nil]
  omega) hR
 unfold walkH at hw
 rw [hts_rep (by omega)] at hw
 simp only [List.drop_zero,List.take_zero,List.nil_append] at hw
 have hcv:=CallV.fn' (first:= #[]) (args:=[.int .i64 0]) (cap:=[Value.pointer (some ⟨q2,0,none⟩),Value.pointer (some ⟨q3,0,none⟩),Value.pointer (some ⟨q4,0,none⟩),Value.pointer (some ⟨q5,0,none⟩)].toArray) jhD (by simp) hw
 refine jdy rfl zq hcv ?_;clear hcv hw
 rintro v h' ⟨rfl,ln2,R2,rfl,hl2,hs2,ht2,hR2⟩;refine d144 ?_;refine jdh rfl ?_
 refine jab (h0++R2) rfl Tryz.func121 rfl jaa ?_;refine hK _ _ ?_;exact ⟨rfl,R2,rfl,hR2⟩
end Go.Proofs.Bt
namespace Go.Proofs.Bt
open Go.Proofs
open Go.Lo
open Go.Conc (G)
set_option maxRecDepth 100000
set_option synthInstance.maxSize 100000
set_option synthInstance.maxHeartbeats 1000000
set_option maxHeartbeats 4000000
variable {B:Array Obj}
variable [Laid B]
def genA:List Sp→List Int→List (List Int)
 |[],pre=>[pre]
 |x::ms,pre=>(spanL x).flatMap fun n=>genA ms (pre++[n])
theorem foldl_genA: ∀(ms:List Sp) (all:List (List Int)),ms.foldl extL all=all.flatMap (genA ms)
 |[],all=>by
  simp only [List.foldl_nil]
  induction all with
  |nil=>rfl
  |cons a r ih=>rw [List.flatMap_cons,←ih];rfl
 |x::ms,all=>by
  rw [List.foldl_cons,foldl_genA ms (extL all x),extL,List.flatMap_assoc];congr 1
  funext l
  rw [ext1,List.flatMap_map];rfl
theorem linesOf_genA (ms:List Sp):linesOf ms=genA ms []:=by rw [linesOf,foldl_genA];simp
theorem jj8: ∀(ms:List Sp) (pre l:List Int),l∈genA ms pre→ ∃t,l=pre++t
 |[],pre,l,h=>⟨[],by simpa [genA] using h⟩
 |x::ms,pre,l,h=>by
  simp only [genA,List.mem_flatMap] at h
  obtain ⟨n,_,h⟩:=h
  obtain ⟨t,rfl⟩:=jj8 ms _ l h
  exact ⟨n::t,by simp⟩
theorem okN_fair {be tw tu:Int} {pre t:List Int} {n:Int} (h:fair be tw tu (pre++[n]++t)):okN be pre n:=fun hp=>by
 have hg: ∀k,k≤pre.length→(pre++[n]++t).getD k 0=if k=pre.length then n else pre.getD k 0:=fun k hk=>by
  rw [List.append_assoc,List.getD_eq_getElem?_getD];split
  ·rename_i e
   subst e
   simp
  ·rw [List.getElem?_append_left (by omega),List.getD_eq_getElem?_getD]
 have hb:=jlk (pre++[n]++t) (pre.length-2) (by simp;omega)
 have hm:=h.1 _ (mem_getD.2 ⟨pre.length-2,by rw [jcV];simp;omega,rfl⟩)
 rw [hb,hg _ (by omega),hg _ (by omega),hg _ (by omega),if_neg (by omega),if_pos (by omega),if_neg (by omega)] at hm
 rw [show pre.length-2+1=pre.length-1 by omega] at hm
 omega
def jmI (b:Bk) (l:List Int):Bool:=decide (fair b.bend b.twist b.turns l)&&decide (∀r∈b.rules,r.lo≤l.getD r.b.toNat 0-l.getD r.a.toNat 0∧l.getD r.b.toNat 0-l.getD r.a.toNat 0≤r.hi)
theorem jeH {b:Bk} {l:List Int}:jmI b l=true↔fair b.bend b.twist b.turns l∧right b l:=by
 simp only [jmI,Bool.and_eq_true,decide_eq_true_eq]
 rfl
theorem jin (b:Bk): ∀(ms:List Sp) (pre:List Int),(genL b.bend ms pre).filter (jmI b)=(genA ms pre).filter (jmI b)
 |[],pre=>rfl
 |x::ms,pre=>by
  simp only [genL,genA,List.filter_flatMap]
  congr 1
  funext n
  split
  ·exact jin b ms _
  ·rename_i hno
   symm
   rw [List.filter_nil,List.filter_eq_nil_iff];intro l hl hg
   obtain ⟨t,rfl⟩:=jj8 ms _ l hl
   exact hno (okN_fair (jeH.1 hg).1)
def jck (b:Bk) (dn:List (List Int)):List (List Int):=dn.filter (jmI b)
theorem jk6 {b:Bk}:jck b (genL b.bend b.marks [])=boatsOf b:=by
 rw [jck,jin,←linesOf_genA,boatsOf];refine List.filter_congr fun l hl=>?_
 rw [Bool.eq_iff_iff,jeH,decide_eq_true_iff];obtain ⟨h1,h2⟩:=ji8 hl
 exact ⟨fun ⟨x,y⟩=>⟨fun i hi=>h2 i (by omega),y,x⟩,fun ⟨_,y,x⟩=>⟨x,y⟩⟩
theorem jmH {b:Bk} {dn:List (List Int)} {l:List Int} (h:fair b.bend b.twist b.turns l∧right b l):jck b (dn++[l])=jck b dn++[l]:=by
 rw [jck,List.filter_append,List.filter_cons,if_pos (jeH.2 h)];rfl
theorem jj4 {b:Bk} {dn:List (List Int)} {l:List Int} (h: ¬(fair b.bend b.twist b.turns l∧right b l)):jck b (dn++[l])=jck b dn:=by
 rw [jck,List.filter_append,List.filter_cons,if_neg (fun e=>h (jeH.1 e))];simp [jck]
theorem goodL_le (b:Bk) (dn:List (List Int)):(jck b dn).length≤dn.length:=List.length_filter_le _ _
instance {a:List Value}:AppL a [] a:=⟨List.append_nil a⟩
theorem weak_pre {B:Array Obj} {h A X:Hp} (e:h=A++X):Weak B h A:=e▸Weak.sub (List.sublist_append_left _ _)
theorem encs_one1 {l:List Int}:encs [l]=hts l:=by simp [encs,Enc.enc]
theorem f61_c (m:Md Tryz.prog B) (h:Hp) {b:Bk} {pm:Option Addr} {nm cm:Nat} {pr:Option Addr} {nr cr:Nat} (rdm:RdS B h 2 (.slice pm nm cm) nm (encs b.marks)) (hm:nm≤1000) (rdr:RdS B h 4 (.slice pr nr cr) nr (encs b.rules)) (hr:nr≤1000) (hv:Valid b):FnC m 61 #[bkV b pm nm cm pr nr cr] h fun v h'=> ∃nw,h'=h++nw∧OwnS 106 7 v (boatsOf b).length (encs (boatsOf b)) nw:=by
 have hml:=rdm.elen (by decide)
 have hv1:=hv.many
 refine jad Tryz.func61 rfl rfl (l:=(bkV b pm nm cm pr nr cr)::uu20) rfl ?_
 intro cf cs K hK
 refine rs2 ?_;refine jaq rfl zq (fun q1=>k_hp (jac ?_));refine aq rfl ?_;refine rs1 ?_
 refine jaw rfl zq (fun q3=>k_hp (jac ?_));refine d25 ?_;refine d132 ?_;refine jeG rfl zq ?_;refine d57 ?_
 refine jeX rfl rfl (by kernel_rfl) (fun q11 q12=>?_);generalize hrec:lrec _ _ _ _ _ _ LoopState.ready=rec0
 have hY:EachL m h nm (.func (.yield q12) #[] #[]) (fun dn R=> ∃bp bc nw,R=[⟨true,q1,.cells (bkL b pm nm cm pr nr cr).toArray 104 (0,0)⟩,⟨true,q3,.cells [.slice bp (jck b dn).length bc].toArray 117 (0,0)⟩,⟨true,q11,.deferred (some [])⟩,⟨true,q12,rec0⟩]++nw∧OwnS 106 7 (.slice bp (jck b dn).length bc) (jck b dn).length (encs (jck b dn)) nw):=?hY
 rotate_left
 intro F R dn ln hF hln hsm hdn hR
 obtain ⟨bp,bc,nw,rfl,ho⟩:=hR
 subst hrec
 haveI hsF:SubH h F:=⟨hF⟩
 have hgl:=goodL_le b dn
 refine CallV.yield (rw:=true) (q1:=q11) (st:= .ready) (List.mem_append_right _ (List.mem_append_left _ (List.mem_cons_of_mem _ (List.mem_cons_of_mem _ (List.mem_cons_of_mem _ List.mem_cons_self))))) rfl (by simp;rfl) ?_
 intro cf2 cs2 K2 hK2
 ·refine rr2 ?_;refine jaw rfl zq (fun q4=>k_hp (jac ?_));refine jaO rfl zq (by first|rfl|exact jbc _) ?_;refine jaB ?_;apply jcY (F:=F++[⟨true,q1,.cells (bkL b pm nm cm pr nr cr).toArray 104 (0,0)⟩,⟨true,q3,.cells [.slice bp (jck b dn).length bc].toArray 117 (0,0)⟩,⟨true,q11,.deferred (some [])⟩]) (E:=nw++[⟨true,q4,.cells (hts ln).toArray 106 (0,0)⟩])
  case hh=>
   simp only [List.append_assoc,List.cons_append,List.nil_append]
   rfl
  generalize hbz:lrec _ _ _ _ _ _ LoopState.busy=rec1
  refine jaS ?_;refine rs8 ?_;refine d137 ?_;refine jae (Post:=fun v=>IsB _ v) rfl zq (by kernel_rfl) (fun H' hH=>f49_c m H' (nm:=nm) hln (by omega) hsm hv) ?_;rintro v (⟨hc,rfl⟩|⟨hc,rfl⟩)
  ·refine jac ?_;have hA:=hc
   refine d104 ?_;refine jaT rfl rfl ?_
   refine jae (Post:=fun v=>IsB _ v) rfl rfl (by kernel_rfl) (fun H' hH=>f122_c m H' (nm:=nm) hln (by omega) hsm hml (rdr.keeps (hF.trans (sq hH))) hr hv) ?_;rintro v (⟨hc,rfl⟩|⟨hc,rfl⟩)
   ·refine d94 ?_;refine d7 ?_;refine rr5 ?_;refine jbb rfl zq ?_;refine jaT rfl zq ?_
    refine k_bs kdq rfl zq (by decide) (by decide) rfl (fun q18=>k_hp (jac ?_));refine jmB (F:=F++[⟨true,q1,.cells (bkL b pm nm cm pr nr cr).toArray 104 (0,0)⟩,⟨true,q3,.cells [.slice bp (jck b dn).length bc].toArray 117 (0,0)⟩,⟨true,q11,.deferred (some [])⟩,⟨true,q12,rec1⟩]) rfl zq (by simp [jbc]) ho (weak_pre (X:=[⟨true,q4,.cells (hts ln).toArray 106 (0,0)⟩,⟨true,q18,.cells (hts ln).toArray 106 (0,0)⟩]) (by simp)) (.inl rfl) (by omega) (by omega) (fun w19 nw2 ho2=>jac ?_);obtain ⟨bp2,bc2,rfl,_⟩:=ho2.len
    have hyes:=jmH (b:=b) (dn:=dn) (l:=ln) ⟨hA,hc⟩
    have e1:(jck b dn).length+1=(jck b (dn++[ln])).length:=by rw [hyes];simp
    have e2:encs (jck b dn)++hts ln=encs (jck b (dn++[ln])):=by rw [hyes,jaV,encs_one1]
    rw [e2,e1] at ho2
    rw [e1];refine d59 ?_;refine jay ?_
    subst hbz
    apply jcR (F:=F++[⟨true,q1,.cells (bkL b pm nm cm pr nr cr).toArray 104 (0,0)⟩,⟨true,q3,.cells [.slice bp2 (jck b (dn++[ln])).length bc2].toArray 117 (0,0)⟩,⟨true,q11,.deferred (some [])⟩]) (E:=nw2)
    case hh=>
     simp only [List.append_assoc,List.cons_append,List.nil_append]
     rfl
    rw [show F++[⟨true,q1,.cells (bkL b pm nm cm pr nr cr).toArray 104 (0,0)⟩,⟨true,q3,.cells [.slice bp2 (jck b (dn++[ln])).length bc2].toArray 117 (0,0)⟩,⟨true,q11,.deferred (some [])⟩]++(_::nw2)=F++([⟨true,q1,.cells (bkL b pm nm cm pr nr cr).toArray 104 (0,0)⟩,⟨true,q3,.cells [.slice bp2 (jck b (dn++[ln])).length bc2].toArray 117 (0,0)⟩,⟨true,q11,.deferred (some [])⟩,_]++nw2) by simp;rfl];exact hK2 _ _ ⟨rfl,_,rfl,_,_,nw2,rfl,ho2⟩
   ·refine d94 ?_;refine d51 ?_
    subst hbz
    have hno:=jj4 (b:=b) (dn:=dn) (l:=ln) (by intro e;first|exact hc e.1|exact hc e.2)
    apply jcR (F:=F++[⟨true,q1,.cells (bkL b pm nm cm pr nr cr).toArray 104 (0,0)⟩,⟨true,q3,.cells [.slice bp (jck b dn).length bc].toArray 117 (0,0)⟩,⟨true,q11,.deferred (some [])⟩]) (E:=nw++[⟨true,q4,.cells (hts ln).toArray 106 (0,0)⟩])
    case hh=>
     simp only [List.append_assoc,List.cons_append,List.nil_append]
     rfl
    refine m.weak (h':=F++([⟨true,q1,.cells (bkL b pm nm cm pr nr cr).toArray 104 (0,0)⟩,⟨true,q3,.cells [.slice bp (jck b dn).length bc].toArray 117 (0,0)⟩,⟨true,q11,.deferred (some [])⟩,_]++nw)) (weak_pre (X:=[⟨true,q4,.cells (hts ln).toArray 106 (0,0)⟩]) (by simp;rfl)) ?_
    exact hK2 _ _ ⟨rfl,_,rfl,bp,bc,nw,by rw [hno],by rw [hno];exact ho⟩
  ·refine jac ?_;refine d30 ?_;refine d52 ?_;refine d51 ?_;subst hbz
   have hno:=jj4 (b:=b) (dn:=dn) (l:=ln) (by intro e;first|exact hc e.1|exact hc e.2)
   apply jcR (F:=F++[⟨true,q1,.cells (bkL b pm nm cm pr nr cr).toArray 104 (0,0)⟩,⟨true,q3,.cells [.slice bp (jck b dn).length bc].toArray 117 (0,0)⟩,⟨true,q11,.deferred (some [])⟩]) (E:=nw++[⟨true,q4,.cells (hts ln).toArray 106 (0,0)⟩])
   case hh=>
    simp only [List.append_assoc,List.cons_append,List.nil_append]
    rfl
   refine m.weak (h':=F++([⟨true,q1,.cells (bkL b pm nm cm pr nr cr).toArray 104 (0,0)⟩,⟨true,q3,.cells [.slice bp (jck b dn).length bc].toArray 117 (0,0)⟩,⟨true,q11,.deferred (some [])⟩,_]++nw)) (weak_pre (X:=[⟨true,q4,.cells (hts ln).toArray 106 (0,0)⟩]) (by simp;rfl)) ?_
   exact hK2 _ _ ⟨rfl,_,rfl,bp,bc,nw,by rw [hno],by rw [hno];exact ho⟩
 ·have hl:=f121_c m (pr:=pr) (nr:=nr) (cr:=cr) rdm hv hY (R:=[⟨true,q1,.cells (bkL b pm nm cm pr nr cr).toArray 104 (0,0)⟩,⟨true,q3,.cells [.slice none 0 0].toArray 117 (0,0)⟩,⟨true,q11,.deferred (some [])⟩,⟨true,q12,rec0⟩]) ⟨none,0,[],by simp;rfl,OwnS.nil⟩
  rw [show h++[⟨true,q1,.cells (bkL b pm nm cm pr nr cr).toArray 104 (0,0)⟩,⟨true,q3,.cells [.slice none 0 0].toArray 117 (0,0)⟩,⟨true,q11,.deferred (some [])⟩,⟨true,q12,rec0⟩]=h++[⟨true,q1,.cells (bkL b pm nm cm pr nr cr).toArray 104 (0,0)⟩,⟨true,q3,.cells [.slice none 0 0].toArray 117 (0,0)⟩]++[⟨true,q11,.deferred (some [])⟩,⟨true,q12,rec0⟩] by simp] at hl
  refine CallF.mono hl ?_
  rintro v h' ⟨rfl,R',rfl,bp,bc,nw,rfl,ho⟩;subst hrec
  rw [jk6] at ho⊢
  apply jdu (F:=h++[⟨true,q1,.cells (bkL b pm nm cm pr nr cr).toArray 104 (0,0)⟩,⟨true,q3,.cells [.slice bp (boatsOf b).length bc].toArray 117 (0,0)⟩,⟨true,q11,.deferred (some [])⟩]) (E:=nw)
  case hh=>
   simp only [List.append_assoc,List.cons_append,List.nil_append]
   rfl
  case hst=>exact .inl rfl
  refine jay ?_;refine rs2 ?_;refine jbb rfl zq ?_;refine d0 ?_;refine jcz (F:=h++[⟨true,q1,.cells (bkL b pm nm cm pr nr cr).toArray 104 (0,0)⟩,⟨true,q3,.cells [.slice bp (boatsOf b).length bc].toArray 117 (0,0)⟩]) (E:=nw) (by simp) ?_;refine jab (h++nw) rfl Tryz.func61 rfl jaa ?_;refine hK _ _ ?_;exact ⟨nw,rfl,ho⟩
end Go.Proofs.Bt
namespace Go.Proofs.Bt
open Go.Proofs
open Go.Lo
open Go.Conc (G)
set_option maxRecDepth 100000
set_option synthInstance.maxSize 100000
set_option synthInstance.maxHeartbeats 1000000
set_option maxHeartbeats 4000000
variable {B:Array Obj}
variable [Laid B]
section
variable {P:Program} {B:Array Obj} {m:Md P B} {ops:Array Oper} {l l':List Value} {S h h' H:Hp} {C:List Value→Hp→Prop} {i:Nat} {kd:Kd} {r:List (Nat×Kd)}
 {d:Option Tmp} {ty:TypeId} {pos:String} {af:Array Edge} {g:Option (Nat×Bool)}
end
theorem jm7 {b:Bk} {l:List Int} (h:l∈boatsOf b):l.length=b.marks.length:=(ji8 (jiC h)).1
theorem jjm {b:Bk} (hv:Valid b) {l:List Int} (h:l∈boatsOf b):Small 959 l:=jkT hv (jiC h)
theorem f21_c (m:Md Tryz.prog B) (h:Hp) {b:Bk} {pm:Option Addr} {nm cm:Nat} {pr:Option Addr} {nr cr:Nat} (rdm:RdS B h 2 (.slice pm nm cm) nm (encs b.marks)) (hm:nm≤1000) (rdr:RdS B h 4 (.slice pr nr cr) nr (encs b.rules)) (hr:nr≤1000):FnC m 21 #[bkV b pm nm cm pr nr cr] h fun v h'=>h'=h∧v= .tuple [.int .i64 (if bookS b≠0 then 0 else ((boatsOf b).length:Int)),.int .i64 (bookS b)].toArray:=by
 refine jad Tryz.func21 rfl rfl (l:=(bkV b pm nm cm pr nr cr)::uu13) rfl ?_
 intro cf cs K hK
 refine rs3 ?_;refine jaq rfl zq (fun q1=>k_hp (jac ?_));refine d99 ?_;refine d96 ?_
 refine jae (Post:=fun v=>v=_) rfl zq (by kernel_rfl) (fun H' hH=>f60_c m H' (rdm.keeps (sq hH)) hm (rdr.keeps (sq hH)) hr) ?_;rintro v rfl;refine d135 ?_
 refine jaF rfl zq (fun hc=>?_) (fun hc=>?_)
 ·refine d146 ?_
  refine jab (h) rfl Tryz.func21 rfl jaa ?_;refine hK _ _ ?_;exact ⟨rfl,by rw [if_pos (by assumption)]⟩
 ·refine d9 ?_;refine rs6 ?_
  have hz0:bookS b=0:=by omega
  have hv:=valid_of hz0
  have hbl:=boats_le hv
  refine d122 ?_
  refine jat rfl zq (by kernel_rfl) (Post:=fun v nw=>OwnS 106 7 v (boatsOf b).length (encs (boatsOf b)) nw) (fun H' hH=>f61_c m H' (rdm.keeps (sq hH)) hm (rdr.keeps (sq hH)) hr hv) ?_;rintro v nw o;obtain ⟨bp,bc,rfl,_⟩:=o.len
  refine jaL (jac ?_);refine jcO rfl zq ?_;refine d34 ?_;refine jab (h) rfl Tryz.func21 rfl jaa ?_;refine hK _ _ ?_;exact ⟨rfl,by rw [hz0,if_neg (fun e=>e rfl)]⟩
theorem f63_c (m:Md Tryz.prog B) (h:Hp) {b:Bk} {pm:Option Addr} {nm cm:Nat} {pr:Option Addr} {nr cr:Nat} (hm:nm≤1000) {q:Nat} {st:Int} (rd:Rd B h ⟨q,0,none⟩ (.int .i64 st)):FnC m 63 #[bkV b pm nm cm pr nr cr,.pointer (some ⟨q,0,none⟩)] h fun v h'=>h'=h∧v= .int .i64 (if 0≤st∧st≤nm-1 then 0 else 6):=by
 refine jad Tryz.func63 rfl rfl (l:=[bkV b pm nm cm pr nr cr,.pointer (some ⟨q,0,none⟩),undef,undef,undef,undef,undef]) rfl ?_
 intro cf cs K hK
 refine rs2 ?_;refine jaq rfl zq (fun q2=>k_hp (jac ?_));refine aq rfl ?_;refine rs4 ?_;refine jaT rfl zq ?_
 refine k_ld rfl zq (rd.keeps SubH.sub) ?_;refine jae (Post:=fun v=>v=_) rfl zq (by kernel_rfl) (fun H' hH=>f64_c m H' _ _ _ _ _ _ _ _ _ _ (by omega)) ?_;rintro v rfl;refine d87 ?_
 refine jab (h) rfl Tryz.func63 rfl jaa ?_;refine hK _ _ ?_;exact ⟨rfl,rfl⟩
def Opened (b:Bk) (bv:Value) (s:Int) (nw:Hp) (v:Value):Prop:= ∃x y z p1 n1 c1 p2 n2 c2 p3 n3 c3,v= .tuple [.agg [.int .i64 x,.int .i64 y,.int .i64 z,.slice p1 n1 c1,.slice p2 n2 c2,.slice p3 n3 c3].toArray,.int .i64 s].toArray∧
 (s=0→jiA x y z (.slice p1 n1 c1) (.slice p2 n2 c2)=bv∧n3=(boatsOf b).length∧n3≤c3∧ ∀{B:Array Obj},RdS B nw 7 (.slice p3 n3 c3) n3 (encs (boatsOf b)))
theorem opened_no {b:Bk} {bv:Value} {s:Int} (h:s≠0):Opened b bv s [] (.tuple [.agg [.int .i64 0,.int .i64 0,.int .i64 0,.slice none 0 0,.slice none 0 0,.slice none 0 0].toArray,.int .i64 s].toArray):=
 ⟨0,0,0,none,0,0,none,0,0,none,0,0,rfl,fun e=>absurd e h⟩
theorem f62_c (m:Md Tryz.prog B) (h:Hp) {b:Bk} {pm:Option Addr} {nm cm:Nat} {pr:Option Addr} {nr cr:Nat} (rdm:RdS B h 2 (.slice pm nm cm) nm (encs b.marks)) (hm:nm≤1000) (rdr:RdS B h 4 (.slice pr nr cr) nr (encs b.rules)) (hr:nr≤1000) {fid:Nat} {fc cp:Array Value} {own:Int} (hcall:ja4 Tryz.prog fid=true) (hown:bookS b=0→ ∀H':Hp,h.Sublist H'→FnC m fid (fc++[bkV b pm nm cm pr nr cr].toArray++cp) H' fun v h'=>h'=H'∧v= .int .i64 own):FnC m 62 #[bkV b pm nm cm pr nr cr,.func (.func fid) fc cp] h fun v h'=> ∃nw,h'=h++nw∧Opened b (bkV b pm nm cm pr nr cr) (openS b own) nw v:=by
 refine jad Tryz.func62 rfl rfl (l:=(bkV b pm nm cm pr nr cr)::(.func (.func fid) fc cp)::uu32) rfl ?_
 intro cf cs K hK
 refine rs3 ?_;refine jaq rfl zq (fun q2=>k_hp (jac ?_));refine jaw rfl zq (fun q4=>k_hp (jac ?_));refine d10 ?_;refine d96 ?_
 refine jae (Post:=fun v=>v=_) rfl zq (by kernel_rfl) (fun H' hH=>f60_c m H' (rdm.keeps (sq hH)) hm (rdr.keeps (sq hH)) hr) ?_;rintro v rfl;refine d135 ?_
 refine jaF rfl zq (fun hc=>?_) (fun hc=>?_)
 ·refine d178 ?_;refine d80 ?_
  refine jab (h) rfl Tryz.func62 rfl jaa ?_;refine hK _ _ ?_;have e:openS b own=bookS b:=by rw [openS,if_pos (by assumption)]
  exact ⟨[],by simp,by rw [e];exact opened_no (by assumption)⟩
 ·refine d9 ?_;refine rs4 ?_;refine d122 ?_
  refine jaw rfl zq (fun q7=>k_hp (jac ?_));refine d142 ?_;refine d115 ?_;refine jaT rfl zq ?_
  refine jea (Post:=fun v=>v=_) rfl zq hcall (fun H' hH=>hown (by omega) H' (sq hH)) ?_;rintro v rfl;refine d135 ?_
  refine jaF rfl zq (fun hc=>?_) (fun hc=>?_)
  ·refine d178 ?_;refine d80 ?_
   refine jab (h) rfl Tryz.func62 rfl jaa ?_;refine hK _ _ ?_;have e:openS b own=own:=by rw [openS,if_neg (by omega),if_pos (by assumption)]
   exact ⟨[],by simp,by rw [e];exact opened_no (by assumption)⟩
  ·refine d9 ?_;refine d96 ?_
   have hv:Valid b:=valid_of (by omega)
   have hbl:=boats_le hv
   refine jat rfl zq (by kernel_rfl) (Post:=fun v nw=>OwnS 106 7 v (boatsOf b).length (encs (boatsOf b)) nw) (fun H' hH=>f61_c m H' (rdm.keeps (sq hH)) hm (rdr.keeps (sq hH)) hr hv) ?_;rintro v nw o;obtain ⟨bp,bc,rfl,_⟩:=o.len
   refine jaL (jac ?_);refine d10 ?_;refine d151 ?_
   refine jcd rfl zq (fun hc=>?_) (fun hc=>?_)
   ·refine d7 ?_;refine rs3 ?_;refine jcP rfl zq ?_;refine d80 ?_
    refine jab (h) rfl Tryz.func62 rfl jaa ?_;refine hK _ _ ?_;have e:openS b own=9:=by rw [openS,if_neg (by omega),if_neg (by omega),if_pos (List.length_eq_zero_iff.1 (by omega))]
    exact ⟨[],by simp,by rw [e];exact opened_no (by decide)⟩
   ·refine d9 ?_;refine rs5 ?_;refine d77 ?_;refine jcP rfl zq ?_;refine d80 ?_
    refine jab (h++nw) rfl Tryz.func62 rfl jaa ?_;refine hK _ _ ?_;have e:openS b own=0:=by rw [openS,if_neg (by omega),if_neg (by omega),if_neg (fun e=>hc (by rw [e];rfl))]
    exact ⟨nw,rfl,_,_,_,_,_,_,_,_,_,_,_,_,by rw [e],fun _=>⟨rfl,rfl,o.cap,o.rd (List.Sublist.refl _)⟩⟩
theorem callB63:ja4 Tryz.prog 63=true:=by kernel_rfl
end Go.Proofs.Bt
namespace Go.Proofs.Bt
open Go.Proofs
open Go.Lo
open Go.Conc (G)
set_option maxRecDepth 100000
set_option synthInstance.maxSize 100000
set_option synthInstance.maxHeartbeats 1000000
set_option maxHeartbeats 4000000
variable {B:Array Obj}
variable [Laid B]
theorem f170_c (m:Md Tryz.prog B) (h:Hp) (x:Int) (hx:0≤x∧x<65536):FnC m 170 #[.int .u64 x] h fun v h'=>h'=h∧ ∃k:Int,v= .int .i64 k∧0≤k∧k≤1000:=by
 refine jad Tryz.func170 rfl rfl (l:=(.int .u64 x)::uu24) rfl ?_
 intro cf cs K hK
 refine d67 ?_;refine d16 ?_
 refine jaY rfl zq (fun hc=>?_) (fun hc=>?_)
 ·exfalso
  omega
 ·refine d36 ?_;refine d16 ?_
  refine jaY rfl zq (fun hc=>?_) (fun hc=>?_)
  ·exfalso
   omega
  ·refine d36 ?_;refine d16 ?_
   refine jaY rfl zq (fun hc=>?_) (fun hc=>?_)
   ·refine d7 ?_;refine d46 ?_
    have hq:x.fdiv (2^(min (8:Int).toNat IntKind.u64.bits))=x/256:=by
     rw [Int.fdiv_eq_ediv_of_nonneg _ (by decide)];rfl
    refine k_shr (x/256) rfl zq (by decide) hq ?_;refine aq rfl ?_;refine d55 ?_;refine rs7 ?_;refine d3 ?_
    first
     |refine jbk rfl zq (by kernel_rfl) (n':=x) (by unfold IntKind.wrap;simp [IntKind.bits,IntKind.signed];omega) ?_
     |refine jbk rfl zq (by kernel_rfl) (n':=x/256) (by unfold IntKind.wrap;simp [IntKind.bits,IntKind.signed];omega) ?_
    refine k_ixS (n:=256) rfl zq (by kernel_rfl) (by kernel_rfl) (by omega) (by omega) (fun b8=>jac ?_);have hb8:=b8.toNat_lt
    refine jbk rfl zq (by kernel_rfl) (n':=(b8.toNat:Int)) (by unfold IntKind.wrap;simp [IntKind.bits,IntKind.signed];omega) ?_;refine d109 ?_
    refine jab (h) rfl Tryz.func170 rfl jaa ?_;refine hK _ _ ?_;exact ⟨rfl,_,rfl,by omega,by omega⟩
   ·refine d9 ?_;refine rs7 ?_;refine d3 ?_
    first
     |refine jbk rfl zq (by kernel_rfl) (n':=x) (by unfold IntKind.wrap;simp [IntKind.bits,IntKind.signed];omega) ?_
     |refine jbk rfl zq (by kernel_rfl) (n':=x/256) (by unfold IntKind.wrap;simp [IntKind.bits,IntKind.signed];omega) ?_
    refine k_ixS (n:=256) rfl zq (by kernel_rfl) (by kernel_rfl) (by omega) (by omega) (fun b8=>jac ?_);have hb8:=b8.toNat_lt
    refine jbk rfl zq (by kernel_rfl) (n':=(b8.toNat:Int)) (by unfold IntKind.wrap;simp [IntKind.bits,IntKind.signed];omega) ?_;refine d109 ?_
    refine jab (h) rfl Tryz.func170 rfl jaa ?_;refine hK _ _ ?_;exact ⟨rfl,_,rfl,by omega,by omega⟩
theorem f124_c (m:Md Tryz.prog B) (h:Hp) (x:Int) (hx:0≤x∧x<65536):FnC m 124 #[.int .u64 x] h fun v h'=>h'=h∧ ∃k:Int,v= .int .i64 k∧0≤k∧k≤1000:=by
 refine jad Tryz.func124 rfl rfl (l:=(.int .u64 x)::uu7) rfl ?_
 intro cf cs K hK
 refine d67 ?_;refine jfc ?_;refine jby ?_;refine d46 ?_
 refine jae rfl zq (by kernel_rfl) (fun H' hH=>f170_c m H' _ hx) ?_;rintro v ⟨k,rfl,hk0,hk1⟩;refine d87 ?_
 refine jab (h) rfl Tryz.func124 rfl jaa ?_;refine hK _ _ ?_;exact ⟨rfl,_,rfl,hk0,hk1⟩
end Go.Proofs.Bt
namespace Go.Proofs.Bt
open Go.Proofs
open Go.Lo
open Go.Conc (G)
set_option maxRecDepth 100000
set_option synthInstance.maxSize 100000
set_option synthInstance.maxHeartbeats 1000000
set_option maxHeartbeats 4000000
variable {B:Array Obj}
variable [Laid B]
def PdqC {B:Array Obj} (m:Md Tryz.prog B) (N:Nat):Prop:= ∀(h:Hp) (bk n c:Nat) (xs:List Int) (junk:List Value) (lim:Int),xs.length=n→n≤N→0≤lim→lim≤1000→
 FnC m 123 #[.slice (some ⟨bk,0,none⟩) n c,.int .i64 0,.int .i64 (n:Int),.int .i64 lim] (h++[blkC bk xs junk]) fun v h'=>v= .tuple [].toArray∧ ∃ys,h'=h++[blkC bk ys junk]∧Sw 0 n xs ys∧SortR ys 0 n
def uniqT (xs:List Int):Nat→List Int
 |0=>[]
 |t+1=>uniqT xs t++if t=0∨xs.getD t 0≠xs.getD (t-1) 0 then [xs.getD t 0] else []
theorem uniqT_all (xs:List Int): ∀t,t≤xs.length→(∀i,0<i→i<t→xs.getD i 0≠xs.getD (i-1) 0)→uniqT xs t=xs.take t
 |0,_,_=>rfl
 |t+1,h,hd=>by
  rw [uniqT,uniqT_all xs t (by omega) (fun i h1 h2=>hd i h1 (by omega)),take_snoc' xs t (by omega),if_pos];by_cases e:t=0
  ·exact .inl e
  ·exact .inr (hd t (by omega) (by omega))
theorem uniqT_asc {xs:List Int} (hs:SortR xs 0 xs.length): ∀t,t≤xs.length→Asc (uniqT xs t)∧(∀z∈uniqT xs t,∃i,i<t∧z=xs.getD i 0)
 |0,_=>⟨List.Pairwise.nil,by simp [uniqT]⟩
 |t+1,h=>by
  obtain ⟨h1,h2⟩:=uniqT_asc hs t (by omega)
  rw [uniqT];by_cases e:t=0∨xs.getD t 0≠xs.getD (t-1) 0
  ·rw [if_pos e];refine ⟨?_,fun z hz=>?_⟩
   ·unfold Asc at h1⊢
    rw [List.pairwise_append];refine ⟨h1,by simp,fun x hx y hy=>?_⟩
    simp only [List.mem_singleton] at hy
    subst hy
    obtain ⟨i,hi,rfl⟩:=h2 x hx
    have e1:xs.getD i 0≤xs.getD (t-1) 0:=by
     by_cases e2:i=t-1
     ·subst e2
      exact Int.le_refl _
     ·exact hs i (t-1) (by omega) (by omega) (by omega)
    have e3:xs.getD (t-1) 0≤xs.getD t 0:=hs (t-1) t (by omega) (by omega) (by omega)
    rcases e with e|e
    ·omega
    ·omega
   ·rcases List.mem_append.1 hz with hz|hz
    ·obtain ⟨i,hi,e⟩:=h2 z hz
     exact ⟨i,by omega,e⟩
    ·simp only [List.mem_singleton] at hz
     exact ⟨t,by omega,hz⟩
  ·rw [if_neg e,List.append_nil];exact ⟨h1,fun z hz=>by obtain ⟨i,hi,e⟩:=h2 z hz;exact ⟨i,by omega,e⟩⟩
theorem uniqT_mem {xs:List Int}: ∀t i,i<t→xs.getD i 0∈uniqT xs t
 |0,i,h=>by omega
 |t+1,i,h=>by
  rw [uniqT,List.mem_append];rcases Nat.lt_or_ge i t with h1|h1
  ·exact .inl (uniqT_mem t i h1)
  ·obtain rfl:i=t:=by omega
   by_cases e:i=0∨xs.getD i 0≠xs.getD (i-1) 0
   ·rw [if_pos e];exact .inr (by simp)
   ·have h0:i≠0:=fun x=>e (.inl x)
    have e2:xs.getD i 0=xs.getD (i-1) 0:=Classical.byContradiction fun x=>e (.inr x)
    rw [e2];exact .inl (uniqT_mem i (i-1) (by omega))
theorem take_set_snoc {ys:List Int} {k:Nat} {v:Int} (h:k<ys.length):(ys.set k v).take (k+1)=ys.take k++[v]:=take_set h
theorem own_blk {bk n c:Nat} {ys:List Int} {junk:List Value} (hl:ys.length=n) (hj:n+junk.length=c):OwnS 3 1 (.slice (some ⟨bk,0,none⟩) n c) n (ints ys) [blkC bk ys junk]:=
 .blk (by simp [hl]) (by simp [hl];omega) (by omega)
theorem own_cut {bk n c k:Nat} {ys:List Int} {junk:List Value} (hl:ys.length=n) (hj:n+junk.length=c) (hk:k≤n):OwnS 3 1 (.slice (some ⟨bk,0,none⟩) k c) k (ints (ys.take k)) [blkC bk ys junk]:=by
 have:=(own_blk (bk:=bk) hl hj).pre (m:=k) hk
 rwa [Nat.mul_one,←jdA] at this
theorem f66_c (m:Md Tryz.prog B) (h:Hp) {bk n c:Nat} {xs:List Int} {junk:List Value} (hl:xs.length=n) (hj:n+junk.length=c) (hn:n≤100000):FnC m 66 #[.slice (some ⟨bk,0,none⟩) n c] (h++[blkC bk xs junk]) fun v h'=> ∃nw,h'=h++nw∧ ∃k,k=(uniqT xs n).length∧OwnS 3 1 v k (ints (uniqT xs n)) nw:=by
 refine jad Tryz.func66 rfl rfl (l:=(.slice (some ⟨bk,0,none⟩) n c)::uu60) rfl ?_
 intro cf cs K hK
 refine d67 ?_;refine d151 ?_
 refine jap rfl zq (fun hc=>?_) (fun hc=>?_)
 ·refine d166 ?_
  refine jab (h++[blkC bk xs junk]) rfl Tryz.func66 rfl jaa ?_;refine hK _ _ ?_;have hall:uniqT xs n=xs:=by rw [uniqT_all xs n (by omega) (fun i h1 h2=>by omega),List.take_of_length_le (by omega)]
  exact ⟨_,rfl,n,by rw [hall,hl],by rw [hall];exact own_blk hl hj⟩
 ·refine d36 ?_;refine d98 ?_
  refine jag (fun nn l h'=> ∃(k:Nat),nn=n-k∧(1≤k)∧(k≤n)∧(∀i,0<i→i<k→xs.getD i 0≠xs.getD (i-1) 0)∧(∃U:Nat→Value,l=((.slice (some ⟨bk,0,none⟩) n c)::(U 1)::(U 2)::(.int .i64 (k:Int))::vw57 U 4 []))∧h++[blkC bk xs junk]=h') _ ⟨1,rfl,by omega,by omega,fun i h1 h2=>by omega,exU rfl,rfl⟩ ?_;rintro nn l h' ⟨k,rfl,hk1,hk2,hd,⟨U,rfl⟩,rfl⟩ hnext1;have hu:=uniqT_all xs k (by omega) hd
  refine d114 ?_
  refine jap rfl zq (fun hc=>?_) (fun hc=>?_)
  ·refine d97 ?_
   refine jah [(0,.pure),(1,.pure),(2,.pure),(4,.pure),(5,.pure),(6,.pure),(7,.pure),(3,.read),(8,.read),(9,.pure)] (by kernel_rfl) (by kernel_rfl) (List.Sublist.refl _) ?_;refine d11 ?_;refine d56 ?_
   refine k_ld rfl zq (jan k rfl (by omega)) ?_;refine k_ld rfl zq (jan (k-1) (by omega) (by omega)) ?_;refine jcd rfl zq (fun hc=>?_) (fun hc=>?_)
   ·refine d7 ?_;refine d69 ?_
    refine jdS (a:=k) rfl zq rfl (by omega) ?_;rw [jjf (by omega)];refine d10 ?_;refine rs1 ?_
    have hu1:uniqT xs (k+1)=xs.take k:=by rw [uniqT,if_neg (by rintro (e|e)<;>omega),List.append_nil,hu]
    refine d39 ?_
    refine jag (fun nn l h'=> ∃(j e:Nat) (ys:List Int),nn=n-j∧(1≤j)∧(k+j≤n)∧(e=(uniqT xs (k+j)).length)∧(e<k+j)∧(k≤e)∧(ys.length=n)∧(ys.take e=uniqT xs (k+j))∧(∀i,k+j≤i+1→ys.getD i 0=xs.getD i 0)∧(∃U:Nat→Value,l=((.slice (some ⟨bk,0,none⟩) n c)::(U 1)::(U 2)::(.int .i64 (e:Int))::(.slice (some ⟨bk,k,none⟩) (n-k) (c-k))::(.int .i64 (j:Int))::vw55 U 6 []))∧h++[blkC bk ys junk]=h') _ ⟨1,k,xs,rfl,by omega,by omega,by rw [hu1,List.length_take];omega,by omega,by omega,hl,by rw [hu1],fun i hi=>rfl,exU rfl,rfl⟩ ?_;rintro nn l h' ⟨j,e,ys,rfl,hj1,hj2,he,hek,hke,hyl,hyt,hys,⟨U,rfl⟩,rfl⟩ hnext2;refine d114 ?_
    refine jap rfl zq (fun hc=>?_) (fun hc=>?_)
    ·refine d97 ?_
     refine jah [(0,.pure),(1,.pure),(2,.pure),(4,.pure),(5,.pure),(6,.pure),(7,.pure),(3,.read),(8,.read),(9,.pure)] (by kernel_rfl) (by kernel_rfl) (List.Sublist.refl _) ?_;have hy1:=hys (k+j) (by omega)
     have hy2:=hys (k+(j-1)) (by omega)
     refine d11 ?_;refine d56 ?_
     refine k_ld rfl zq (jeZ j rfl (by omega)) ?_;refine k_ld rfl zq (jeZ (j-1) (by omega) (by omega)) ?_;rw [hy1,hy2];refine jaF rfl zq (fun hc=>?_) (fun hc=>?_)
     ·have hU:uniqT xs (k+(j+1))=uniqT xs (k+j)++[xs.getD (k+j) 0]:=by
       rw [show k+(j+1)=(k+j)+1 by omega,uniqT,if_pos (.inr (by rw [show k+j-1=k+(j-1) by omega];exact hc))]
      refine d7 ?_;refine rs8 ?_;refine d3 ?_;refine d11 ?_
      refine k_ld rfl zq (jeZ j rfl (by omega)) ?_;rw [hy1];refine jaJ rfl zq (by first|rfl|assumption) (by omega) (by omega) ?_;haveI hs1:=setSeg_ints (xs:=ys) (junk:=junk) (v:=xs.getD (k+j) 0) (i:=(e:Int)) (k:=e) rfl (by omega)
      refine d59 ?_;refine rr3 ?_;refine d4 ?_;refine d167 ?_
      exact m.weak jaa (hnext2 _ _ _ (by omega) ⟨j+1,e+1,ys.set e (xs.getD (k+j) 0),rfl,by omega,by omega,by rw [hU,List.length_append,←he];rfl,by omega,by omega,by simp [hyl],by rw [take_set_snoc (by omega),hyt,hU],fun i hi=>by rw [getD_set (by omega),if_neg (by omega)];exact hys i (by omega),exU rfl,rfl⟩)
     ·have hU:uniqT xs (k+(j+1))=uniqT xs (k+j):=by
       rw [show k+(j+1)=(k+j)+1 by omega,uniqT,if_neg (fun y=>y.elim (fun x=>by omega) (fun x=>x (by rw [show k+j-1=k+(j-1) by omega];exact hc))),List.append_nil]
      refine d105 ?_
      exact m.weak jaa (hnext2 _ _ _ (by omega) ⟨j+1,e,ys,rfl,by omega,by omega,by rw [hU,←he],by omega,by omega,hyl,by rw [hU,hyt],fun i hi=>hys i (by omega),exU rfl,rfl⟩)
    ·refine d41 ?_;refine rs4 ?_
     obtain rfl:n=k+j:=by omega
     refine d3 ?_
     refine jdS (a:=e) rfl zq rfl (by omega) ?_;refine jmy rfl zq hyl (by omega) (by omega) ?_;refine jaB ?_;refine d69 ?_;refine k_slTo (b:=e) rfl zq (.inr ⟨_,_,rfl⟩) rfl (by omega) ?_;refine d0 ?_
     refine jab (h++[blkC bk (ys.take e++List.replicate (k+j-e) 0) junk]) rfl Tryz.func66 rfl jaa ?_;refine hK _ _ ?_;refine ⟨_,rfl,e,he,?_⟩
     have:=own_cut (bk:=bk) (n:=k+j) (c:=c) (k:=e) (ys:=ys.take e++List.replicate (k+j-e) 0) (junk:=junk) (by simp;omega) hj (by omega)
     rw [List.take_append_of_le_length (by simp;omega),List.take_take,Nat.min_self,hyt] at this
     rw [hyt];exact this
   ·refine d105 ?_
    exact m.weak jaa (hnext1 _ _ _ (by omega) ⟨k+1,rfl,by omega,by omega,fun i h1 h2=>by
     rcases Nat.lt_or_ge i k with h3|h3
     ·exact hd i h1 h3
     ·obtain rfl:i=k:=by omega
      assumption,exU rfl,rfl⟩)
  ·refine d176 ?_
   refine jab (h++[blkC bk xs junk]) rfl Tryz.func66 rfl jaa ?_;refine hK _ _ ?_;obtain rfl:k=n:=by omega
   have hall:uniqT xs k=xs:=by rw [hu,List.take_of_length_le (by omega)]
   exact ⟨_,rfl,k,by rw [hall,hl],by rw [hall];exact own_blk hl hj⟩
theorem f65_c (m:Md Tryz.prog B) (h:Hp) {N:Nat} (hP:PdqC m N) (hN:N≤60000) {bk n c:Nat} {xs:List Int} {junk:List Value} (hl:xs.length=n) (hn:n≤N):FnC m 65 #[.slice (some ⟨bk,0,none⟩) n c] (h++[blkC bk xs junk]) fun v h'=>v= .tuple [].toArray∧ ∃ys,h'=h++[blkC bk ys junk]∧Sw 0 n xs ys∧SortR ys 0 n:=by
 refine jad Tryz.func65 rfl rfl (l:=(.slice (some ⟨bk,0,none⟩) n c)::uu10) rfl ?_
 intro cf cs K hK
 refine d151 ?_;refine aq rfl ?_;refine rr6 ?_;refine d127 ?_
 refine jbk rfl zq (by kernel_rfl) (n':=(n:Int)) (by unfold IntKind.wrap;simp [IntKind.bits,IntKind.signed];omega) ?_;refine jae rfl zq (by kernel_rfl) (fun H' hH=>f124_c m H' _ (by omega)) ?_;rintro v ⟨lim,rfl,hk0,hk1⟩;refine jac ?_;refine jaZ rfl zq (by kernel_rfl) (hP h bk n c xs junk lim hl hn hk0 hk1) ?_;rintro v h' ⟨rfl,ys,rfl,hsw,hso⟩;refine d144 ?_;refine jdh rfl ?_
 refine jab (h++[blkC bk ys junk]) rfl Tryz.func65 rfl jaa ?_;refine hK _ _ ?_;exact ⟨rfl,ys,rfl,hsw,hso⟩
end Go.Proofs.Bt
namespace Go.Proofs.Bt
open Go.Proofs
open Go.Lo
open Go.Conc (G)
set_option maxRecDepth 100000
set_option synthInstance.maxSize 100000
set_option synthInstance.maxHeartbeats 1000000
set_option maxHeartbeats 4000000
variable {B:Array Obj}
variable [Laid B]
theorem own_block {v:Value} {n:Nat} {xs:List Int} {new:Hp} (o:OwnS 3 1 v n (ints xs) new) (h:0<n): ∃b c junk,v= .slice (some ⟨b,0,none⟩) n c∧new=[blkC b xs junk]∧xs.length=n∧n+junk.length=c:=by
 unfold blkC
 generalize hg:ints xs=ys at o⊢
 have hy:ys.length=xs.length:=by rw [←hg];simp
 cases o with
 |nil=>omega
 |blk hl hc hn=>exact ⟨_,_,_,rfl,rfl,by omega,by omega⟩
theorem mem_uniqT {xs:List Int} {z:Int} (hs:SortR xs 0 xs.length):z∈uniqT xs xs.length↔z∈xs:=by
 constructor
 ·intro h
  obtain ⟨i,hi,rfl⟩:=(uniqT_asc hs _ (Nat.le_refl _)).2 z h
  exact mem_getD.2 ⟨i,hi,rfl⟩
 ·intro h
  obtain ⟨i,hi,rfl⟩:=mem_getD.1 h
  exact uniqT_mem _ i hi
theorem jm5 {b:Bk} {pm pr p q:Option Addr} {nm cm nr cr n c k d:Nat} {x y z:Int} (e:jiA x y z (.slice p n c) (.slice q k d)=bkV b pm nm cm pr nr cr):b.bend=x∧b.twist=y∧b.turns=z∧pm=p∧nm=n∧cm=c∧pr=q∧nr=k∧cr=d:=by
 injection e with e
 injection e with e
 injection e with z1 e
 injection e with z2 e
 injection e with z3 e
 injection e with z4 e
 injection e with z5 e
 injection z1 with _ z1
 injection z2 with _ z2
 injection z3 with _ z3
 injection z4 with u1 u2 u3
 injection z5 with u4 u5 u6
 exact ⟨z1.symm,z2.symm,z3.symm,u1.symm,u2.symm,u3.symm,u4.symm,u5.symm,u6.symm⟩
theorem openL_no {b:Bk} {own:Int} (h:openS b own≠0):openL b own=[]:=by rw [openL,if_neg h]
theorem openL_yes {b:Bk} {own:Int} (h:openS b own=0):openL b own=boatsOf b:=by rw [openL,if_pos h]
theorem f22_c (m:Md Tryz.prog B) (h:Hp) {N:Nat} (hP:PdqC m N) (hN:N≤60000) {b:Bk} {pm:Option Addr} {nm cm:Nat} {pr:Option Addr} {nr cr:Nat} (rdm:RdS B h 2 (.slice pm nm cm) nm (encs b.marks)) (hm:nm≤1000) (rdr:RdS B h 4 (.slice pr nr cr) nr (encs b.rules)) (hr:nr≤1000) (hbn:bookS b=0→(boatsOf b).length≤N) (st:Int):FnC m 22 #[bkV b pm nm cm pr nr cr,.int .i64 st] h fun v h'=> ∃new,h'=h++new∧ ∃w ys,v= .tuple [w,.int .i64 (openS b (if 0≤st∧st≤nm-1 then 0 else 6))].toArray∧OwnS 3 1 w ys.length (ints ys) new∧Asc ys∧ ∀z,z∈ys↔z∈heightsAt (openL b (if 0≤st∧st≤nm-1 then 0 else 6)) st.toNat:=by
 refine jad Tryz.func22 rfl rfl (l:=(bkV b pm nm cm pr nr cr)::(.int .i64 st)::uu36) rfl ?_
 intro cf cs K hK
 refine rs4 ?_;refine jaq rfl zq (fun q2=>k_hp (jac ?_));refine jaq rfl zq (fun q3=>k_hp (jac ?_));refine d54 ?_;refine d181 ?_;refine jeG rfl zq ?_
 refine jat rfl zq (by kernel_rfl) (Post:=fun v nw=>Opened b (bkV b pm nm cm pr nr cr) (openS b ((if 0≤st∧st≤nm-1 then 0 else 6))) nw v) (fun H' hH=>f62_c m H' (rdm.keeps (sq hH)) hm (rdr.keeps (sq hH)) hr callB63 (fun hbz K hK=>by simpa using f63_c m K hm ((rd_has (q:=q3)).keeps (hH.trans hK)))) ?_;rintro v nw ⟨x1,x2,x3,y1,y2,y3,y4,y5,y6,z1,z2,z3,rfl,hz⟩;refine jaL (jac ?_);refine d47 ?_
 refine jaw rfl zq (fun q6=>k_hp (jac ?_));refine jaO rfl zq rfl ?_;refine d108 ?_;refine jaF rfl zq (fun hc=>?_) (fun hc=>?_)
 ·refine d146 ?_
  refine jab (h) rfl Tryz.func22 rfl jaa ?_;refine hK _ _ ?_;exact ⟨[],by simp,_,[],rfl,OwnS.nil,List.Pairwise.nil,by rw [openL_no (by assumption)];simp [heightsAt]⟩
 ·refine d9 ?_;refine rs1 ?_
  have hz0:openS b (if 0≤st∧st≤nm-1 then 0 else 6)=0:=by first|assumption|omega
  obtain ⟨hz1,rfl,hzc,rdB⟩:=hz hz0
  obtain ⟨rfl,rfl,rfl,rfl,rfl,rfl,rfl,rfl,rfl⟩:=jm5 hz1
  obtain ⟨hbz,hoz,hbne⟩:=openS_zero hz0
  have hv:=valid_of hbz
  have h7:=hv.many
  have hml:=rdm.elen (by decide)
  have hbl:=boats_le hv
  have hpos:0<(boatsOf b).length:=List.length_pos_iff.2 hbne
  obtain ⟨zb,zo,rfl⟩:=RdS.ptr (B:=B) rdB hpos
  have hst1:0≤st∧st≤nm-1:=Classical.byContradiction fun e=>by rw [if_neg e] at hoz;omega
  refine d10 ?_;refine rs4 ?_;refine d1 ?_;refine d130 ?_
  refine jag (fun nn l h'=> ∃(k:Nat) (w8:Value) (n8:Hp),nn=(boatsOf b).length-k∧(k≤(boatsOf b).length)∧(OwnS 3 1 w8 k (ints (heightsAt ((boatsOf b).take k) st.toNat)) n8)∧(∃U:Nat→Value,l=((bkV b pm nm cm pr nr cr)::(.int .i64 st)::(U 2)::(.pointer (some ⟨q3,0,none⟩))::vw4 U 4 (w8::vw12 U 9 ((.slice (some ⟨zb,zo,none⟩) (boatsOf b).length z3)::(.int .i64 ((boatsOf b).length:Int))::(.int .i64 (k:Int))::vw14 U 24 []))))∧h++[⟨true,q2,.cells (bkL b pm nm cm pr nr cr).toArray 43 (0,0)⟩,⟨true,q3,.cells [.int .i64 st].toArray 3 (0,0)⟩]++nw++[⟨true,q6,.cells [.int .i64 b.bend,.int .i64 b.twist,.int .i64 b.turns,.slice pm nm cm,.slice pr nr cr,.slice (some ⟨zb,zo,none⟩) (boatsOf b).length z3].toArray 120 (0,0)⟩]++n8=h') _ ⟨0,_,[],rfl,by omega,OwnS.nil,exU rfl,(by simp)⟩ ?_;rintro nn l h' ⟨k,w8,n8,rfl,hk,ho,⟨U,rfl⟩,rfl⟩ hnext;refine rs1 ?_;refine jap rfl zq (fun hc=>?_) (fun hc=>?_)
  ·refine d106 ?_;refine rs4 ?_;refine jaJ rfl zq (by first|rfl|assumption) (by omega) (by omega) ?_
   refine jbf (vs:=hts ((boatsOf b).getD k default)) rfl zq (jbc _) (rdB.eat k (by omega) (by omega)) ?_;have hbm:(boatsOf b).getD k default∈boatsOf b:=jai.2 ⟨k,by omega,rfl⟩
   have hbln:=jm7 hbm
   have hbs:=jjm hv hbm
   generalize hrow:(boatsOf b).getD k default=ln at hbm hbln hbs⊢
   refine jaw rfl zq (fun q10=>k_hp (jac ?_));refine jaO rfl zq (by first|rfl|exact jbc _) ?_;refine jaB ?_;refine rr7 ?_;obtain ⟨s,hs⟩:=Int.eq_ofNat_of_zero_le (hst1.1)
   refine mq rfl ?_;refine jbb rfl zq ?_;refine jdZ rfl zq (by omega) (by omega) ?_
   refine k_ld rfl zq (jjG s (by omega) (by omega)) ?_;refine k_bs kdq rfl zq (by decide) (by decide) rfl (fun q31=>k_hp (jac ?_));refine jik (F:=h++[⟨true,q2,.cells (bkL b pm nm cm pr nr cr).toArray 43 (0,0)⟩,⟨true,q3,.cells [.int .i64 st].toArray 3 (0,0)⟩]++nw++[⟨true,q6,.cells [.int .i64 b.bend,.int .i64 b.twist,.int .i64 b.turns,.slice pm nm cm,.slice pr nr cr,.slice (some ⟨zb,zo,none⟩) (boatsOf b).length z3].toArray 120 (0,0)⟩]) rfl zq rfl ho kdq (by omega) (by omega) (fun w9 n9 o9=>jac ?_);rw [show ints (heightsAt ((boatsOf b).take k) st.toNat)++[Value.int .i64 (ln.getD s 0)]=ints (heightsAt ((boatsOf b).take (k+1)) st.toNat) by rw [jgu _ _ _ (by omega),show st.toNat=s by omega,←hrow];simp;rfl] at o9
   refine d145 ?_
   exact m.weak jaa (hnext _ _ _ (by omega) ⟨k+1,_,n9,rfl,by omega,o9,exU rfl,rfl⟩)
  ·refine d107 ?_;refine rs2 ?_
   obtain rfl:k=(boatsOf b).length:=by omega
   rw [List.take_of_length_le (by omega)] at ho
   obtain ⟨bk,c,junk,rfl,rfl,hbk1,hbk2⟩:=own_block ho hpos
   refine mq rfl ?_
   refine jaZ rfl zq (by kernel_rfl) (f65_c m _ hP hN hbk1 (hbn hbz)) ?_;rintro v h' ⟨rfl,ys,rfl,hsw,hso⟩;refine jac ?_;have hyl:=hsw.length
   refine jaB ?_;refine d115 ?_;refine jaZ rfl zq (by kernel_rfl) (f66_c m _ (show ys.length=_ by omega) hbk2 (by omega)) ?_;rintro v h' ⟨n11,rfl,k,hk',ho'⟩;refine jac ?_;refine d34 ?_;refine jab (h++n11) rfl Tryz.func22 rfl jaa ?_;refine hK _ _ ?_;have hyn:ys.length=(boatsOf b).length:=by omega
   rw [←hyn] at hso ho' hk'
   subst hk'
   refine ⟨n11,rfl,_,_,by rw [hz0],ho',(uniqT_asc hso _ (Nat.le_refl _)).1,fun z=>?_⟩
   rw [openL_yes hz0,mem_uniqT hso];exact (hsw.perm (by omega)).mem_iff
end Go.Proofs.Bt
namespace Go.Lo
open Go.Conc (G)
def padR (l:List Int):List Int:=(l++List.replicate 5 0).take 5
def rws (l:List Int):List Value:=ints (padR l)
abbrev rwV (l:List Int):Value:= .agg (rws l).toArray
theorem jbp (l:List Int):(padR l).length=5:=by simp [padR]
theorem jaf (l:List Int):(rws l).length=5:=by simp [rws,padR]
theorem jlO (l:List Int): ∀u∈rws l,u.oneCell'=true:=jdT _
theorem jjI {l:List Int} {k:Nat} (hk:k<5):(padR l)[k]?=some (l.getD k 0):=by
 unfold padR
 rw [List.getElem?_take,if_pos hk,List.getD_eq_getElem?_getD];by_cases h:k<l.length
 ·rw [List.getElem?_append_left h,List.getElem?_eq_getElem h];rfl
 ·rw [List.getElem?_append_right (by omega),List.getElem?_replicate,if_pos (by omega),List.getElem?_eq_none (by omega)];rfl
theorem jiY {l:List Int} {k:Nat} (hk:k<5):(rws l)[k]?=some (.int .i64 (l.getD k 0)):=by
 simp [rws,jjI hk]
theorem jh7 {l:List Int} (hl:l.length≤5):(padR l).take l.length=l:=by
 unfold padR
 rw [List.take_take,Nat.min_eq_left hl,List.take_left]
instance (priority:=high):Enc (List Int) 5 where
 enc:=rws
 len:=jaf
 one:=jlO
instance {l:List Int}:Ones (rws l):=⟨jlO l⟩
instance {l:List Int}:LenIs (rws l) 5:=⟨jaf l⟩
instance {l:List Int}:Seg (rws l) 0 5 (rws l):=⟨by rw [List.drop_zero];exact List.take_of_length_le (by rw [jaf];exact Nat.le_refl _),jaf l⟩
instance {l m:List Int}:SetSeg (rws l) 0 (rws m) (rws m):=⟨by simp [jaf,List.drop_eq_nil_of_le],by simp [jaf]⟩
instance {v1 v2 v3 v4 v5:Value} {m:List Int}:SetSeg [v1,v2,v3,v4,v5] 0 (rws m) (rws m):=⟨by simp [jaf],by simp [jaf]⟩
theorem jiX:rws []=[.int .i64 0,.int .i64 0,.int .i64 0,.int .i64 0,.int .i64 0]:=by simp [rws,padR,ints,List.replicate]
theorem rws_copy (xs:List Int) {n:Nat} (hn:xs.length=n):rws xs=(ints xs).take 5++(rws []).drop (min n 5):=by
 have e:(rws [])=ints (List.replicate 5 0):=by simp [rws,padR]
 rw [e,←jdA,←jil,←jbg,rws,padR];congr 1
 rw [List.take_append,hn,List.take_replicate,List.drop_replicate];congr 2
 omega
section
variable {B:Array Obj} {h H:Hp}
theorem jcS {q t:Nat} {rw:Bool} {f:Nat×Nat} {l:List Int} {j:Int} (k:Nat) [x:Has h q rw (.cells (rws l).toArray t f)] (hj:j=k) (hk:k<5):Rd B h ⟨q,0+j.toNat*1,none⟩ (.int .i64 (l.getD k 0)):=by
 subst hj
 rw [Int.toNat_natCast,Nat.mul_one,Nat.zero_add];refine Rd.held x.mem ?_
 rw [List.getElem?_toArray,jiY hk]
end
end Go.Lo
namespace Go.Proofs
open Go.Lo
open Go.Conc (G)
set_option maxRecDepth 100000
set_option synthInstance.maxSize 100000
set_option synthInstance.maxHeartbeats 1000000
set_option maxHeartbeats 4000000
variable {B:Array Obj}
def diffs:List Int→List Int
 |a::b::r=>(b-a)::diffs (b::r)
 |_=>[]
theorem f50_c (m:Md Tryz.prog B) (h:Hp) (x lo hi:Int):FnC m 50 #[.int .i64 x,.int .i64 lo,.int .i64 hi] h fun v h'=>h'=h∧IsB (lo≤x∧x≤hi) v:=by
 refine jad Tryz.func50 rfl rfl (l:=(.int .i64 x)::(.int .i64 lo)::(.int .i64 hi)::uu12) rfl ?_
 intro cf cs K hK
 refine d82 ?_;refine rs9 ?_;refine d3 ?_
 refine ja1 rfl zq (fun hc=>?_) (fun hc=>?_)
 ·refine d163 ?_
  refine ja1 rfl rfl (fun hc=>?_) (fun hc=>?_)
  ·refine d64 ?_
   refine jab (h) rfl Tryz.func50 rfl jaa ?_;refine hK _ _ ?_;first|exact ⟨rfl,IsB.yes (by omega)⟩|exact ⟨rfl,IsB.no (by omega)⟩
  ·refine d64 ?_
   refine jab (h) rfl Tryz.func50 rfl jaa ?_;refine hK _ _ ?_;first|exact ⟨rfl,IsB.yes (by omega)⟩|exact ⟨rfl,IsB.no (by omega)⟩
 ·refine d30 ?_;refine d52 ?_;refine d0 ?_
  refine jab (h) rfl Tryz.func50 rfl jaa ?_;refine hK _ _ ?_;first|exact ⟨rfl,IsB.yes (by omega)⟩|exact ⟨rfl,IsB.no (by omega)⟩
theorem f113_c (m:Md Tryz.prog B) (h:Hp) (a b lo hi:Int):FnC m 113 #[.agg [.int .i64 a,.int .i64 b].toArray,.int .i64 lo,.int .i64 hi] h fun v h'=>h'=h∧IsB (lo≤a∧a≤b∧b≤hi) v:=by
 refine jad Tryz.func113 rfl rfl (l:=(.agg [.int .i64 a,.int .i64 b].toArray)::(.int .i64 lo)::(.int .i64 hi)::uu21) rfl ?_
 intro cf cs K hK
 refine rs2 ?_;refine jaq rfl zq (fun q3=>k_hp (jac ?_));refine d10 ?_;refine rr18 ?_;refine mq rfl ?_;refine d1 ?_
 refine ja1 rfl zq (fun hc=>?_) (fun hc=>?_)
 ·refine d101 ?_;refine d12 ?_
  refine ja1 rfl rfl (fun hc=>?_) (fun hc=>?_)
  ·refine jaz rfl zq ?_;refine d101 ?_;refine k_mv rfl rfl ?_;refine ja1 rfl rfl (fun hc=>?_) (fun hc=>?_)
   ·refine d64 ?_
    refine jab (h) rfl Tryz.func113 rfl jaa ?_;refine hK _ _ ?_;first|exact ⟨rfl,IsB.yes (by omega)⟩|exact ⟨rfl,IsB.no (by omega)⟩
   ·refine d64 ?_
    refine jab (h) rfl Tryz.func113 rfl jaa ?_;refine hK _ _ ?_;first|exact ⟨rfl,IsB.yes (by omega)⟩|exact ⟨rfl,IsB.no (by omega)⟩
  ·refine jaz rfl zq ?_;refine d49 ?_;refine d118 ?_;refine jab (h) rfl Tryz.func113 rfl jaa ?_;refine hK _ _ ?_;first|exact ⟨rfl,IsB.yes (by omega)⟩|exact ⟨rfl,IsB.no (by omega)⟩
 ·refine d49 ?_;refine d52 ?_;refine d49 ?_;refine d118 ?_
  refine jab (h) rfl Tryz.func113 rfl jaa ?_;refine hK _ _ ?_;first|exact ⟨rfl,IsB.yes (by omega)⟩|exact ⟨rfl,IsB.no (by omega)⟩
theorem jhy {xs ys:List Int} (hl:xs.length=ys.length) (he: ∀i,i<xs.length→xs.getD i 0=ys.getD i 0):xs=ys:=by
 apply List.ext_getElem hl
 intro i h1 h2
 have:=he i h1
 rw [List.getD_eq_getElem?_getD,List.getElem?_eq_getElem h1,List.getD_eq_getElem?_getD,List.getElem?_eq_getElem h2] at this
 exact this
theorem mem_getD {xs:List Int} {x:Int}:x∈xs↔ ∃i,i<xs.length∧xs.getD i 0=x:=by
 rw [List.mem_iff_getElem];constructor
 ·rintro ⟨i,h,e⟩;exact ⟨i,h,by rw [List.getD_eq_getElem?_getD,List.getElem?_eq_getElem h];exact e⟩
 ·rintro ⟨i,h,e⟩;exact ⟨i,h,by rw [List.getD_eq_getElem?_getD,List.getElem?_eq_getElem h] at e;exact e⟩
def jbn:List Int→List Int→Bool
 |a::r,b::s=>if a=b then jbn r s else decide (a<b)
 |[],_::_=>true
 |_,[]=>false
def jeJ (xs ys:List Int):Prop:=xs.length<ys.length∨(xs.length=ys.length∧jbn xs ys=true)
def jbP (n:Nat):List Int:=(List.range n).map fun i:Nat=>(i:Int)
theorem jf7 (n:Nat):jbP (n+1)=jbP n++[(n:Int)]:=by simp [jbP,List.range_succ]
theorem f100_c (m:Md Tryz.prog B) (h:Hp) {p p2:Option Addr} {n c n2 c2:Nat} {xs ys:List Int} (rd:RdS B h 1 (.slice p n c) n (ints xs)) (hn:n≤1000000) (rd2:RdS B h 1 (.slice p2 n2 c2) n2 (ints ys)):FnC m 100 #[.slice p n c,.slice p2 n2 c2] h fun v h'=>h'=h∧IsB (xs=ys) v:=by
 have hl:=rd.ilen
 have hl2:=rd2.ilen
 refine jad Tryz.func100 rfl rfl (l:=(.slice p n c)::(.slice p2 n2 c2)::uu24) rfl ?_
 intro cf cs K hK
 refine d67 ?_;refine d116 ?_;refine d72 ?_;refine jcO rfl zq ?_
 refine jaF rfl zq (fun hc=>?_) (fun hc=>?_)
 ·refine d50 ?_
  refine jab (h) rfl Tryz.func100 rfl jaa ?_;refine hK _ _ ?_;exact ⟨rfl,IsB.no fun e=>by subst e;omega⟩
 ·refine d36 ?_;refine d98 ?_
  refine jag (fun nn l h'=> ∃(k:Nat),nn=n-k∧(k≤n)∧(∀i,i<k→xs.getD i 0=ys.getD i 0)∧(∃U:Nat→Value,l=((.slice p n c)::(.slice p2 n2 c2)::(U 2)::(U 3)::(U 4)::(.int .i64 (k:Int))::vw20 U 6 []))∧h=h') _ ⟨0,rfl,by omega,by omega,exU rfl,rfl⟩ ?_;rintro nn l h' ⟨k,rfl,hk,he,⟨U,rfl⟩,rfl⟩ hnext;refine d114 ?_
  refine jap rfl zq (fun hc=>?_) (fun hc=>?_)
  ·refine d97 ?_
   refine jah [(0,.pure),(1,.pure),(2,.pure),(4,.pure),(5,.pure),(6,.pure),(3,.read),(7,.read),(8,.pure)] (by kernel_rfl) (by kernel_rfl) (List.Sublist.refl _) ?_;refine d3 ?_
   obtain ⟨rd_b,rd_o,rfl⟩:=rd.ptr (by omega)
   refine jaJ rfl zq (by first|rfl|assumption) (by omega) (by omega) ?_;refine d3 ?_;obtain ⟨rd2_b,rd2_o,rfl⟩:=rd2.ptr (by omega)
   refine jaJ rfl zq (by first|rfl|assumption) (by omega) (by omega) ?_;refine k_ld rfl zq (rd.iat k (by omega) (by omega)) ?_;refine k_ld rfl zq (rd2.iat k (by omega) (by omega)) ?_;refine jaF rfl zq (fun hc=>?_) (fun hc=>?_)
   ·refine d50 ?_
    refine jab (h) rfl Tryz.func100 rfl jaa ?_;refine hK _ _ ?_;exact ⟨rfl,IsB.no fun e=>by subst e;contradiction⟩
   ·refine d105 ?_
    exact m.weak jaa (hnext _ _ _ (by omega) ⟨k+1,rfl,by omega,fun i hi=>by
     rcases Nat.lt_or_ge i k with h1|h1
     ·exact he i h1
     ·obtain rfl:i=k:=by omega
      assumption,exU rfl,rfl⟩)
  ·refine d160 ?_
   refine jab (h) rfl Tryz.func100 rfl jaa ?_;refine hK _ _ ?_;exact ⟨rfl,IsB.yes (jhy (by omega) fun i hi=>he i (by omega))⟩
theorem f67_c (m:Md Tryz.prog B) (h:Hp) {p:Option Addr} {n c:Nat} {xs:List Int} (x:Int) (rd:RdS B h 1 (.slice p n c) n (ints xs)) (hn:n≤1000000):FnC m 67 #[.slice p n c,.int .i64 x] h fun v h'=>h'=h∧IsB (x∈xs) v:=by
 have hl:=rd.ilen
 refine jad Tryz.func67 rfl rfl (l:=(.slice p n c)::(.int .i64 x)::uu16) rfl ?_
 intro cf cs K hK
 refine d67 ?_;refine d98 ?_
 refine jag (fun nn l h'=> ∃(k:Nat),nn=n-k∧(k≤n)∧(∀i,i<k→xs.getD i 0≠x)∧(∃U:Nat→Value,l=((.slice p n c)::(.int .i64 x)::(U 2)::(U 3)::(U 4)::(.int .i64 (k:Int))::vw12 U 6 []))∧h=h') _ ⟨0,rfl,by omega,by omega,exU rfl,rfl⟩ ?_;rintro nn l h' ⟨k,rfl,hk,he,⟨U,rfl⟩,rfl⟩ hnext;refine d114 ?_
 refine jap rfl zq (fun hc=>?_) (fun hc=>?_)
 ·refine d75 ?_;refine rs6 ?_;refine d3 ?_
  obtain ⟨rd_b,rd_o,rfl⟩:=rd.ptr (by omega)
  refine jaJ rfl zq (by first|rfl|assumption) (by omega) (by omega) ?_;refine k_ld rfl zq (rd.iat k (by omega) (by omega)) ?_;refine mq rfl ?_
  refine jcd rfl zq (fun hc=>?_) (fun hc=>?_)
  ·refine d50 ?_
   refine jab (h) rfl Tryz.func67 rfl jaa ?_;refine hK _ _ ?_;exact ⟨rfl,IsB.yes (mem_getD.2 ⟨k,by omega,by assumption⟩)⟩
  ·refine d105 ?_
   exact m.weak jaa (hnext _ _ _ (by omega) ⟨k+1,rfl,by omega,fun i hi=>by
    rcases Nat.lt_or_ge i k with h1|h1
    ·exact he i h1
    ·obtain rfl:i=k:=by omega
     assumption,exU rfl,rfl⟩)
 ·refine d160 ?_
  refine jab (h) rfl Tryz.func67 rfl jaa ?_;refine hK _ _ ?_;exact ⟨rfl,IsB.no fun e=>by
   obtain ⟨i,h1,h2⟩:=mem_getD.1 e
   exact he i (by omega) h2⟩
def bends (xs:List Int):List Int:=diffs (diffs xs)
def turnSt (s:Int×Int) (k:Int):Int×Int:=(if (k>0∧s.2<0)∨(k<0∧s.2>0) then s.1+1 else s.1,if k≠0 then k else s.2)
def turnF (l:List Int):Int×Int:=l.foldl turnSt (0,0)
def turns (xs:List Int):Int:=(turnF (bends xs)).1
def jmc (l:List Int):Int:=l.foldl max 0
def spanL (x:Sp):List Int:=(List.range (x.hi-x.lo+1).toNat).map fun i:Nat=>x.lo+(i:Int)
def ext1 (l:List Int) (ns:List Int):List (List Int):=ns.map fun n=>l++[n]
def extL (all:List (List Int)) (x:Sp):List (List Int):=all.flatMap fun l=>ext1 l (spanL x)
def Asc (ys:List Int):Prop:=ys.Pairwise (· < ·)
theorem Asc.eq: ∀{xs ys:List Int},Asc xs→Asc ys→(∀z,z∈xs↔z∈ys)→xs=ys
 |[],[],_,_,_=>rfl
 |[],b::s,_,_,h=>by have:=(h b).2 (by simp);simp at this
 |a::r,[],_,_,h=>by have:=(h a).1 (by simp);simp at this
 |a::r,b::s,h1,h2,h=>by
  unfold Asc at h1 h2
  rw [List.pairwise_cons] at h1 h2
  have hab:a=b:=by
   rcases List.mem_cons.1 ((h a).1 (by simp)) with e|e
   ·exact e
   ·rcases List.mem_cons.1 ((h b).2 (by simp)) with e'|e'
    ·exact e'.symm
    ·have:=h1.1 b e';have:=h2.1 a e;omega
  subst hab
  have:r=s:=Asc.eq h1.2 h2.2 fun z=>by
   constructor
   ·intro hz
    rcases List.mem_cons.1 ((h z).1 (List.mem_cons_of_mem _ hz)) with e|e
    ·have:=h1.1 z hz;omega
    ·exact e
   ·intro hz
    rcases List.mem_cons.1 ((h z).2 (List.mem_cons_of_mem _ hz)) with e|e
    ·have:=h2.1 z hz;omega
    ·exact e
  rw [this]
theorem OwnS.full {t k q n:Nat} {cs:List Value} (hl:cs.length=n*k):OwnS t k (.slice (some ⟨q,0,none⟩) n n) n cs [⟨true,q,.cells cs.toArray t (0,0)⟩]:=by
 have:=OwnS.blk (t:=t) (k:=k) (b:=q) (n:=n) (cap:=n) (cs:=cs) (junk:=[]) hl (by simpa using hl) (Nat.le_refl _)
 simpa using this
def RdI (B:Array Obj) (h:Hp) (w:Value) (xs:List Int):Prop:= ∃p c,w= .slice p xs.length c∧RdS B h 1 (.slice p xs.length c) xs.length (ints xs)
theorem RdI.nil {h:Hp}:RdI B h (.slice none 0 0) []:=⟨none,0,rfl,none,0,rfl,rfl,.inl ⟨rfl,rfl⟩⟩
theorem OwnS.rdI {t:Nat} {w:Value} {n:Nat} {xs:List Int} {new:Hp} (o:OwnS t 1 w n (ints xs) new):RdI B new w xs:=by
 obtain ⟨p,c,rfl,hl⟩:=o.len
 obtain rfl:n=xs.length:=by simpa using hl.symm
 exact ⟨p,c,rfl,o.rd'⟩
def jbJ (ll:List (List Int)) (s:Nat) (x:Int):Nat:=(ll.filter fun l=>decide (l.getD s 0=x)).length
theorem jen (ll:List (List Int)) (s:Nat) (x:Int) (k:Nat) (h:k<ll.length) (hp:(ll.getD k []).getD s 0=x):jbJ (ll.take (k+1)) s x=jbJ (ll.take k) s x+1:=by
 rw [jb0 ll k h,jbJ,List.filter_append,List.filter_cons,if_pos (decide_eq_true hp),List.length_append];rfl
theorem jg3 (ll:List (List Int)) (s:Nat) (x:Int) (k:Nat) (h:k<ll.length) (hp:(ll.getD k []).getD s 0≠x):jbJ (ll.take (k+1)) s x=jbJ (ll.take k) s x:=by
 rw [jb0 ll k h,jbJ,List.filter_append,List.filter_cons,if_neg (by rw [decide_eq_true_iff];exact hp),List.filter_nil,List.append_nil];rfl
def lefts (ll:List (List Int)) (s:Nat):List Int:=ll.map fun l=>(jbJ ll s (l.getD s 0):Int)
def jct (ll:List (List Int)) (s:Nat):Int:=jmc (lefts ll s)
theorem f153_c (m:Md Tryz.prog B) (h:Hp) {p:Option Addr} {n c:Nat} {xs:List Int} (rd:RdS B h 1 (.slice p n c) n (ints xs)) (hn:n≤100000) {fid:Nat} {fc cp:Array Value} {pr:Nat→Prop} (hcall:ja4 Tryz.prog fid=true) (hf: ∀i,i<n→ ∀H':Hp,h.Sublist H'→FnC m fid (fc++[Value.int .i64 (xs.getD i 0)].toArray++cp) H' fun v h'=>h'=H'∧IsB (pr i) v):FnC m 153 #[.slice p n c,.func (.func fid) fc cp] h fun v h'=>h'=h∧ ∃j:Int,v= .int .i64 j∧(0≤j↔ ∃i,i<n∧pr i):=by
 refine jad Tryz.func153 rfl rfl (l:=(.slice p n c)::(.func (.func fid) fc cp)::uu17) rfl ?_
 intro cf cs K hK
 refine d67 ?_;refine d46 ?_;refine d130 ?_
 refine jag (fun nn l h'=> ∃(k:Nat),nn=n-k∧(k≤n)∧(∀i,i<k→ ¬pr i)∧(∃U:Nat→Value,l=((.slice p n c)::(.func (.func fid) fc cp)::vw5 U 2 ((.int .i64 (n:Int))::(.int .i64 (k:Int))::vw10 U 9 [])))∧h=h') _ ⟨0,rfl,by omega,fun i hi=>by omega,exU rfl,rfl⟩ ?_;rintro nn l h' ⟨k,rfl,hk,he,⟨U,rfl⟩,rfl⟩ hnext;refine rs1 ?_;refine jap rfl zq (fun hc=>?_) (fun hc=>?_)
 ·refine d106 ?_;refine d16 ?_;refine d148 ?_;refine d127 ?_
  obtain ⟨rd_b,rd_o,rfl⟩:=rd.ptr (by omega)
  refine jaJ rfl zq (by first|rfl|assumption) (by omega) (by omega) ?_;refine k_ld rfl zq (rd.iat k (by omega) (by omega)) ?_;refine jea (Post:=fun v=>IsB _ v) rfl zq hcall (fun H' hH=>hf k (by omega) H' hH) ?_;rintro v (⟨hc,rfl⟩|⟨hc,rfl⟩)
  ·refine jac ?_;refine d166 ?_;refine jab (h) rfl Tryz.func153 rfl jaa ?_;refine hK _ _ ?_;first
    |exact ⟨rfl,_,rfl,fun _=>⟨k,by omega,hc⟩,fun _=>by omega⟩
    |(refine ⟨rfl,_,rfl,fun e=>absurd e (by decide),?_⟩;rintro ⟨i,h1,h2⟩;exact absurd h2 (he i (by omega)))
  ·refine jac ?_;refine d177 ?_;exact m.weak jaa (hnext _ _ _ (by omega) ⟨k+1,rfl,by omega,fun i hi=>by
    rcases Nat.lt_or_ge i k with h1|h1
    ·exact he i h1
    ·obtain rfl:i=k:=by omega
     exact hc,exU rfl,rfl⟩)
 ·refine d171 ?_
  refine jab (h) rfl Tryz.func153 rfl jaa ?_;refine hK _ _ ?_;first
   |exact ⟨rfl,_,rfl,fun _=>⟨k,by omega,hc⟩,fun _=>by omega⟩
   |(refine ⟨rfl,_,rfl,fun e=>absurd e (by decide),?_⟩;rintro ⟨i,h1,h2⟩;exact absurd h2 (he i (by omega)))
theorem f101_c (m:Md Tryz.prog B) (h:Hp) {p:Option Addr} {n c:Nat} {xs:List Int} (rd:RdS B h 1 (.slice p n c) n (ints xs)) (hn:n≤100000) {fid:Nat} {fc cp:Array Value} {pr:Nat→Prop} (hcall:ja4 Tryz.prog fid=true) (hf: ∀i,i<n→ ∀H':Hp,h.Sublist H'→FnC m fid (fc++[Value.int .i64 (xs.getD i 0)].toArray++cp) H' fun v h'=>h'=H'∧IsB (pr i) v):FnC m 101 #[.slice p n c,.func (.func fid) fc cp] h fun v h'=>h'=h∧IsB (∃i,i<n∧pr i) v:=by
 refine jad Tryz.func101 rfl rfl (l:=(.slice p n c)::(.func (.func fid) fc cp)::uu7) rfl ?_
 intro cf cs K hK
 refine d82 ?_;refine rs5 ?_;refine d3 ?_
 refine jae (Post:=fun v=> ∃j:Int,v= .int .i64 j∧(0≤j↔ ∃i,i<n∧pr i)) rfl zq (by kernel_rfl) (fun H' hH=>f153_c m H' (rd.keeps (sq hH)) hn hcall (fun i hi K hK=>hf i hi K (SubH.sub.trans (hH.trans hK)))) ?_;rintro v ⟨j,rfl,hj⟩;refine jac ?_;refine jaY rfl zq (fun hc=>?_) (fun hc=>?_)
 ·refine d0 ?_
  refine jab (h) rfl Tryz.func101 rfl jaa ?_;refine hK _ _ ?_;first|exact ⟨rfl,IsB.yes (hj.1 (by assumption))⟩|exact ⟨rfl,IsB.no (fun e=>absurd (hj.2 e) (by omega))⟩
 ·refine d0 ?_
  refine jab (h) rfl Tryz.func101 rfl jaa ?_;refine hK _ _ ?_;first|exact ⟨rfl,IsB.yes (hj.1 (by assumption))⟩|exact ⟨rfl,IsB.no (fun e=>absurd (hj.2 e) (by omega))⟩
theorem take_set {ln:List Int} {i:Nat} {n:Int} (h:i<ln.length):(ln.set i n).take (i+1)=ln.take i++[n]:=by
 rw [List.take_succ_eq_append_getElem (by simpa using h)];simp [List.take_set_of_le]
theorem f183_c (m:Md Tryz.prog B) (h:Hp) (x:Int):FnC m 183 #[.int .i64 x] h fun v h'=>h'=h∧v= .bool false:=by
 refine jad Tryz.func183 rfl rfl (l:=[.int .i64 x,undef,undef,undef,undef,undef]) rfl ?_
 intro cf cs K hK
 refine d82 ?_;refine d69 ?_;refine k_neq rfl zq ?_;refine d0 ?_
 refine jab (h) rfl Tryz.func183 rfl jaa ?_;refine hK _ _ ?_;exact ⟨rfl,by simp⟩
theorem f166_c (m:Md Tryz.prog B) (h:Hp) (x y:Int):FnC m 166 #[.int .i64 x,.int .i64 y] h fun v h'=>h'=h∧IsB (x<y) v:=by
 refine jad Tryz.func166 rfl rfl (l:=(.int .i64 x)::(.int .i64 y)::uu15) rfl ?_
 intro cf cs K hK
 refine d82 ?_;refine rs13 ?_;refine mq rfl ?_
 refine jae (Post:=fun v=>v=_) rfl zq (by kernel_rfl) (fun H' hH=>f183_c m H' _) ?_;rintro v rfl;refine jac ?_;refine d30 ?_;refine d52 ?_;refine d163 ?_;refine jap rfl rfl (fun hc=>?_) (fun hc=>?_)
 ·refine d118 ?_
  refine jab (h) rfl Tryz.func166 rfl jaa ?_;refine hK _ _ ?_;first|exact ⟨rfl,IsB.yes (by assumption)⟩|exact ⟨rfl,IsB.no (by omega)⟩
 ·refine d118 ?_
  refine jab (h) rfl Tryz.func166 rfl jaa ?_;refine hK _ _ ?_;first|exact ⟨rfl,IsB.yes (by assumption)⟩|exact ⟨rfl,IsB.no (by omega)⟩
def Ins (ys:List Int) (a i j:Nat):Prop:=(∀p q,a≤p→p<q→q≤i→p≠j→q≠j→ys.getD p 0≤ys.getD q 0)∧(∀q,j<q→q≤i→ys.getD j 0≤ys.getD q 0)
theorem Ins.start {ys:List Int} {a i:Nat} (h:SortR ys a i):Ins ys a i i:=⟨fun p q h1 h2 h3 h4 h5=>h p q h1 h2 (by omega),fun q h1 h2=>by omega⟩
theorem Ins.stop {ys:List Int} {a i j:Nat} (h:Ins ys a i j) (hj:j=a∨(a<j∧ys.getD (j-1) 0≤ys.getD j 0)) (haj:a≤j) (hji:j≤i):SortR ys a (i+1):=fun p q h1 h2 h3=>by
 by_cases e1:p=j
 ·subst e1
  exact h.2 q h2 (by omega)
 ·by_cases e2:q=j
  ·subst e2
   rcases hj with hj|⟨hj,hle⟩
   ·omega
   ·by_cases e3:p=q-1
    ·subst e3
     exact hle
    ·have:=h.1 p (q-1) h1 (by omega) (by omega) e1 (by omega)
     omega
  ·exact h.1 p q h1 h2 (by omega) e1 e2
theorem Ins.step {ys:List Int} {a i j:Nat} (h:Ins ys a i j) (haj:a<j) (hji:j≤i) (hi:i<ys.length) (hlt:ys.getD j 0<ys.getD (j-1) 0):Ins (ja8 ys j (j-1)) a i (j-1):=by
 have g: ∀k,(ja8 ys j (j-1)).getD k 0=if k=j-1 then ys.getD j 0 else if k=j then ys.getD (j-1) 0 else ys.getD k 0:=fun k=>ja0 (by omega) (by omega)
 refine ⟨fun p q h1 h2 h3 h4 h5=>?_,fun q h1 h2=>?_⟩
 ·rw [g,g,if_neg h4,if_neg h5];by_cases e1:p=j
  ·subst e1
   rw [if_pos rfl,if_neg (by omega)];exact h.1 (p-1) q (by omega) (by omega) h3 (by omega) (by omega)
  ·rw [if_neg e1];by_cases e2:q=j
   ·subst e2
    rw [if_pos rfl];exact h.1 p (q-1) h1 (by omega) (by omega) e1 (by omega)
   ·rw [if_neg e2];exact h.1 p q h1 h2 h3 e1 e2
 ·rw [g,g,if_pos rfl,if_neg (by omega)];by_cases e2:q=j
  ·subst e2
   rw [if_pos rfl];omega
  ·rw [if_neg e2];exact h.2 q (by omega) h2
theorem jbe {ys:List Int} {i j:Nat}:(ys.set i (ys.getD j 0)).set j (ys.getD i 0)=ja8 ys i j:=rfl
theorem f160_c (m:Md Tryz.prog B) (h:Hp) {bk n c:Nat} {xs:List Int} {junk:List Value} (hl:xs.length=n) (hn:n≤100000) (a b:Nat) (hab:a≤b) (hb:b≤n):FnC m 160 #[.slice (some ⟨bk,0,none⟩) n c,.int .i64 (a:Int),.int .i64 (b:Int)] (h++[blkC bk xs junk]) fun v h'=>v= .tuple [].toArray∧ ∃ys,h'=h++[blkC bk ys junk]∧Sw a b xs ys∧SortR ys a b:=by
 refine jad Tryz.func160 rfl rfl (l:=(.slice (some ⟨bk,0,none⟩) n c)::(.int .i64 (a:Int))::(.int .i64 (b:Int))::uu46) rfl ?_
 intro cf cs K hK
 refine rs3 ?_;refine d4 ?_;refine d39 ?_;refine jag (fun nn l h'=> ∃(i:Nat) (ys:List Int),nn=b-i∧(a+1≤i)∧(i≤max (a+1) b)∧(Sw a b xs ys)∧(SortR ys a i)∧(∃U:Nat→Value,l=((.slice (some ⟨bk,0,none⟩) n c)::(.int .i64 (a:Int))::(.int .i64 (b:Int))::(U 3)::(U 4)::(U 5)::(.int .i64 (i:Int))::vw42 U 7 []))∧h++[blkC bk ys junk]=h') _ ⟨a+1,xs,rfl,by omega,by omega,.refl _,fun p q h1 h2 h3=>by omega,exU rfl,rfl⟩ ?_;rintro nn l h' ⟨i,ys,rfl,hi1,hi2,hsw,hso,⟨U,rfl⟩,rfl⟩ hnext1;have hyl:=hsw.length
 refine jak ?_;refine d175 ?_;refine jap rfl zq (fun hc=>?_) (fun hc=>?_)
 ·refine d75 ?_;refine d16 ?_;refine d39 ?_
  refine jag (fun nn l h'=> ∃(j:Nat) (zs:List Int),nn=j+1∧(a≤j)∧(j≤i)∧(Sw a b xs zs)∧(Ins zs a i j)∧(∃U:Nat→Value,l=((.slice (some ⟨bk,0,none⟩) n c)::(.int .i64 (a:Int))::(.int .i64 (b:Int))::(U 3)::(U 4)::(U 5)::(.int .i64 (i:Int))::(.int .i64 (j:Int))::vw41 U 8 []))∧h++[blkC bk zs junk]=h') _ ⟨i,ys,rfl,by omega,by omega,hsw,Ins.start hso,exU rfl,rfl⟩ ?_;rintro nn l h' ⟨j,zs,rfl,hj1,hj2,hzw,hin,⟨U,rfl⟩,rfl⟩ hnext2;have hzl:=hzw.length
  refine d140 ?_
  refine jah [(0,.pure),(1,.pure),(2,.pure),(3,.pure),(4,.pure),(5,.pure),(6,.pure),(8,.pure),(9,.pure),(10,.pure),(11,.pure),(7,.read),(12,.read),(13,.keep),(14,.pure)] (by kernel_rfl) (by kernel_rfl) (List.Sublist.refl _) ?_;refine d3 ?_
  refine jbz rfl zq (fun hc=>?_) (fun hc=>?_)
  ·refine d22 ?_;refine d27 ?_;refine k_mv rfl rfl ?_;refine d169 ?_
   refine k_ld rfl rfl (jan j rfl (by omega)) ?_;refine k_ld rfl rfl (jan (j-1) (by omega) (by omega)) ?_;refine jae (Post:=fun v=>IsB _ v) rfl rfl (by kernel_rfl) (fun H' hH=>f166_c m H' _ _) ?_;rintro v (⟨hc,rfl⟩|⟨hc,rfl⟩)
   ·refine d94 ?_;refine d75 ?_
    refine jah [(0,.pure),(1,.pure),(2,.pure),(3,.pure),(4,.pure),(5,.pure),(6,.pure),(7,.pure),(8,.pure),(10,.pure),(11,.pure),(12,.pure),(9,.read),(13,.read),(14,.pure),(15,.free),(16,.pure),(17,.free)] (by kernel_rfl) (by kernel_rfl) (List.Sublist.refl _) ?_;refine d3 ?_;refine d29 ?_;refine d56 ?_;refine d11 ?_
    refine k_ld rfl zq (jan (j-1) (by omega) (by omega)) ?_;refine k_ld rfl zq (jan j rfl (by omega)) ?_;refine jaJ rfl zq (by first|rfl|assumption) (by omega) (by omega) ?_;haveI hs1:=setSeg_ints (xs:=zs) (junk:=junk) (v:=zs.getD (j-1) 0) (i:=(j:Int)) (k:=j) rfl (by omega)
    refine d28 ?_
    haveI hs2:=setSeg_ints (xs:=zs.set j (zs.getD (j-1) 0)) (junk:=junk) (v:=zs.getD j 0) (i:=(j:Int)-1) (k:=j-1) (by omega) (by simp;omega)
    refine jcg rfl zq ?_;rw [jbe];refine jaB ?_;refine jay ?_;refine d161 ?_;refine aq rfl ?_;have ej:(j:Int)-1=((j-1:Nat):Int):=by omega
    rw [ej];exact m.weak jaa (hnext2 _ _ _ (by omega) ⟨j-1,ja8 zs j (j-1),rfl,by omega,by omega,.step j (j-1) ⟨by omega,by omega⟩ ⟨by omega,by omega⟩ hzw,hin.step (by omega) (by omega) (by omega) (by omega),exU rfl,rfl⟩)
   ·refine d94 ?_;refine d41 ?_;refine d170 ?_
    exact m.weak jaa (hnext1 _ _ _ (by omega) ⟨i+1,zs,rfl,by omega,by omega,hzw,hin.stop (by omega) (by omega) (by omega),exU rfl,rfl⟩)
  ·refine d168 ?_;refine jau rfl zq ?_;refine d41 ?_;refine d170 ?_
   exact m.weak jaa (hnext1 _ _ _ (by omega) ⟨i+1,zs,rfl,by omega,by omega,hzw,hin.stop (by omega) (by omega) (by omega),exU rfl,rfl⟩)
 ·refine d41 ?_;refine jdh rfl ?_
  refine jab (h++[blkC bk ys junk]) rfl Tryz.func160 rfl jaa ?_;refine hK _ _ ?_;refine ⟨rfl,ys,rfl,hsw,fun p q h1 h2 h3=>?_⟩
  by_cases e:a<b
  ·exact hso p q h1 h2 (by omega)
  ·omega
theorem f170_c (m:Md Tryz.prog B) (h:Hp) (x:Int) (hx:0≤x∧x<65536):FnC m 170 #[.int .u64 x] h fun v h'=>h'=h∧ ∃k:Int,v= .int .i64 k∧0≤k∧k≤1000:=by
 refine jad Tryz.func170 rfl rfl (l:=(.int .u64 x)::uu24) rfl ?_
 intro cf cs K hK
 refine d67 ?_;refine d16 ?_
 refine jaY rfl zq (fun hc=>?_) (fun hc=>?_)
 ·exfalso
  omega
 ·refine d36 ?_;refine d16 ?_
  refine jaY rfl zq (fun hc=>?_) (fun hc=>?_)
  ·exfalso
   omega
  ·refine d36 ?_;refine d16 ?_
   refine jaY rfl zq (fun hc=>?_) (fun hc=>?_)
   ·refine d7 ?_;refine d46 ?_
    have hq:x.fdiv (2^(min (8:Int).toNat IntKind.u64.bits))=x/256:=by
     rw [Int.fdiv_eq_ediv_of_nonneg _ (by decide)];rfl
    refine k_shr (x/256) rfl zq (by decide) hq ?_;refine aq rfl ?_;refine d55 ?_;refine rs7 ?_;refine d3 ?_
    first
     |refine jbk rfl zq (by kernel_rfl) (n':=x) (by unfold IntKind.wrap;simp [IntKind.bits,IntKind.signed];omega) ?_
     |refine jbk rfl zq (by kernel_rfl) (n':=x/256) (by unfold IntKind.wrap;simp [IntKind.bits,IntKind.signed];omega) ?_
    refine k_ixS (n:=256) rfl zq (by kernel_rfl) (by kernel_rfl) (by omega) (by omega) (fun b8=>jac ?_);have hb8:=b8.toNat_lt
    refine jbk rfl zq (by kernel_rfl) (n':=(b8.toNat:Int)) (by unfold IntKind.wrap;simp [IntKind.bits,IntKind.signed];omega) ?_;refine d109 ?_
    refine jab (h) rfl Tryz.func170 rfl jaa ?_;refine hK _ _ ?_;exact ⟨rfl,_,rfl,by omega,by omega⟩
   ·refine d9 ?_;refine rs7 ?_;refine d3 ?_
    first
     |refine jbk rfl zq (by kernel_rfl) (n':=x) (by unfold IntKind.wrap;simp [IntKind.bits,IntKind.signed];omega) ?_
     |refine jbk rfl zq (by kernel_rfl) (n':=x/256) (by unfold IntKind.wrap;simp [IntKind.bits,IntKind.signed];omega) ?_
    refine k_ixS (n:=256) rfl zq (by kernel_rfl) (by kernel_rfl) (by omega) (by omega) (fun b8=>jac ?_);have hb8:=b8.toNat_lt
    refine jbk rfl zq (by kernel_rfl) (n':=(b8.toNat:Int)) (by unfold IntKind.wrap;simp [IntKind.bits,IntKind.signed];omega) ?_;refine d109 ?_
    refine jab (h) rfl Tryz.func170 rfl jaa ?_;refine hK _ _ ?_;exact ⟨rfl,_,rfl,by omega,by omega⟩
theorem f124_c (m:Md Tryz.prog B) (h:Hp) (x:Int) (hx:0≤x∧x<65536):FnC m 124 #[.int .u64 x] h fun v h'=>h'=h∧ ∃k:Int,v= .int .i64 k∧0≤k∧k≤1000:=by
 refine jad Tryz.func124 rfl rfl (l:=(.int .u64 x)::uu7) rfl ?_
 intro cf cs K hK
 refine d67 ?_;refine jfc ?_;refine jby ?_;refine d46 ?_
 refine jae rfl zq (by kernel_rfl) (fun H' hH=>f170_c m H' _ hx) ?_;rintro v ⟨k,rfl,hk0,hk1⟩;refine d87 ?_
 refine jab (h) rfl Tryz.func124 rfl jaa ?_;refine hK _ _ ?_;exact ⟨rfl,_,rfl,hk0,hk1⟩
end Go.Proofs
