/- A part of the proof of a law: my own separation logic over the machine, and walks of the program. Condition of each theorem: as its statement says. -/
import Derived.Test.YtggpepeiedkbbaaGreatDoorVLOfigures10
set_option linter.all false
namespace Go.Proofs
open Go.Lo
open Go.Conc (G)
set_option maxRecDepth 100000
set_option synthInstance.maxSize 100000
set_option synthInstance.maxHeartbeats 1000000
set_option maxHeartbeats 4000000
variable {B:Array Obj}
variable [LaidO B]
theorem jiF {xs ys:List Ce} (hl:xs.length=ys.length) (h: ∀j,j<xs.length→xs.getD j default=ys.getD j default):xs=ys:=by
 refine List.ext_getElem hl fun i h1 h2=>?_
 have:=h i h1
 rw [List.getD_eq_getElem?_getD,List.getD_eq_getElem?_getD,List.getElem?_eq_getElem h1,List.getElem?_eq_getElem h2] at this
 exact this
theorem f70_c (m:Md Tryz.prog B) (h:Hp) {p p2:Option Addr} {n c n2 c2:Nat} {xs ys:List Ce} (rd:RdS B h 3 (.slice p n c) n (encs xs)) (hn:n≤1000) (rd2:RdS B h 3 (.slice p2 n2 c2) n2 (encs ys)):FnC m 70 #[.slice p n c,.slice p2 n2 c2] h fun v h'=>h'=h∧IsB (xs=ys) v:=by
 have hml:=rd.elen zA
 have hml2:=rd2.elen zA
 refine jad Tryz.func70 rfl rfl (l:=(.slice p n c)::(.slice p2 n2 c2)::uu24) rfl ?_
 intro cf cs K hK
 refine D166 ?_;refine rs5 ?_;refine Z4 ?_
 refine jaW rfl zq (fun hc=>?_) (fun hc=>?_)
 ·refine D169 ?_;refine jab (h) rfl Tryz.func70 rfl jaa ?_;refine D5 ?_
  exact ⟨rfl,IsB.no fun e=>by rw [e] at hml;omega⟩
 ·refine D164 ?_;refine D184 ?_
  refine jaj (fun nn l h'=> ∃(i:Nat),nn=n-i∧(i≤n)∧(∀j,j<i→xs.getD j default=ys.getD j default)∧(∃U:Nat→Value,l=((.slice p n c)::(.slice p2 n2 c2)::(U 2)::(U 3)::(U 4)::(.int .i64 (i:Int))::vw20 U 6 []))∧h=h') _ ⟨0,rfl,by omega,fun j hj=>absurd hj zO,exU rfl,rfl⟩ ?_;rintro nn l h' ⟨i,rfl,hi,heq,⟨U,rfl⟩,rfl⟩ hnext;refine D2 ?_;refine D203 ?_
  refine jan rfl zq (fun hc=>?_) (fun hc=>?_)
  ·refine D200 ?_
   obtain ⟨b1,o1_,rfl⟩:=rd.ptr zO
   obtain ⟨b2,o2_,rfl⟩:=rd2.ptr zO
   refine jas [(0,.pure),(1,.pure),(2,.pure),(4,.pure),(5,.pure),(6,.pure),(3,.read),(7,.read),(8,.pure)] zK zK (List.Sublist.refl _) ?_;refine Z2 ?_;refine D28 ?_;refine Z2 ?_;refine D28 ?_;refine jct (vs:=[.bool (xs.getD i default).butt,.int .i64 (xs.getD i default).line,.int .i64 (xs.getD i default).st]) rfl zq rfl (rd.eat i zO zO) ?_;refine jct (vs:=[.bool (ys.getD i default).butt,.int .i64 (ys.getD i default).line,.int .i64 (ys.getD i default).st]) rfl zq rfl (rd2.eat i zO zO) ?_;refine k_neqC rfl zq zK (fun hc=>?_) (fun hc=>?_)
   ·refine D169 ?_;refine jab (h) rfl Tryz.func70 rfl jaa ?_;refine D5 ?_
    exact ⟨rfl,IsB.no fun e=>hc (by rw [e];exact ⟨rfl,rfl,rfl⟩)⟩
   ·refine D152 ?_;refine D174 ?_
    exact m.weak jaa (hnext _ _ _ zO ⟨i+1,rfl,by omega,fun j hj=>by
     by_cases e:j<i
     ·exact heq j e
     ·obtain rfl:j=i:=by omega
      obtain ⟨e1,e2,e3⟩:=hc
      cases hx:xs.getD j default
      cases hy:ys.getD j default
      rw [hx,hy] at e1 e2 e3
      simp only at e1 e2 e3
      rw [e1,e2,e3],exU rfl,rfl⟩)
  ·refine D175 ?_;refine D156 ?_;refine jab (h) rfl Tryz.func70 rfl jaa ?_;refine D5 ?_
   exact ⟨rfl,IsB.yes (jiF zO fun j hj=>heq j zO)⟩
theorem f69_r (m:Md Tryz.prog B) (h:Hp) {b:Tb} {ps:Option Addr} {ns ks:Nat} {pw:Option Addr} {nw cw:Nat} {pb:Option Addr} {nb cb:Nat} (ra:RawTb B h b ps ns ks pw nw cw pb nb cb):FnC m 69 #[tbV b ps ns ks pw nw cw pb nb cb] h fun v h'=> ∃new,h'=h++new∧ ∃p n c,v= .tuple [.slice p n c,.int .i64 (tbS b)].toArray∧n=(if tbS b=0 then jae b else []).length∧n≤c∧RdS B new 3 (.slice p n c) n (encs (if tbS b=0 then jae b else [])):=by
 refine jad Tryz.func69 rfl rfl (l:=(tbV b ps ns ks pw nw cw pb nb cb)::uu11) rfl ?_
 intro cf cs K hK
 refine rs3 ?_;refine jaP rfl zq (fun q1=>k_hp (jac ?_));refine Zs ?_;refine D153 ?_;refine D186 ?_;refine jai (Post:=fun v=>v=_) rfl zq zK (fun H' hH=>f66_r m H' (ra.keeps (sq hH))) ?_
 rintro v rfl;refine D232 ?_
 refine jaW rfl zq (fun hc=>?_) (fun hc=>?_)
 ·refine D151 ?_;refine D197 ?_;refine D149 ?_;refine jab (h) rfl Tryz.func69 rfl jaa ?_;refine D5 ?_
  exact E39
 ·refine D152 ?_;refine D212 ?_
  have hz:tbS b=0:=by omega
  refine ja0 rfl zq zK (Post:=fun w new=>OwnS 37 3 w (jae b).length (encs (jae b)) new) (fun H' hH=>f26_c m H' ((ra.rd (ja8.1 hz)).keeps (sq hH))) ?_;rintro w n11 o11;refine jaK (jac ?_);obtain ⟨p11,c11,rfl,hc11,r11⟩:=jaq (B:=B) o11
  refine D194 ?_;refine jab (h++n11) rfl Tryz.func69 rfl jaa ?_;refine D5 ?_
  exact ⟨n11,rfl,p11,_,c11,by rw [hz],by rw [if_pos hz],hc11,by rw [if_pos hz];exact r11⟩
theorem f14_t (h:Hp) {b:Tb} {ps:Option Addr} {ns ks:Nat} {pw:Option Addr} {nw cw:Nat} {pb:Option Addr} {nb cb:Nat} (rds:RdS B h 1 (.slice ps ns ks) ns (encs b.sts)) (hcs:ns≤ks) (rdw:RdLn B h (.slice pw nw cw) nw b.waters) (rdb:RdLn B h (.slice pb nb cb) nb b.butts) (s:Str) (x:Int):(Md.starC Tryz.prog B).R (jk8 Tryz.prog B fun v _=>v= .bool true) (G (Frame.enter Tryz.prog 14 #[tbV b ps ns ks pw nw cw pb nb cb,str s,.int .i64 x] .normal) []) h:=by
 refine jm9 Tryz.func14 rfl rfl (l:=[tbV b ps ns ks pw nw cw pb nb cb,str s,.int .i64 x,undef,undef,undef,undef,undef,undef,undef,undef,undef,undef,undef,undef,undef,undef,undef,undef,undef,undef,undef,undef,undef,undef,undef,undef,undef,undef,undef,undef,undef,undef,undef,undef,undef,undef,undef,undef,undef,undef,undef,undef,undef,undef,undef,undef,undef,undef,undef,undef,undef,undef,undef,undef,undef,undef,undef,undef,undef,undef,undef,undef,undef,undef,undef,undef,undef,undef,undef,undef,undef,undef,undef,undef,undef,undef,undef,undef,undef,undef,undef,undef,undef,undef,undef,undef,undef,undef,undef,undef,undef,undef,undef,undef,undef,undef,undef,undef,undef,undef,undef,undef,undef,undef]) rfl ?_;refine rs2 ?_
 refine jaP rfl zq (fun q1=>k_hp (jac ?_));refine D153 ?_;refine D199 ?_;refine jai (Post:=fun v=>IsB _ v) rfl zq zK (fun H' hH=>f19_c _ H' (rds.keeps (sq hH)) hcs (rdw.keeps (sq hH)) (rdb.keeps (sq hH))) ?_
 rintro v (⟨hc,rfl⟩|⟨hc,rfl⟩)
 ·refine D222 ?_;refine D217 ?_;refine rs2 ?_;refine jcX rfl zq zK (f20_c _) ?_
  rintro v h' ⟨nF,rfl,rfl⟩;refine D225 ?_;refine jkx rfl Tryz.func14 zK rfl ?_
  rfl
 ·refine D9 ?_
  have ra:=raw_of rds hcs rdw rdb hc
  refine Z2 ?_;refine jjM rfl rfl und9 ?_
  refine jaC rfl rfl (fun hc=>?_) (fun hc=>?_)
  ·refine D10 ?_;refine D151 ?_;refine rs2 ?_;refine jcX rfl zq zK (f20_c _) ?_
   rintro v h' ⟨nF,rfl,rfl⟩;refine D225 ?_;refine jkx rfl Tryz.func14 zK rfl ?_
   rfl
  ·refine D190 ?_;refine rs11 ?_;refine Zs ?_;refine jai (Post:=fun v=>v= .tuple [.int .i64 (if jaE s then jj1 (meaS s) else 0),.int .i64 (if jaE s then jnZ (meaS s) else 0),.int .i64 (if jaE s then ((meaS s).length:Int) else 0),.int .i64 (if jaE s then 0 else 3)].toArray) rfl zq zK (fun H' hH=>f62_c _ H' s zO) ?_
   rintro v rfl;refine D9 ?_;refine Z8 ?_;refine D0 ?_;refine rs11 ?_;refine Zs ?_;refine jai (Post:=fun v=>v= .tuple [.int .i64 (if jaE s then jj1 (meaS s) else 0),.int .i64 (if jaE s then jnZ (meaS s) else 0),.int .i64 (if jaE s then ((meaS s).length:Int) else 0),.int .i64 (if jaE s then 0 else 3)].toArray) rfl zq zK (fun H' hH=>f64_c _ H' s zO) ?_
   rintro v rfl;refine D9 ?_;refine Z8 ?_;refine D153 ?_;refine D2 ?_;refine jas [(0,.pure),(1,.pure),(2,.pure),(3,.pure),(4,.pure),(5,.pure),(6,.pure),(7,.pure),(8,.pure),(9,.pure),(10,.pure),(11,.pure),(12,.pure),(13,.pure),(14,.pure),(15,.pure),(16,.pure),(17,.pure),(18,.pure),(19,.read),(21,.read),(20,.keep),(22,.keep),(23,.pure),(24,.pure)] zK zK (List.Sublist.refl _) ?_;refine Z2 ?_;refine jeZ rfl zq rfl ?_;refine Z3 ?_;refine jeZ rfl rfl rfl ?_;refine D10 ?_;refine Z3 ?_;refine jeZ rfl rfl rfl ?_;refine D10 ?_;refine Z3 ?_;refine jeZ rfl rfl rfl ?_;refine D10 ?_;refine Z3 ?_;refine jai (Post:=fun v=>v= .int .i64 (tbS b)) rfl rfl zK (fun H' hH=>f65_r _ H' (ra.keeps (sq hH))) ?_
   rintro v rfl;refine D9 ?_;refine jai (Post:=fun v=>v= .int .i64 (tbS b)) rfl rfl zK (fun H' hH=>f66_r _ H' (ra.keeps (sq hH))) ?_
   rintro v rfl;refine D9 ?_;refine jeZ rfl rfl rfl ?_;refine D190 ?_;refine D199 ?_;refine jai (Post:=fun v=>v= .tuple [str (if 0≤x∧x≤959 then figN x.toNat else []),.int .i64 (if 0≤x∧x≤959 then 0 else 1)].toArray) rfl zq zK (fun H' hH=>f59_c _ H' x) ?_
   rintro v rfl;refine D222 ?_;refine D0 ?_;refine D199 ?_;refine jai (Post:=fun v=>v= .tuple [str (if 0≤x∧x≤959 then figN x.toNat else []),.int .i64 (if 0≤x∧x≤959 then 0 else 1)].toArray) rfl zq zK (fun H' hH=>f67_c _ H' x) ?_
   rintro v rfl;refine D222 ?_;refine D153 ?_;refine rs8 ?_;refine Z2 ?_;refine jez rfl zq rfl ?_;refine Z3 ?_;refine jeZ rfl rfl rfl ?_;refine D190 ?_;refine D199 ?_;refine ja0 rfl zq zK (Post:=fun v new=> ∃p n c,v= .tuple [.slice p n c,.int .i64 (tbS b)].toArray∧n=(if tbS b=0 then jae b else []).length∧n≤c∧RdS B new 3 (.slice p n c) n (encs (if tbS b=0 then jae b else []))) (fun H' hH=>f68_r _ H' (ra.keeps (sq hH))) ?_
   rintro v nP ⟨pP,lP,cP,rfl,hlP,hcP,rP⟩;refine jaK (jac ?_);refine Z4 ?_;refine D0 ?_;refine D199 ?_;refine ja0 rfl zq zK (Post:=fun v new=> ∃p n c,v= .tuple [.slice p n c,.int .i64 (tbS b)].toArray∧n=(if tbS b=0 then jae b else []).length∧n≤c∧RdS B new 3 (.slice p n c) n (encs (if tbS b=0 then jae b else []))) (fun H' hH=>f69_r _ H' (ra.keeps (sq hH))) ?_
   rintro v nR ⟨pR,lR,cR,rfl,hlR,hcR,rR⟩;refine jaK (jac ?_);refine Z4 ?_;refine D153 ?_;refine D83 ?_;refine Z2 ?_;refine jai (Post:=fun v=>IsB _ v) rfl zq zK (fun H' hH=>f70_c _ H' (rP.keeps (sq hH)) (by rw [hlP];split;have:=cells_le (ra.rd (ja8.1 zD));omega;simp) (rR.keeps (sq hH))) ?_
   rintro v (⟨hc,rfl⟩|⟨hc,rfl⟩)
   ·refine D9 ?_;refine Z3 ?_;refine jej rfl rfl rfl ?_;refine D13 ?_;refine Zs ?_;refine jcX rfl rfl zK (f20_c _) ?_
    rintro v h' ⟨nF,rfl,rfl⟩;refine D9 ?_;refine D236 ?_;refine jkx rfl Tryz.func14 zK rfl ?_
    rfl
   ·refine D9 ?_
    exact absurd rfl hc
end Go.Proofs
