/- A part of the proof of a law. Condition of each theorem: as its statement says. -/
import Derived.Test.YtggpepeiedkbbaaGreatDoorVN10
set_option linter.all false
variable {p p2 ps pw pb:Option Go.Addr} {g xs ys l:List Int} {S h h' H:Go.Lo.Hp} {B:Array Go.Obj} {n i j k ns ks nw cw nb cb:Nat} {P:Go.Program} {b:Go.Lo.Tb}
set_option maxHeartbeats 4000000
set_option maxRecDepth 100000
set_option synthInstance.maxHeartbeats 1000000
set_option synthInstance.maxSize 100000
namespace Go.Lo
def pW:Option SS→WS
 |none=> .idle
 |some (.m _ p)=>p
 |some (.w _ _ g _)=>g
section
variable {p:WS} {g g':WS}
end
end Go.Lo
namespace Go.Proofs
open Go.Lo
open Go.Conc (G)
section
end
theorem jlO {p:Prop} {v:Value} (h:IsB p v) (k: ¬p):v= .bool false:=h.elim (fun x=>absurd x.1 k) fun x=>x.2
section
theorem jcE (xs:List Int) (k:Nat) (h:k<xs.length):xs.drop k=xs.getD k 0::xs.drop (k+1):=by
 rw [List.drop_eq_getElem_cons h,List.getD_eq_getElem?_getD,List.getElem?_eq_getElem h];rfl
theorem f35_c (m:Md Tryz.prog B) (h:Hp) {c:Nat} (x:Int) (rd:RdS B h 1 (.slice p n c) n (jat xs)) (hn:n≤1000000):FnC m 35 #[.slice p n c,.int .i64 x] h fun v h'=>h'=h∧IsB (x∈xs) v:=by
 have hl:=rd.ilen
 refine jae Tryz.func35 rfl rfl (l:=(.slice p n c)::(.int .i64 x)::uu16) rfl ?_
 intro cf cs K hK
 refine Z10 ?_
 refine jaj (fun nn l h'=> ∃(k:Nat),nn=n-k∧(k≤n)∧(∀i,i<k→xs.getD i 0≠x)∧(∃U:Nat→Value,l=((.slice p n c)::(.int .i64 x)::(U 2)::(U 3)::(U 4)::(.int .i64 (k:Int))::vw12 U 6 []))∧h=h') _ ⟨0,rfl,by omega,by omega,exU rfl,rfl⟩ ?_;rintro nn l h' ⟨k,rfl,hk,he,⟨U,rfl⟩,rfl⟩ hnext;refine Z6 ?_
 refine jal rfl zq (fun hc=>?_) (fun hc=>?_)
 ·refine Z9 ?_
  obtain ⟨rd_b,rd_o,rfl⟩:=rd.ptr zO
  refine D7 ?_;refine jbc rfl zq (rd.iat k zO zO) ?_;refine Zs ?_
  refine jaL rfl zq (fun hc=>?_) (fun hc=>?_)
  ·refine Z7 ?_;refine jac (h) rfl Tryz.func35 rfl jaa ?_;refine Zs ?_
   exact ⟨rfl,IsB.yes (jcZ.2 ⟨k,by omega,by assumption⟩)⟩
  ·refine Z9 ?_
   exact m.weak jaa (hnext _ _ _ zO ⟨k+1,rfl,by omega,fun i hi=>by
    rcases Nat.lt_or_ge i k with h1|h1
    ·exact he i h1
    ·obtain rfl:i=k:=by omega
     assumption,exU rfl,rfl⟩)
 ·refine Z8 ?_;refine jac (h) rfl Tryz.func35 rfl jaa ?_;refine Zs ?_
  exact ⟨rfl,IsB.no fun e=>by
   obtain ⟨i,h1,h2⟩:=jcZ.1 e
   exact he i zO h2⟩
theorem f107_c (m:Md Tryz.prog B) (h:Hp) {c n2 c2:Nat} (rd:RdS B h 1 (.slice p n c) n (jat xs)) (hn:n≤1000000) (rd2:RdS B h 1 (.slice p2 n2 c2) n2 (jat ys)):FnC m 107 #[.slice p n c,.slice p2 n2 c2] h fun v h'=>h'=h∧IsB (jba xs ys=true) v:=by
 have hl:=rd.ilen
 have hl2:=rd2.ilen
 refine jae Tryz.func107 rfl rfl (l:=(.slice p n c)::(.slice p2 n2 c2)::uu39) rfl ?_
 intro cf cs K hK
 refine Z10 ?_
 refine jaj (fun nn l h'=> ∃(k:Nat),nn=n-k∧(k≤n)∧(k≤n2)∧(jba xs ys=jba (xs.drop k) (ys.drop k))∧(∃U:Nat→Value,l=((.slice p n c)::(.slice p2 n2 c2)::(U 2)::(U 3)::(U 4)::(.int .i64 (k:Int))::(U 6)::vw34 U 7 []))∧h=h') _ ⟨0,rfl,by omega,by omega,rfl,exU rfl,rfl⟩ ?_;rintro nn l h' ⟨k,rfl,hk,hk2,he,⟨U,rfl⟩,rfl⟩ hnext;refine Z2 ?_;refine jpv ?_;refine Z3 ?_
 refine jal rfl zq (fun hc=>?_) (fun hc=>?_)
 ·refine Z3 ?_;refine jhh rfl rfl ?_
  refine jal rfl rfl (fun hc=>?_) (fun hc=>?_)
  ·refine Z7 ?_;refine jar [Zp 0,Zp 1,Zp 2,Zp 4,Zp 5,Zp 6,Zr 3,Zr 7,Zp 8] zK zK (List.Sublist.refl _) ?_;refine Z2 ?_
   obtain ⟨rd_b,rd_o,rfl⟩:=rd.ptr zO
   refine D7 ?_;refine Z2 ?_
   obtain ⟨rd2_b,rd2_o,rfl⟩:=rd2.ptr zO
   refine D7 ?_;refine jbc rfl zq (rd.iat k zO zO) ?_;refine jbc rfl zq (rd2.iat k zO zO) ?_
   refine ja9 rfl zq (fun hc=>?_) (fun hc=>?_)
   ·refine Z3 ?_;refine jar [Zp 0,Zp 1,Zp 2,Zp 4,Zp 5,Zp 6,Zr 3,Zr 7,Zp 8,Zp 9] zK zK (List.Sublist.refl _) ?_;refine Z2 ?_;refine D7 ?_;refine Z2 ?_;refine D7 ?_;refine jbc rfl zq (rd.iat k zO zO) ?_;refine jbc rfl zq (rd2.iat k zO zO) ?_
    refine jal rfl zq (fun hc=>?_) (fun hc=>?_)
    ·refine Z3 ?_;refine jac (h) rfl Tryz.func107 rfl jaa ?_;refine Zs ?_
     exact ⟨rfl,IsB.yes (by rw [he,jcE xs k zO,jcE ys k zO,jba,if_neg zD];exact decide_eq_true zD)⟩
    ·refine Z3 ?_;refine jac (h) rfl Tryz.func107 rfl jaa ?_;refine Zs ?_
     exact ⟨rfl,IsB.no (by rw [he,jcE xs k zO,jcE ys k zO,jba,if_neg zD];rw [decide_eq_true_iff];omega)⟩
   ·refine Z9 ?_
    exact m.weak jaa (hnext _ _ _ zO ⟨k+1,rfl,by omega,by omega,by
     rw [he,jcE xs k zO,jcE ys k zO,jba,if_pos zD],exU rfl,rfl⟩)
  ·refine Z10 ?_
   refine jal rfl zq (fun hc=>?_) (fun hc=>?_);all_goals
    refine Z3 ?_;refine jac (h) rfl Tryz.func107 rfl jaa ?_;refine Zs ?_
    exact E63
 ·refine Z15 ?_
  refine jal rfl zq (fun hc=>?_) (fun hc=>?_);all_goals
   refine Z3 ?_;refine jac (h) rfl Tryz.func107 rfl jaa ?_;refine Zs ?_
   exact E63
theorem f48_c (m:Md Tryz.prog B) (h:Hp) {c n2 c2:Nat} (rd:RdS B h 1 (.slice p n c) n (jat xs)) (hn:n≤1000000) (rd2:RdS B h 1 (.slice p2 n2 c2) n2 (jat ys)):FnC m 48 #[.slice p n c,.slice p2 n2 c2] h fun v h'=>h'=h∧IsB (jdD xs ys) v:=by
 have hl:=rd.ilen
 have hl2:=rd2.ilen
 refine jae Tryz.func48 rfl rfl (l:=[.slice p n c,.slice p2 n2 c2,undef,undef,undef,undef,undef,undef,undef,undef,undef,undef,undef,undef,undef,undef,undef,undef,undef,undef,undef,undef]) rfl ?_
 intro cf cs K hK
 refine Z5 ?_;refine ja4 [Zf 0,Zf 1,Zf 2,Zf 3,Zf 4,Zf 5,Zf 6,Zf 7,Zf 8,Zf 9,Zf 10,Zf 11,Zf 12,Zf 13,Zf 14,Zf 15,Zf 16,Zf 17] zK zK ?_;refine Z4 ?_
 refine jal rfl zq (fun hc=>?_) (fun hc=>?_)
 ·refine Z15 ?_;refine jac (h) rfl Tryz.func48 rfl jaa ?_;refine Zs ?_
  unfold jdD
  rw [hl,hl2];exact E65
 ·refine Z2 ?_;refine jhh rfl rfl ?_;refine Zs ?_;refine jhh rfl rfl ?_
  refine jaL rfl rfl (fun hc=>?_) (fun hc=>?_)
  ·refine Z3 ?_;refine jah (Post:=fun v=>IsB _ v) rfl rfl zK (fun H' hH=>f107_c m H' (rd.keeps hH) hn (rd2.keeps hH)) ?_
   rintro v (⟨hc,rfl⟩|⟨hc,rfl⟩);all_goals
    refine Z6 ?_;refine jac (h) rfl Tryz.func48 rfl jaa ?_;refine Zs ?_
    unfold jdD
    rw [hl,hl2];exact E65
  ·refine Z9 ?_;refine jac (h) rfl Tryz.func48 rfl jaa ?_;refine Zs ?_
   unfold jdD
   rw [hl,hl2];exact E65
end
section
theorem asc_at (h:Asc xs) (hij:i<j) (hj:j<xs.length):xs.getD i 0<xs.getD j 0:=by
 rw [List.getD_eq_getElem?_getD,List.getD_eq_getElem?_getD,List.getElem?_eq_getElem (show i<xs.length by omega),List.getElem?_eq_getElem hj];exact List.pairwise_iff_getElem.1 h i j zO hj hij
theorem f44_c (m:Md Tryz.prog B) (h:Hp) {c:Nat} (rd:RdS B h 1 (.slice p n c) n (jat xs)) (hn:n≤1000) {N:Int} (hN:0≤N∧N≤1000) (ha:Asc xs) (hr: ∀x∈xs,0≤x∧x≤N-1):FnC m 44 #[.slice p n c,.int .i64 N] h fun v h'=>h'=h∧v= .int .i64 0:=by
 have hl:=rd.ilen
 refine jae Tryz.func44 rfl rfl (l:=[.slice p n c,.int .i64 N,undef,undef,undef,undef,undef,undef,undef,undef,undef,undef,undef,undef,undef,undef,undef,undef,undef,undef,undef,undef,undef,undef,undef,undef,undef,undef,undef,undef,undef,undef,undef,undef]) rfl ?_
 intro cf cs K hK
 refine Z10 ?_
 refine jaj (fun nn l h'=> ∃(k:Nat),nn=n-k∧(k≤n)∧(∃U:Nat→Value,l=((.slice p n c)::(.int .i64 N)::(U 2)::(U 3)::(U 4)::(.int .i64 (k:Int))::(U 6)::vw27 U 7 []))∧h=h') _ ⟨0,rfl,by omega,exU rfl,rfl⟩ ?_;rintro nn l h' ⟨k,rfl,hk,⟨U,rfl⟩,rfl⟩ hnext;refine Z6 ?_
 refine jal rfl zq (fun hc=>?_) (fun hc=>?_)
 ·refine Z10 ?_
  obtain ⟨rd_b,rd_o,rfl⟩:=rd.ptr zO
  refine D7 ?_;refine jbc rfl zq (rd.iat k zO zO) ?_;refine Z2 ?_;refine D38 ?_
  rintro v (⟨hc,rfl⟩|⟨hc,rfl⟩)
  ·refine Z6 ?_;refine jar [Zp 0,Zp 1,Zp 2,Zp 3,Zp 4,Zp 5,Zp 7,Zp 8,Zp 9,Zp 10,Zr 6,Zr 11,Zp 12,Zp 13] zK zK (List.Sublist.refl _) ?_;refine Zs ?_
   refine jaJ rfl zq (fun hc=>?_) (fun hc=>?_)
   ·refine Z3 ?_;refine jci rfl rfl (by first|rfl|assumption) zO zO ?_;refine Z2 ?_;refine D104 ?_;refine jci rfl rfl (by first|rfl|assumption) zO zO ?_;refine jbc rfl rfl (rd.iat k zO zO) ?_;refine jbc rfl rfl (rd.iat (k-1) zO zO) ?_
    have hlt:=asc_at ha (i:=k-1) (j:=k) zO zO
    refine jeg rfl rfl (fun hc=>?_) (fun hc=>?_)
    ·exfalso
     omega
    ·refine Z10 ?_
     exact E6
   ·refine Z21 ?_
    exact E6
  ·refine Zs ?_
   exact absurd (hr _ (jcZ.2 ⟨k,by omega,rfl⟩)) hc
 ·refine Z8 ?_;refine jac (h) rfl Tryz.func44 rfl jaa ?_;refine Zs ?_
  exact ⟨rfl,rfl⟩
theorem f49_c (m:Md Tryz.prog B) (h:Hp) {c:Nat} (rd:RdS B h 1 (.slice p n c) n (jat xs)) (hn:n≤1000) (hnc:n≤c) (i:Nat) (hi:i<n):FnC m 49 #[.slice p n c,.int .i64 (i:Int)] h fun v h'=> ∃nw,h'=h++nw∧OwnS 3 1 v (n-1) (jat (xs.take i++xs.drop (i+1))) nw:=by
 have hl:=rd.ilen
 refine jae Tryz.func49 rfl rfl (l:=(.slice p n c)::(.int .i64 (i:Int))::uu13) rfl ?_
 intro cf cs K hK
 refine Z5 ?_;refine jar [Zp 1,Zp 2,Zp 3,Zp 5,Zp 6,Zp 7,Zp 8,Zk 0,Zf 4,Zf 9,Zp 10] zK zK (List.Sublist.refl _) ?_;refine Z2 ?_;refine jlH (b:=i) rfl zq rd.okp rfl zO ?_;refine Z3 ?_;refine jfU (a:=i+1) rfl zq rfl zO ?_
 refine jo4 kdq rfl zq (fun q5=>jas (jad ?_));refine jo5 (F:=h) rfl zq jaa OwnS.zero (rd.pre (m:=i) zO).up (fun u hu=>jhw _ u (List.mem_of_mem_take hu)) kdq zO zO (fun w9 n9 o9=>jad ?_);refine jo5 (F:=h) rfl zq jaa o9 (rd.cut (lo:=i+1) zO hnc).up (fun u hu=>jhw _ u (List.mem_of_mem_drop hu)) kdq zO zO (fun w8 n8 o8=>jad ?_);refine Z3 ?_;refine jac (h++n8) rfl Tryz.func49 rfl jaa ?_;refine Zs ?_
 refine ⟨n8,rfl,?_⟩
 have e:[]++(jat xs).take (i*1)++(jat xs).drop ((i+1)*1)=jat (xs.take i++xs.drop (i+1)):=by simp [List.map_take,List.map_drop]
 rw [e,show 0+i+(n-(i+1))=n-1 by omega] at o8
 exact o8
section
variable {m:Md P B} {l l':List Value}
end
section
variable {m:Md P B} {l l':List Value}
end
end
end Go.Proofs
namespace Go.Proofs
open Go.Lo
theorem asc_len (h:Asc xs) (hx: ∀x∈xs,0≤x∧x<n):xs.length≤n:=by
 have:=List.Nodup.length_le_of_subset (l₂:=jdP n) (jiW h) fun z hz=>by
  obtain ⟨h1,h2⟩:=hx z hz
  unfold jdP
  exact List.mem_map.2 ⟨z.toNat,List.mem_range.2 zO,by omega⟩
 rwa [jf1] at this
def jcK (b:Tb) (l:List Int):Nat→Tb
 |0=>b
 |k+1=>if (k:Int)∈l then jcK b l k else jbf (jcK b l k) ((jab b).getD k default) jdl
def je2 (b:Tb) (l:List Int):Tb:=jcK b l (jab b).length
def jjj (b:Tb) (l:List Int) (k:Nat) (d:Ce):Bool:=(List.range k).all fun (i:Nat)=>decide ((i:Int)∈l)||decide (d≠(jab b).getD i default)
theorem jqS {d:Ce}:jjj b l k d=true↔ ∀i,i<k→(i:Int)∈l∨d≠(jab b).getD i default:=by
 unfold jjj
 rw [List.all_eq_true];constructor
 ·intro h i hi
  have:=h i (List.mem_range.2 hi)
  simpa using this
 ·intro h i hi
  simpa using h i (List.mem_range.1 hi)
theorem jd4 {b:Tb} (ok:TbOk b) (l:List Int): ∀k,k≤(jab b).length→TbOk (jcK b l k)∧(∀d,jcb (jcK b l k) d=jcb b d)∧(jcK b l k).sts=b.sts∧(jcK b l k).wrong=b.wrong∧(jab (jcK b l k)=(jab b).filter (jjj b l k))∧(∀d,jcb b d=true→jjj b l k d=true→jel (jcK b l k) d=jel b d)∧(∀bt,(jaA (jcK b l k) bt).length=(jaA b bt).length)
 |0,_=>⟨ok,fun _=>rfl,rfl,rfl,by
   rw [List.filter_eq_self.2 fun d _=>by simp [jjj]];rfl,fun _ _ _=>rfl,fun _=>rfl⟩
 |k+1,hk=>by
  obtain ⟨h1,h2,h3,h4,h5,h6,h7⟩:=jd4 ok l k zO
  have hc:=(jgG (b:=b) (i:=k) zO).1
  have hsucc: ∀d,jjj b l (k+1) d=(jjj b l k d&&(decide ((k:Int)∈l)||decide (d≠(jab b).getD k default))):=fun d=>by
   unfold jjj
   rw [List.range_succ,List.all_append];simp
  unfold jcK
  by_cases e:(k:Int)∈l
  ·rw [if_pos e];refine ⟨h1,h2,h3,h4,?_,?_,h7⟩
   ·rw [h5];exact List.filter_congr fun d _=>by rw [hsucc];simp [e]
   ·intro d hd hl
    refine h6 d hd ?_
    rw [hsucc] at hl
    simp only [Bool.and_eq_true] at hl
    exact hl.1
  ·rw [if_neg e];have hc':jcb (jcK b l k) ((jab b).getD k default)=true:=by rw [h2];exact hc
   refine ⟨jgP h1 hc',fun d=>by rw [jnu,h2],(jcX _ _ _).1.trans h3,(jcX _ _ _).2.trans h4,?_,?_,fun bt=>(jns _ _ _ _).trans (h7 bt)⟩
   ·rw [jet h1 hc',h5,List.filter_filter];refine List.filter_congr fun d _=>?_
    rw [hsucc];simp [e,Bool.and_comm]
   ·intro d hd hl
    rw [hsucc] at hl
    simp only [Bool.and_eq_true,Bool.or_eq_true,decide_eq_true_eq] at hl
    have hne:d≠(jab b).getD k default:=by
     rcases hl.2 with h|h
     ·exact absurd h e
     ·exact h
    rw [jhY h1 hc' (by rw [h2];exact hd) hne];exact h6 d hd hl.1
theorem jea {α:Type} (q:α→Bool): ∀L:List α,L.filter q=jaZ (L.map q) L
 |[]=>rfl
 |a::L=>by
  rw [List.filter_cons,List.map_cons];cases h:q a with
  |true=>simp [jaZ,jea q L]
  |false=>simp [jaZ,jea q L]
theorem jh9 {α β:Type} (f:α→β): ∀(p:List Bool) (L:List α),(jaZ p L).map f=jaZ p (L.map f)
 |[],L=>by cases L<;>rfl
 |b::p,[]=>by cases b<;>rfl
 |true::p,a::L=>by simp [jaZ,jh9 f p L]
 |false::p,a::L=>by simp [jaZ,jh9 f p L]
theorem jqN {α β:Type} [Inhabited α] (f:α→β) (L:List α):L.map f=(List.range L.length).map fun i=>f (L.getD i default):=by
 apply List.ext_getElem
 ·simp
 ·intro i h1 h2
  have hi:i<L.length:=by simpa using h1
  simp [List.getD_eq_getElem?_getD,List.getElem?_eq_getElem hi]
theorem cdT_only (ok:TbOk b) (hl: ∀z∈l,0≤z):cdT (je2 b l)=jaZ (jdT (jbv l) (jab b).length) (cdT b):=by
 obtain ⟨_,_,_,_,h5,h6,_⟩:=jd4 ok l _ (Nat.le_refl _)
 have e1:(jab b).map (jjj b l (jab b).length)=jdT (jbv l) (jab b).length:=by
  rw [jqN,jdT];refine List.map_congr_left fun i hi=>?_
  have hi':=List.mem_range.1 hi
  rw [jfC hl,Bool.eq_iff_iff,jqS,decide_eq_true_eq];constructor
  ·intro h
   rcases h i hi' with h|h
   ·exact h
   ·exact absurd rfl h
  ·intro h j hj
   by_cases e:j=i
   ·subst e
    exact .inl h
   ·exact .inr fun g=>e (jmf hj hi' g.symm)
 unfold je2
 rw [cdT,h5,jea,e1,cdT,←jh9];refine List.map_congr_left fun d hd=>?_
 have hm:d∈(jab b).filter (jjj b l (jab b).length):=by rw [jea,e1];exact hd
 rw [List.mem_filter] at hm
 exact h6 d (jbs hm.1).1 hm.2
theorem jmJ (ok:TbOk b) (l:List Int):TbOk (je2 b l):=(jd4 ok l _ (Nat.le_refl _)).1
theorem joH (ok:TbOk b) (hl: ∀z∈l,0≤z):jbn (cdT (je2 b l))=jbn (jaZ (jdT (jbv l) (jab b).length) (cdT b)):=by rw [cdT_only ok hl]
end Go.Proofs
namespace Go.Lo
open Go.Proofs
def gp (n b i:Nat):Str:=if b.testBit i then [63] else (ji4 (jg6 n) 45).getD i []
theorem meaS_in {s:Str} {z:Int} (h:z∈jbz s):0≤z∧z≤959:=by
 unfold jbz at h
 split at h
 ·rw [jhf] at h
  obtain ⟨k,hk,rfl⟩:=List.mem_map.1 h
  have:=List.mem_range.1 (List.mem_filter.1 hk).1
  omega
 ·cases h
end Go.Lo
namespace Go.Proofs
open Go.Lo
open Go.Conc (G)
section
variable [LaidO B]
theorem only_yes (h:(k:Int)∈l):jcK b l (k+1)=jcK b l k:=by rw [jcK,if_pos h]
theorem only_no (h:(k:Int)∉l):jcK b l (k+1)=jbf (jcK b l k) ((jab b).getD k default) jdl:=by rw [jcK,if_neg h]
theorem f46_k (m:Md Tryz.prog B) (H:Hp) (ra:RawTb B h b ps ns ks pw nw cw pb nb cb) (hs:h.Sublist H) (ok:TbOk b) {c:Nat} (rl:RdS B H 1 (.slice p n c) n (jat xs)) (hn:n≤1000):FnC m 46 #[tbV b ps ns ks pw nw cw pb nb cb,.slice p n c] H fun v h'=> ∃new,h'=H++new∧ ∃pw1 cw1 pb1 cb1,v=tbV (je2 b xs) ps ns ks pw1 nw cw1 pb1 nb cb1∧ ∀H2,h.Sublist H2→new.Sublist H2→RawTb B H2 (je2 b xs) ps ns ks pw1 nw cw1 pb1 nb cb1:=by
 have rd:=(ra.keeps hs).rd ok
 have h12:=jbj ok
 refine jae Tryz.func46 rfl rfl (l:=(tbV b ps ns ks pw nw cw pb nb cb)::(.slice p n c)::uu26) rfl ?_
 intro cf cs K hK
 refine Z2 ?_
 refine jaR rfl zq (fun q1=>jas (jad ?_));refine jaw rfl zq (fun q4=>jas (jad ?_));refine Z2 ?_;refine jar [Zr 0,Zr 2,Zc 1,Za 3,Zp 4,Zf 5] zK zK (List.Sublist.refl _) ?_;refine Z2 ?_;refine jaN rfl zq zK (Post:=fun w new=>OwnS 37 3 w (jab b).length (jax (jab b)) new) (fun H' hH=>f26_c _ H' (rd.keeps (sq hH))) ?_
 rintro w n9 o9;refine jaH (jad ?_);obtain ⟨p9,c9,rfl,hc9,r9⟩:=jao (B:=B) o9
 refine jaw rfl zq (fun q6=>jas (jad ?_));refine Zs ?_;refine D5 ?_;refine Z7 ?_;refine m.weak (h':=H++[⟨true,q4,.cells [.int .i64 0,.slice none 0 0,.slice none 0 0,.slice none 0 0].toArray 25 (0,0)⟩]++n9++[⟨true,q6,.cells (tbL b ps ns ks pw nw cw pb nb cb).toArray 25 (0,0)⟩]) jaa ?_
 refine jaj (fun nn l h'=> ∃(k:Nat) (pw1:Option Addr) (cw1:Nat) (pb1:Option Addr) (cb1:Nat) (M:Hp),nn=(jab b).length-k∧(k≤(jab b).length)∧(∀H2,h.Sublist H2→M.Sublist H2→RawTb B H2 (jcK b xs k) ps ns ks pw1 nw cw1 pb1 nb cb1)∧(∃U:Nat→Value,l=((tbV b ps ns ks pw nw cw pb nb cb)::(.slice p n c)::(U 2)::(U 3)::(.pointer (some ⟨q4,0,none⟩))::(.slice p9 (jab b).length c9)::(.pointer (some ⟨q6,0,none⟩))::(.int .i64 (k:Int))::vw20 U 8 []))∧H++[⟨true,q4,.cells [.int .i64 0,.slice none 0 0,.slice none 0 0,.slice none 0 0].toArray 25 (0,0)⟩]++n9++[⟨true,q6,.cells (tbL (jcK b xs k) ps ns ks pw1 nw cw1 pb1 nb cb1).toArray 25 (0,0)⟩]++M=h') _ ⟨0,pw,cw,pb,cb,[],rfl,by omega,fun H2 e1 _=>ra.keeps e1,exU rfl,(by rw [List.append_nil];rfl)⟩ ?_;rintro nn l h' ⟨k,pw1,cw1,pb1,cb1,M,rfl,hk,rk,⟨U,rfl⟩,rfl⟩ hnext;obtain ⟨okk,hhk,hsk,hwk,_,_,_⟩:=jd4 ok xs k hk
 refine Z6 ?_
 refine jal rfl zq (fun hc=>?_) (fun hc=>?_)
 ·refine Z9 ?_;refine jah (Post:=fun v=>IsB _ v) rfl zq zK (fun H' hH=>f35_c m H' _ (rl.keeps (sq hH)) zO) ?_
  rintro v (⟨hc,rfl⟩|⟨hc,rfl⟩);refine Z5 ?_
  rotate_left
  refine Z4 ?_
  have hkl:k<(jab b).length:=by omega
  obtain ⟨c0,hcx⟩: ∃c0,c0=(jab b).getD k default:=⟨_,rfl⟩
  have hht:jcb (jcK b xs k) c0=true:=by rw [hhk,hcx];exact (jgG hkl).1
  obtain ⟨b9,o9_,rfl⟩:=r9.ptr zO
  refine jar [Zp 1,Zp 2,Zp 3,Zr 0,Zr 4,Zk 5,Zf 6] zK zK (List.Sublist.refl _) ?_;refine Z2 ?_;refine D10 ?_;refine Zs ?_;refine jcD (vs:=[.bool ((jab b).getD k default).butt,.int .i64 ((jab b).getD k default).line,.int .i64 ((jab b).getD k default).st]) rfl zq rfl (r9.eat k zO zO) ?_;rw [←hcx];refine jaN rfl zq zK (Post:=fun v nz=> ∃pw' cw' pb' cb',v=tbV (jbf (jcK b xs k) c0 jdl) ps ns ks pw' nw cw' pb' nb cb'∧RdLn B nz (.slice pw' nw cw') nw (jbf (jcK b xs k) c0 jdl).waters∧RdLn B nz (.slice pb' nb cb') nb (jbf (jcK b xs k) c0 jdl).butts) (fun H' hH=>f33_r m H' (rk H' (hs.trans (sq hH)) (sq hH)) okk hht jdl zA) ?_;rintro v nzW ⟨pwW,cwW,pbW,cbW,rfl,ewW,ebW⟩;refine jaH (jad ?_);rw [hcx] at ewW ebW
  rw [hcx];refine D5 ?_;refine Zs ?_
  all_goals
   refine Z6 ?_
  ·have hks:=only_no (b:=b) (l:=xs) (k:=k) hc
   rw [←hks];refine m.weak (h':=H++[⟨true,q4,.cells [.int .i64 0,.slice none 0 0,.slice none 0 0,.slice none 0 0].toArray 25 (0,0)⟩]++n9++[⟨true,q6,.cells (tbL (jcK b xs (k+1)) ps ns ks pwW nw cwW pbW nb cbW).toArray 25 (0,0)⟩]++(M++nzW)) (by rw [←List.append_assoc];exact jaa) ?_
   exact hnext _ _ _ zO ⟨k+1,pwW,cwW,pbW,cbW,M++nzW,rfl,by omega,by rw [hks];exact fun H2 e1 e2=>jmG (rk H2 e1 ((List.sublist_append_left _ _).trans e2)) (rk H2 e1 ((List.sublist_append_left _ _).trans e2)).sm zA ewW ebW (List.Sublist.refl _) ((List.sublist_append_right _ _).trans e2),exU rfl,rfl⟩
  ·have hks:=only_yes (b:=b) (l:=xs) (k:=k) hc
   rw [←hks];exact m.weak jaa (hnext _ _ _ zO ⟨k+1,pw1,cw1,pb1,cb1,M,rfl,by omega,by rw [hks];exact rk,exU rfl,rfl⟩)
 ·refine Z4 ?_
  obtain rfl:k=(jab b).length:=by omega
  refine Z2 ?_;refine jnd ?_;refine jac (H++M) rfl Tryz.func46 rfl jaa ?_;refine Zs ?_
  exact ⟨M,rfl,pw1,cw1,pb1,cb1,rfl,rk⟩
end
section
variable [LaidO B]
theorem jm9 (n:Nat) (hn:n<65536):jr4 .i64 (n:Int) 1=((n%2:Nat):Int):=by
 unfold jr4
 have e:(BitVec.ofInt IntKind.i64.bits (n:Int)&&&BitVec.ofInt IntKind.i64.bits 1).toNat=n%2:=by
  rw [BitVec.toNat_and,BitVec.ofInt_natCast,show (1:Int)=((1:Nat):Int) from rfl,BitVec.ofInt_natCast,BitVec.toNat_ofNat,BitVec.toNat_ofNat];rw [show IntKind.i64.bits=64 from rfl,Nat.mod_eq_of_lt (show n<2^64 by omega),Nat.mod_eq_of_lt (show 1<2^64 by decide),Nat.and_one_is_mod]
 rw [e];unfold IntKind.wrap
 simp [IntKind.bits,IntKind.signed]
 omega
theorem shr_i64 (s:Nat) (hi:i<64):(s:Int).fdiv (2^(min (i:Int).toNat IntKind.i64.bits))=((s/2^i:Nat):Int):=by
 rw [Int.toNat_natCast,show min i IntKind.i64.bits=i from Nat.min_eq_left (by show i≤64;omega)];rw [show ((2:Int)^i)=((2^i:Nat):Int) by simp,Int.fdiv_eq_ediv_of_nonneg _ (Int.natCast_nonneg _)];rfl
theorem jlN {p q:Prop} {w:Value} (h:IsB p w) (e:p↔q):IsB q w:=by
 rcases h with ⟨c,e2⟩|⟨c,e2⟩
 ·exact .inl ⟨e.1 c,e2⟩
 ·exact .inr ⟨fun x=>c (e.2 x),e2⟩
end
end Go.Proofs
namespace Go.Proofs
open Go.Lo
theorem jgs (ok:TbOk b) (hl: ∀z∈l,0≤z):jbn (cdT (je2 b l))=true↔jbG b (jbv l)=false:=by
 rw [joH ok hl,jbG];cases jbn (jaZ (jdT (jbv l) (jab b).length) (cdT b))<;>simp
theorem jhz (hl: ∀z∈l,0≤z):jbG b (jbv l)=false↔ ∃x,okA (cdT b) x=true∧x.length=(jab b).length∧ ∀i,i<(jab b).length→(xA x i≠none↔(i:Int)∈l):=by
 have hp:(jdT (jbv l) (jab b).length).length=(cdT b).length:=by rw [jcq,jav]
 have hp2:((jdT (jbv l) (jab b).length).map (!·)).length=(cdT b).length:=by rw [List.length_map];exact hp
 have e:jbG b (jbv l)=false↔jbn (jaZ (jdT (jbv l) (jab b).length) (cdT b))=true:=by
  rw [jbG];cases jbn (jaZ (jdT (jbv l) (jab b).length) (cdT b))<;>simp
 rw [e,←jeU hp];constructor
 ·intro h
  obtain ⟨x,hx⟩:=List.exists_mem_of_ne_nil _ h
  obtain ⟨h1,h2⟩:=(jhr hp2).1 hx
  have hlen:x.length=(jab b).length:=by rw [jb6 h1,jav]
  refine ⟨x,h1,hlen,fun i hi=>?_⟩
  have h3:(jdy x)[i]?=((jdT (jbv l) (jab b).length).map (!·))[i]?:=by rw [h2]
  rw [jdy,List.getElem?_map,List.getElem?_map,jdT,List.getElem?_map,List.getElem?_eq_getElem zO,List.getElem?_range hi] at h3
  simp only [Option.map_some,Option.some.injEq,jfC hl] at h3
  rw [xA,List.getD_eq_getElem?_getD,List.getElem?_eq_getElem zO,Option.getD_some];cases hv:x[i] with
  |none=>rw [hv] at h3;simpa using h3
  |some v=>rw [hv] at h3;simpa using h3
 ·rintro ⟨x,h1,hlen,h2⟩;refine List.ne_nil_of_mem (a:=x) ((jhr hp2).2 ⟨h1,?_⟩)
  refine List.ext_getElem (by simp [jdy,jdT,hlen]) fun i h3 h4=>?_
  have hi:i<(jab b).length:=by simpa [jdy,hlen] using h3
  have h5:=h2 i hi
  rw [xA,List.getD_eq_getElem?_getD,List.getElem?_eq_getElem zO,Option.getD_some] at h5
  simp only [jdy,jdT,List.getElem_map,List.getElem_range,jfC hl]
  by_cases hm:(i:Int)∈l
  ·have:=h5.2 hm
   rw [decide_eq_true hm];cases hv:x[i] with
   |none=>exact absurd hv this
   |some v=>rfl
  ·rw [decide_eq_false hm];cases hv:x[i] with
   |none=>rfl
   |some v=>exact absurd (h5.1 (by rw [hv];simp)) hm
def jo6 (l l1:List Int) (x y:Bo) (n:Nat):Bo:=(List.range n).map fun (i:Nat)=>if (i:Int)∈l then (if (i:Int)∈l1 then xA x i else xA y i) else none
theorem jpl {l1 l2:List Int} (h0: ∀z∈l,0≤z) (h1: ∀z∈l1,0≤z) (h2: ∀z∈l2,0≤z) (hu: ∀z∈l,z∈l1∨z∈l2) (hs: ∀i j:Nat,(i:Int)∈l1→(j:Int)∈l2→(dA (cdT b) i).st≠(dA (cdT b) j).st) (c1:jbG b (jbv l1)=false) (c2:jbG b (jbv l2)=false):jbG b (jbv l)=false:=by
 obtain ⟨x,ox,lx,ex⟩:=(jhz h1).1 c1
 obtain ⟨y,oy,ly,ey⟩:=(jhz h2).1 c2
 obtain ⟨_,cx,px⟩:=jdz.1 ox
 obtain ⟨_,cy,py⟩:=jdz.1 oy
 have hz: ∀i,xA (jo6 l l1 x y (jab b).length) i=if i<(jab b).length then (if (i:Int)∈l then (if (i:Int)∈l1 then xA x i else xA y i) else none) else none:=fun i=>by
  rw [xA,jo6,List.getD_eq_getElem?_getD,List.getElem?_map];by_cases hi:i<(jab b).length
  ·rw [List.getElem?_range hi,if_pos hi];rfl
  ·rw [List.getElem?_eq_none (by simpa using hi),if_neg hi];rfl
 have hat: ∀i v,xA (jo6 l l1 x y (jab b).length) i=some v→i<(jab b).length∧(i:Int)∈l∧(((i:Int)∈l1∧xA x i=some v)∨((i:Int)∉l1∧(i:Int)∈l2∧xA y i=some v)):=fun i v e=>by
  rw [hz] at e
  by_cases hi:i<(jab b).length
  ·rw [if_pos hi] at e
   by_cases hm:(i:Int)∈l
   ·rw [if_pos hm] at e
    by_cases h3:(i:Int)∈l1
    ·rw [if_pos h3] at e
     exact ⟨hi,hm,.inl ⟨h3,e⟩⟩
    ·rw [if_neg h3] at e
     exact ⟨hi,hm,.inr ⟨h3,(hu _ hm).resolve_left h3,e⟩⟩
   ·rw [if_neg hm] at e
    cases e
  ·rw [if_neg hi] at e
   cases e
 refine (jhz h0).2 ⟨jo6 l l1 x y (jab b).length,jdz.2 ⟨by simp [jo6,jav],fun i v e=>?_,fun i j v u hij ei ej=>?_⟩,by simp [jo6],fun i hi=>?_⟩
 ·obtain ⟨_,_,h⟩:=hat i v e
  rcases h with ⟨_,h⟩|⟨_,_,h⟩
  ·exact cx i v h
  ·exact cy i v h
 ·obtain ⟨_,_,h⟩:=hat i v ei
  obtain ⟨_,_,k⟩:=hat j u ej
  rcases h with ⟨h3,h4⟩|⟨_,h3,h4⟩
  ·rcases k with ⟨_,k4⟩|⟨_,k3,_⟩
   ·exact px i j v u hij h4 k4
   ·rw [riC,if_pos (hs i j h3 k3)]
  ·rcases k with ⟨k3,_⟩|⟨_,_,k4⟩
   ·rw [riC,if_pos (fun e=>hs j i k3 h3 e.symm)]
   ·exact py i j v u hij h4 k4
 ·rw [hz,if_pos hi];by_cases hm:(i:Int)∈l
  ·rw [if_pos hm];refine ⟨fun _=>hm,fun _=>?_⟩
   by_cases h3:(i:Int)∈l1
   ·rw [if_pos h3];exact (ex i hi).2 h3
   ·rw [if_neg h3];exact (ey i hi).2 ((hu _ hm).resolve_left h3)
  ·rw [if_neg hm];exact ⟨fun e=>absurd rfl e,fun e=>absurd e hm⟩
theorem jrT:jbG b (jbv [])=false:=by
 refine (jhz (l:=[]) (fun z h=>by cases h)).2 ⟨List.replicate (jab b).length none,jdz.2 ⟨by simp [jav],fun i v e=>?_,fun i j v u _ e _=>?_⟩,by simp,fun i hi=>?_⟩
 all_goals have hn: ∀i,xA (List.replicate (jab b).length (none:Option Int)) i=none:=fun i=>by rw [xA,List.getD_eq_getElem?_getD,List.getElem?_replicate];split<;>rfl
 ·rw [hn] at e
  cases e
 ·rw [hn] at e
  cases e
 ·rw [hn];simp
section
variable (hl:jeM (fun l=>jbG b (jbv l)=true) (jab b).length g)
include hl
theorem jrS:0<g.length:=by
 rcases Nat.eq_zero_or_pos g.length with h|h
 ·have:g=[]:=List.length_eq_zero_iff.1 h
  obtain ⟨_,_,hp,_⟩:=hl
  rw [this,jrT] at hp
  cases hp
 ·exact h
theorem jgE (hs:l.Sublist g) (hn:l.length<g.length):jbG b (jbv l)=false:=by
 obtain ⟨ha,hr,_,hm⟩:=hl
 cases h:jbG b (jbv l)
 ·rfl
 ·exact absurd (.inl hn) (hm l (ha.sublist hs) (fun x hx=>hr x (hs.subset hx)) h)
theorem jkN (hk:k<g.length):jbG b (jbv (g.take k++g.drop (k+1)))=false:=by
 refine jgE hl ?_ zN
 conv=>rhs;rw [←List.take_append_drop k g]
 exact (List.Sublist.refl _).append (by rw [show g.drop (k+1)=(g.drop k).drop 1 by rw [List.drop_drop]];exact List.drop_sublist _ _)
theorem jkO (hi:i<g.length) (hj:j<g.length):(dA (cdT b) (g.getD i 0).toNat).st=(dA (cdT b) (g.getD j 0).toNat).st:=by
 by_cases e:(dA (cdT b) (g.getD i 0).toNat).st=(dA (cdT b) (g.getD j 0).toNat).st
 ·exact e
 exfalso
 have hl0:=hl
 obtain ⟨ha,hr,hp,hm⟩:=hl
 have gi:g.getD i 0∈g:=by rw [List.getD_eq_getElem?_getD,List.getElem?_eq_getElem hi];exact List.getElem_mem hi
 have gj:g.getD j 0∈g:=by rw [List.getD_eq_getElem?_getD,List.getElem?_eq_getElem hj];exact List.getElem_mem hj
 have n1:(g.filter fun z=>decide ((dA (cdT b) z.toNat).st=(dA (cdT b) (g.getD i 0).toNat).st)).length<g.length:=
  List.length_filter_lt_length_iff_exists.2 ⟨_,gj,by simpa using fun h=>e h.symm⟩
 have n2:(g.filter fun z=>!decide ((dA (cdT b) z.toNat).st=(dA (cdT b) (g.getD i 0).toNat).st)).length<g.length:=
  List.length_filter_lt_length_iff_exists.2 ⟨_,gi,by simp⟩
 have c1:=jgE hl0 List.filter_sublist n1
 have c2:=jgE hl0 List.filter_sublist n2
 have:=jpl (l:=g) (fun z hz=>(hr z hz).1) (fun z hz=>(hr z (List.mem_filter.1 hz).1).1) (fun z hz=>(hr z (List.mem_filter.1 hz).1).1) (fun z hz=>by
  by_cases h:(dA (cdT b) z.toNat).st=(dA (cdT b) (g.getD i 0).toNat).st
  ·exact .inl (List.mem_filter.2 ⟨hz,by simpa using h⟩)
  ·exact .inr (List.mem_filter.2 ⟨hz,by simpa using h⟩)) (fun p q hp' hq' h=>by
  have h3:=(List.mem_filter.1 hp').2
  have h4:=(List.mem_filter.1 hq').2
  simp only [Int.toNat_natCast,decide_eq_true_eq,Bool.not_eq_true',decide_eq_false_iff_not] at h3 h4
  exact h4 (h▸h3)) c1 c2
 rw [this] at hp
 cases hp
end
end Go.Proofs
namespace Go.Proofs
open Go.Lo
open Go.Conc (G)
section
variable [LaidO B]
theorem jpR (hi:i<(jab b).length):(dA (cdT b) i).st=((jab b).getD i default).st:=by
 rw [dA,cdT,List.getD_eq_getElem?_getD,List.getElem?_map,List.getElem?_eq_getElem hi,List.getD_eq_getElem?_getD,List.getElem?_eq_getElem hi];rfl
theorem f9_t (h:Hp) (rds:RdS B h 1 (.slice ps ns ks) ns (jax b.sts)) (hcs:ns≤ks) (rdw:RdLn B h (.slice pw nw cw) nw b.waters) (rdb:RdLn B h (.slice pb nb cb) nb b.butts) (z:Nat) (hzz:z≤65535):(Md.starC Tryz.prog B).R (jml Tryz.prog B fun v _=>v= .bool true) (G (Frame.enter Tryz.prog 9 #[tbV b ps ns ks pw nw cw pb nb cb,.int .u16 (z:Int)] .normal) []) h:=by
 refine jk0 Tryz.func9 rfl rfl (l:=[tbV b ps ns ks pw nw cw pb nb cb,.int .u16 (z:Int),undef,undef,undef,undef,undef,undef,undef,undef,undef,undef,undef,undef,undef,undef,undef,undef,undef,undef,undef,undef,undef,undef,undef,undef,undef,undef,undef,undef,undef,undef,undef,undef,undef,undef,undef,undef,undef,undef,undef,undef,undef,undef,undef,undef,undef,undef,undef,undef,undef,undef,undef,undef,undef,undef,undef,undef,undef,undef,undef,undef,undef,undef,undef,undef,undef,undef,undef,undef,undef,undef,undef,undef,undef,undef,undef,undef,undef,undef,undef,undef,undef,undef,undef,undef,undef,undef,undef,undef,undef,undef,undef,undef,undef,undef,undef,undef,undef,undef,undef,undef,undef,undef,undef,undef,undef,undef,undef,undef,undef,undef,undef,undef,undef,undef,undef,undef,undef,undef,undef,undef,undef,undef,undef,undef,undef,undef,undef,undef,undef,undef,undef,undef,undef,undef,undef,undef,undef,undef,undef,undef,undef,undef,undef]) rfl ?_;refine Z2 ?_
 refine jaR rfl zq (fun q1=>jas (jad ?_));refine Z6 ?_;refine jah (Post:=fun v=>IsB _ v) rfl zq zK (fun H' hH=>f25_c _ H' (rds.keeps (sq hH)) hcs (rdw.keeps (sq hH)) (rdb.keeps (sq hH))) ?_
 rintro v (⟨hc,rfl⟩|⟨hc,rfl⟩)
 ·refine Zs ?_
  have hfit:=hc
  have ra:=raw_of rds hcs rdw rdb hfit.1
  have hz:=hfit.2
  have ok:=ja8.1 hz
  have rd:=ra.rd ok
  have h12:=jbj ok
  have hbl:=jbA ok
  refine Z7 ?_;refine jaN rfl zq zK (Post:=fun w new=>OwnS 37 3 w (jab b).length (jax (jab b)) new) (fun H' hH=>f26_c _ H' (rd.keeps (sq hH))) ?_
  rintro w n27 o27;refine jaH (jad ?_);obtain ⟨p27,c27,rfl,hc27,r27⟩:=jao (B:=B) o27
  refine Z5 ?_;refine jb9 rfl zq zK (f41_k _ (ra.keeps SubH.sub)) ?_
  rintro v h' ⟨nF,w41,gg,rfl,rfl,rg,_,hl0,hl⟩;refine Zs ?_
  have hg0:=hl0 hz
  have hle:=hl hz
  rw [hz];obtain ⟨pg,cg,rfl,rdg,hgc⟩:=rg
  have ra2:=ra.ro
  have r27:=r27.ro
  simp only [jgR,joO,jgm,jjA]
  simp only [jgR,joO,jgm,jjA] at rdg
  have hgar:Asc gg∧ ∀x∈gg,0≤x∧x<((jab b).length:Int):=by
   by_cases hs:jbn (cdT b)=true
   ·rw [hg0 hs];exact ⟨List.Pairwise.nil,fun x hx=>by cases hx⟩
   ·exact ⟨(hle hs).1,(hle hs).2.1⟩
  obtain ⟨hga,hgr⟩:=hgar
  have hgl:=asc_len hga hgr
  refine Z7 ?_
  by_cases hs:jbn (cdT b)=true
  have hg2:gg.length=0:=by rw [hg0 hs];rfl
  refine Z2 ?_;refine jah (Post:=fun v=> ∃w,v= .tuple [w,.int .i64 0].toArray∧IsB (jbn (cdT b)=true) w) rfl zq zK (fun H' hH=>by have:=f45_c (Md.starC Tryz.prog B) H' (b:=b) (ra2.keeps (sq hH));rw [hz] at this;exact E68) ?_
  rintro v ⟨wS,rfl,hwS⟩;obtain rfl:=jky hwS hs
  rotate_left
  have hleast:=hle hs
  have hgp:=hleast.2.2.1
  have hgm:=hleast.2.2.2
  have hgn:=jrS hleast
  refine Z2 ?_;refine jah (Post:=fun v=> ∃w,v= .tuple [w,.int .i64 0].toArray∧IsB (jbn (cdT b)=true) w) rfl zq zK (fun H' hH=>by have:=f45_c (Md.starC Tryz.prog B) H' (b:=b) (ra2.keeps (sq hH));rw [hz] at this;exact E68) ?_
  rintro v ⟨wS,rfl,hwS⟩;obtain rfl:=jlO hwS hs
  all_goals
   refine Z9 ?_;refine ja4 [Zf 0,Zf 1,Zf 2,Zf 3,Zf 4,Zf 5,Zf 6,Zf 7,Zf 8,Zf 9,Zf 10,Zf 11,Zf 12,Zf 13,Zf 14,Zf 15,Zf 16,Zf 17,Zf 18,Zf 19] zK zK ?_;refine Zs ?_;refine jds rfl zq rfl ?_;refine Z2 ?_;refine jds rfl rfl rfl ?_;refine Z4 ?_;refine jhh rfl rfl ?_;refine jah (Post:=fun v=>v= .int .i64 0) rfl rfl zK (fun H' hH=>f44_c _ H' (rdg.keeps (sq hH)) zO (N:=((jab b).length:Int)) ⟨by omega,by omega⟩ hga (fun x hx=>by have:=hgr x hx;omega)) ?_
   rintro v rfl;refine Zs ?_;refine jds rfl rfl rfl ?_;refine Z4 ?_;refine jhh rfl rfl ?_
  ·refine jfW rfl rfl zO ?_;refine jiq rfl rfl zK rfl ?_;refine Z16 ?_;refine jaN rfl zq zK (Post:=fun v new=> ∃pw1 cw1 pb1 cb1,v=tbV (je2 b gg) ps ns ks pw1 nw cw1 pb1 nb cb1∧ ∀H2,(ro h).Sublist H2→new.Sublist H2→RawTb B H2 (je2 b gg) ps ns ks pw1 nw cw1 pb1 nb cb1) (fun H' hH=>f46_k _ H' ra2 (sq hH) ok (rdg.keeps (sq hH)) zO) ?_;rintro v nB ⟨pwB,cwB,pbB,cbB,rfl,rkB⟩;refine jaH (jad ?_);refine jah (Post:=fun v=> ∃w,v= .tuple [w,.int .i64 0].toArray∧IsB (jbG b (jbv gg)=false) w) rfl zq zK (fun H' hH=>by have:=f45_c (Md.starC Tryz.prog B) H' (b:=je2 b gg) (rkB H' (sq hH) (sq hH));rw [ja8.2 (jmJ ok _)] at this;exact this.mono fun v h' ⟨e,w,e1,e2⟩=>⟨e,w,e1,jlN e2 (by rw [jgs ok (fun x hx=>(hgr x hx).1)];exact ⟨fun e=>e.2,fun e=>⟨rfl,e⟩⟩)⟩) ?_;rintro v ⟨wS,rfl,hwS⟩;obtain rfl:=jlO hwS (by rw [hgp];decide)
   refine Z10 ?_;refine jds rfl zq rfl ?_;refine Z12 ?_;refine (Md.starC Tryz.prog B).weak (h':=ro h++[⟨false,q1,.cells (tbL b ps ns ks pw nw cw pb nb cb).toArray 25 (0,0)⟩]++ro n27++nF) jaa ?_
   refine jaj (fun nn l h'=> ∃(k:Nat),nn=gg.length-k∧(k≤gg.length)∧(∃U:Nat→Value,l=((tbV b ps ns ks pw nw cw pb nb cb)::(.int .u16 (z:Int))::(.pointer (some ⟨q1,0,none⟩))::(U 3)::(U 4)::(.slice p27 (jab b).length c27)::(.slice pg gg.length cg)::(U 7)::(.bool false)::(U 9)::(U 10)::(U 11)::(.int .i64 (k:Int))::(U 13)::(U 14)::vw130 U 15 []))∧ro h++[⟨false,q1,.cells (tbL b ps ns ks pw nw cw pb nb cb).toArray 25 (0,0)⟩]++ro n27++nF=h') _ ⟨0,rfl,by omega,exU rfl,rfl⟩ ?_;rintro nn l h' ⟨k,rfl,hk,⟨U,rfl⟩,rfl⟩ hnext;refine Z6 ?_
   refine jal rfl zq (fun hc=>?_) (fun hc=>?_)
   ·refine Z6 ?_
    have hkg:k<gg.length:=by omega
    obtain ⟨dd,hdd⟩: ∃dd,dd=gg.take k++gg.drop (k+1):=⟨_,rfl⟩
    have hdc:=jkN hleast hkg
    rw [←hdd] at hdc
    have hdr: ∀x∈dd,0≤x:=fun x hx=>by
     rw [hdd] at hx
     exact (hgr x ((List.mem_append.1 hx).elim List.mem_of_mem_take List.mem_of_mem_drop)).1
    refine jar [Zp 1,Zp 2,Zr 0,Zk 3,Zk 4,Zk 5,Zp 6,Zp 7,Zp 8,Zp 9,Zp 10] zK zK (List.Sublist.refl _) ?_;refine Z3 ?_;refine jaN rfl zq zK (Post:=fun v new=>OwnS 3 1 v (gg.length-1) (jat dd) new) (fun H' hH=>by rw [hdd];exact f49_c _ H' (rdg.keeps (sq hH)) zO hgc k hkg) ?_;rintro v nW oW;refine jaH (jad ?_);obtain ⟨pW,cW,rfl,hcW,rW⟩:=jao (B:=B) oW
    refine jaN rfl zq zK (Post:=fun v new=> ∃pw1 cw1 pb1 cb1,v=tbV (je2 b dd) ps ns ks pw1 nw cw1 pb1 nb cb1∧ ∀H2,(ro h).Sublist H2→new.Sublist H2→RawTb B H2 (je2 b dd) ps ns ks pw1 nw cw1 pb1 nb cb1) (fun H' hH=>f46_k _ H' ra2 (sq hH) ok (rW.keeps (sq hH)) zO) ?_;rintro v nC ⟨pwC,cwC,pbC,cbC,rfl,rkC⟩;refine jaH (jad ?_);refine jah (Post:=fun v=> ∃w,v= .tuple [w,.int .i64 0].toArray∧IsB (jbG b (jbv dd)=false) w) rfl zq zK (fun H' hH=>by have:=f45_c (Md.starC Tryz.prog B) H' (b:=je2 b dd) (rkC H' (sq hH) (sq hH));rw [ja8.2 (jmJ ok _)] at this;exact this.mono fun v h' ⟨e,w,e1,e2⟩=>⟨e,w,e1,jlN e2 (by rw [jgs ok hdr];exact ⟨fun e=>e.2,fun e=>⟨rfl,e⟩⟩)⟩) ?_;rintro v ⟨wT,rfl,hwT⟩;obtain rfl:=jky hwT hdc
    refine Z8 ?_
    obtain ⟨xk,hxk⟩: ∃xk:Nat,gg.getD k 0=(xk:Int):=⟨(gg.getD k 0).toNat,by have:=(hgr _ (jcZ.2 ⟨k,hkg,rfl⟩)).1;omega⟩
    obtain ⟨x0,hx0⟩: ∃x0:Nat,gg.getD 0 0=(x0:Int):=⟨(gg.getD 0 0).toNat,by have:=(hgr _ (jcZ.2 ⟨0,hgn,rfl⟩)).1;omega⟩
    have hkn:=(hgr _ (jcZ.2 ⟨k,hkg,rfl⟩)).2
    have h0n:=(hgr _ (jcZ.2 ⟨0,hgn,rfl⟩)).2
    have hst:=jkO hleast hkg hgn
    rw [hxk,hx0,Int.toNat_natCast,Int.toNat_natCast,jpR zO,jpR zO] at hst
    obtain ⟨bg,og,rfl⟩:=rdg.ptr zO
    obtain ⟨b27,o27',rfl⟩:=r27.ptr zO
    refine jar [Zp 0,Zp 1,Zp 2,Zp 3,Zp 4,Zp 5,Zp 6,Zp 7,Zp 8,Zp 9,Zp 10,Zp 15,Zp 16,Zp 17,Zr 11,Zp 12,Zp 13,Zr 14,Zr 18,Zp 19,Zp 20,Zr 21,Zp 22,Zp 23] zK zK (List.Sublist.refl _) ?_;refine Zs ?_;refine jds rfl zq rfl ?_;refine Z2 ?_;refine jlJ rfl rfl ?_;refine Z5 ?_;refine jci rfl rfl rfl zO zO ?_;refine Z2 ?_;refine jci rfl rfl rfl zO zO ?_;refine jbc (v:= .int .i64 (xk:Int)) rfl rfl (by rw [←hxk];exact rdg.iat k zO zO) ?_;refine jci rfl rfl rfl zO zO ?_;refine Zs ?_;refine jbc (v:= .int .i64 ((jab b).getD xk default).st) rfl rfl (r27.fat xk 2 zO zO rfl) ?_;refine jbc (v:= .int .i64 (x0:Int)) rfl rfl (by rw [←hx0];exact rdg.iat 0 zO zO) ?_;refine jci rfl rfl rfl zO zO ?_;refine Zs ?_;refine jbc (v:= .int .i64 ((jab b).getD x0 default).st) rfl rfl (r27.fat x0 2 zO zO rfl) ?_;refine jds rfl rfl hst ?_;refine Z10 ?_;exact (Md.starC Tryz.prog B).weak jaa (hnext _ _ _ zO ⟨k+1,rfl,by omega,exU rfl,rfl⟩)
   ·refine Z13 ?_
    refine jaj (fun nn l h'=> ∃(k:Nat) (wp:Option Addr) (wc:Nat) (Mo:Hp),nn=(jab b).length-k∧(k≤(jab b).length)∧(OwnS 3 1 (.slice wp (jbi z k).length wc) (jbi z k).length (jat (jbi z k)) Mo)∧(∃U:Nat→Value,l=((tbV b ps ns ks pw nw cw pb nb cb)::(.int .u16 (z:Int))::(.pointer (some ⟨q1,0,none⟩))::(U 3)::(U 4)::(.slice p27 (jab b).length c27)::(.slice pg gg.length cg)::vw8 U 7 ((.slice wp (jbi z k).length wc)::(.int .i64 (k:Int))::(U 17)::(U 18)::(U 19)::(U 20)::(U 21)::(U 22)::(U 23)::(U 24)::(U 25)::(U 26)::(U 27)::(U 28)::(U 29)::(U 30)::(U 31)::(U 32)::(U 33)::(U 34)::(U 35)::(U 36)::(U 37)::(U 38)::(U 39)::(U 40)::(U 41)::(U 42)::(U 43)::(U 44)::(U 45)::(U 46)::(U 47)::(U 48)::(U 49)::(U 50)::(U 51)::(U 52)::(U 53)::(U 54)::vw90 U 55 [])))∧ro h++[⟨false,q1,.cells (tbL b ps ns ks pw nw cw pb nb cb).toArray 25 (0,0)⟩]++ro n27++nF++Mo=h') _ ⟨0,none,0,[],rfl,by omega,OwnS.nil,exU rfl,(by rw [List.append_nil])⟩ ?_;rintro nn l h' ⟨k,wp,wc,Mo,rfl,hk,how,⟨U,rfl⟩,rfl⟩ hnext;have hkl:=jfS z k
    refine Z6 ?_
    refine jal rfl zq (fun hc=>?_) (fun hc=>?_)
    ·refine Z8 ?_;refine jcp rfl zq zK (n':=(z:Int)) zF ?_;refine Zs ?_;refine k_shr ((z/2^k:Nat):Int) rfl zq zO (shr_i64 z zO) ?_;refine k_andV ((z/2^k%2:Nat):Int) rfl zq (jm9 _ (Nat.lt_of_le_of_lt (Nat.div_le_self _ _) zO)) ?_
     refine jaL rfl zq (fun hc=>?_) (fun hc=>?_);have hbit:jr3 z k=1:=by unfold jr3;omega
     refine Z5 ?_
     refine jdB kdq rfl zq zA zA rfl (fun q18=>jas (jad ?_));refine jbd rfl zq rfl how kdq zO zO (fun w9 n9 o9=>jad ?_);obtain ⟨p9,c9,rfl,hc9,r9⟩:=jao (B:=B) o9
     refine Z2 ?_
     rotate_left
     have hbit:jr3 z k≠1:=by unfold jr3;omega
     refine Z3 ?_
     all_goals
      refine Z6 ?_
     ·have hks:=jnY (mm:=z) (k:=k) hbit
      rw [←hks];exact (Md.starC Tryz.prog B).weak jaa (hnext _ _ _ zO ⟨k+1,wp,wc,Mo,rfl,by omega,by rw [hks];exact how,exU rfl,rfl⟩)
     ·have hks:=jlE (mm:=z) (k:=k) hbit
      have hks2:(jbi z (k+1)).length=(jbi z k).length+1:=by rw [hks];simp
      rw [←hks2];refine (Md.starC Tryz.prog B).weak (h':=ro h++[⟨false,q1,.cells (tbL b ps ns ks pw nw cw pb nb cb).toArray 25 (0,0)⟩]++ro n27++nF++n9) jhk ?_
      exact hnext _ _ _ zO ⟨k+1,p9,c9,n9,rfl,by omega,by rw [hks2,hks,jbK];exact o9,exU rfl,rfl⟩
    ·refine Z4 ?_
     obtain rfl:k=(jab b).length:=by omega
     have rO:=how.rd (List.Sublist.refl _) (B:=B)
     have hOl:=jfS z (jab b).length
     have hOa:=jiX z (jab b).length
     have hOr: ∀x∈jbi z (jab b).length,0≤x∧x<((jab b).length:Int):=fun x hx=>by
      obtain ⟨j,hj,rfl,_⟩:=jcC.1 hx
      omega
     generalize jbi z (jab b).length=oo at rO hOl hOa hOr⊢
     refine Z3 ?_;refine jaN rfl zq zK (Post:=fun v new=> ∃pw1 cw1 pb1 cb1,v=tbV (je2 b oo) ps ns ks pw1 nw cw1 pb1 nb cb1∧ ∀H2,(ro h).Sublist H2→new.Sublist H2→RawTb B H2 (je2 b oo) ps ns ks pw1 nw cw1 pb1 nb cb1) (fun H' hH=>f46_k _ H' ra2 (sq hH) ok (rO.keeps (sq hH)) zO) ?_
     rintro v nD ⟨pwD,cwD,pbD,cbD,rfl,rkD⟩;refine jaH (jad ?_);refine jah (Post:=fun v=> ∃w,v= .tuple [w,.int .i64 0].toArray∧IsB (jbG b (jbv oo)=false) w) rfl zq zK (fun H' hH=>by have:=f45_c (Md.starC Tryz.prog B) H' (b:=je2 b oo) (rkD H' (sq hH) (sq hH));rw [ja8.2 (jmJ ok _)] at this;exact this.mono fun v h' ⟨e,w,e1,e2⟩=>⟨e,w,e1,jlN e2 (by rw [jgs ok (fun x hx=>(hOr x hx).1)];exact ⟨fun e=>e.2,fun e=>⟨rfl,e⟩⟩)⟩) ?_;rintro v ⟨wU,rfl,hwU⟩;rcases hwU with ⟨hc,rfl⟩|⟨hc,rfl⟩
     all_goals
      refine Z8 ?_;refine ja4 [Zf 0,Zf 1,Zf 2,Zf 3,Zf 4,Zf 5,Zf 6,Zf 7,Zf 8,Zf 9,Zf 10,Zf 11,Zf 12,Zf 13,Zf 14] zK zK ?_;refine Zs ?_;refine jco rfl zq rfl ?_;refine Z3 ?_
     ·refine Z7 ?_;refine jb9 rfl rfl zK (f20_c _) ?_
      rintro v h' ⟨nF,rfl,rfl⟩;refine Z5 ?_;refine jdb rfl Tryz.func9 zK rfl ?_
      rfl
     ·refine Z2 ?_;refine jah (Post:=fun v=>IsB _ v) rfl rfl zK (fun H' hH=>f48_c _ H' (rO.keeps (sq hH)) zO (rdg.keeps (sq hH))) ?_
      rintro v (⟨hc,rfl⟩|⟨hc,rfl⟩)
      ·refine Zs ?_
       exact absurd hc (hgm _ hOa hOr (by simpa using (by assumption: ¬jbG b (jbv oo)=false)))
      ·refine Zs ?_;refine jeC rfl rfl ?_;refine Z3 ?_;refine jb9 rfl rfl zK (f20_c _) ?_
       rintro v h' ⟨nF,rfl,rfl⟩;refine Z5 ?_;refine jdb rfl Tryz.func9 zK rfl ?_
       rfl
  ·refine jco rfl rfl zO ?_;refine jiq rfl rfl zK rfl ?_;refine Z12 ?_;refine jb9 rfl zq zK (f20_c _) ?_;rintro v h' ⟨nF,rfl,rfl⟩;refine Z4 ?_;refine jdb rfl Tryz.func9 zK rfl ?_
   rfl
 ·refine Z6 ?_;refine jb9 rfl zq zK (f20_c _) ?_
  rintro v h' ⟨nF,rfl,rfl⟩;refine Z4 ?_;refine jdb rfl Tryz.func9 zK rfl ?_
  rfl
end
end Go.Proofs
