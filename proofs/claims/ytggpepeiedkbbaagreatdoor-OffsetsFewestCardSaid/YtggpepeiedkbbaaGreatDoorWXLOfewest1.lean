/- A part of the proof of a law: my own separation logic over the machine, and walks of the program. Condition of each theorem: as its statement says. -/
import Derived.Test.YtggpepeiedkbbaaGreatDoorVLOfewest10
set_option linter.all false
namespace Go.Lo
open Go.Proofs
def gp (n b i:Nat):Str:=if b.testBit i then [63] else (cutS (figN n) 45).getD i []
end Go.Lo
namespace Go.Lo
open Go.Proofs
theorem meaS_in {s:Str} {z:Int} (h:z∈meaS s):0≤z∧z≤959:=by
 unfold meaS at h
 split at h
 ·rw [meaP] at h
  obtain ⟨k,hk,rfl⟩:=List.mem_map.1 h
  have:=List.mem_range.1 (List.mem_filter.1 hk).1
  omega
 ·cases h
end Go.Lo
namespace Go.Proofs
open Go.Lo
open Go.Conc (G)
set_option maxRecDepth 100000
set_option synthInstance.maxSize 100000
set_option synthInstance.maxHeartbeats 1000000
set_option maxHeartbeats 4000000
variable {B:Array Obj}
variable [LaidO B]
theorem jmX {l:List Int} {k:Nat} (h:(k:Int)∈l):jaA l (k+1)=jaA l k:=by
 rw [jaA,jdK,List.filter_append,List.filter_cons,if_neg (by simpa using h),List.filter_nil,List.append_nil];rfl
theorem jon {l:List Int} {k:Nat} (h:(k:Int)∉l):jaA l (k+1)=jaA l k++[(k:Int)]:=by
 rw [jaA,jdK,List.filter_append,List.filter_cons,if_pos (by simpa using h),List.filter_nil];rfl
theorem jdg (l:List Int) (k:Nat):(jaA l k).length≤k:=by
 have:=List.length_filter_le (fun z=>decide (z∉l)) (jcD k)
 rw [jdL] at this
 exact this
theorem only_yes {b:Tb} {l:List Int} {k:Nat} (h:(k:Int)∈l):jcs b l (k+1)=jcs b l k:=by rw [jcs,if_pos h]
theorem only_no {b:Tb} {l:List Int} {k:Nat} (h:(k:Int)∉l):jcs b l (k+1)=setF (jcs b l k) ((jab b).getD k default) dash:=by rw [jcs,if_neg h]
theorem f47_c (m:Md Tryz.prog B) (h:Hp) {p:Option Addr} {n c:Nat} {xs:List Int} (rd:RdS B h 1 (.slice p n c) n (ints xs)) (hn:n≤1000) (N:Nat) (hN:N≤1000):FnC m 47 #[.slice p n c,.int .i64 (N:Int)] h fun v h'=> ∃new,h'=h++new∧OwnS 3 1 v (jaA xs N).length (ints (jaA xs N)) new:=by
 refine jae Tryz.func47 rfl rfl (l:=(.slice p n c)::(.int .i64 (N:Int))::uu19) rfl ?_
 intro cf cs K hK
 refine D162 ?_;refine D217 ?_
 refine jai (fun nn l h'=> ∃(k:Nat) (wp:Option Addr) (wc:Nat) (M:Hp),nn=N-k∧(k≤N)∧(OwnS 3 1 (.slice wp (jaA xs k).length wc) (jaA xs k).length (ints (jaA xs k)) M)∧(∃U:Nat→Value,l=((.slice p n c)::(.int .i64 (N:Int))::(U 2)::(U 3)::(U 4)::(.slice wp (jaA xs k).length wc)::(.int .i64 (k:Int))::vw14 U 7 []))∧h++M=h') _ ⟨0,none,0,[],rfl,by omega,OwnS.nil,exU rfl,(by rw [List.append_nil])⟩ ?_;rintro nn l h' ⟨k,wp,wc,M,rfl,hk,how,⟨U,rfl⟩,rfl⟩ hnext;have hol:=jdg xs k
 refine D2 ?_;refine D203 ?_
 refine jan rfl zq (fun hc=>?_) (fun hc=>?_)
 ·refine D232 ?_;refine D212 ?_;refine jaj (Post:=fun v=>IsB _ v) rfl zq zK (fun H' hH=>f35_c m H' _ (rd.keeps (sq hH)) zO) ?_
  rintro v (⟨hc,rfl⟩|⟨hc,rfl⟩);refine D189 ?_;refine D149 ?_
  rotate_left
  refine D192 ?_;refine D148 ?_;refine rr5 ?_;refine Z2 ?_
  refine k_bs kdq rfl zq zA zA rfl (fun q18=>k_hp (jad ?_));refine ja3 rfl zq rfl how kdq zO zO (fun w9 n9 o9=>jad ?_);obtain ⟨p9,c9,rfl,hc9,r9⟩:=jap (B:=B) o9
  refine D0 ?_
  all_goals
   refine D171 ?_
  ·have hks:=jon (l:=xs) (k:=k) hc
   have hkl:(jaA xs (k+1)).length=(jaA xs k).length+1:=by rw [hks];simp
   rw [←hkl];refine m.weak (h':=h++n9) jei ?_
   exact hnext _ _ _ zO ⟨k+1,p9,c9,n9,rfl,by omega,by rw [hkl,hks,jbh];exact o9,exU rfl,rfl⟩
  ·have hks:=jmX (l:=xs) (k:=k) hc
   rw [←hks];exact E12
 ·refine D172 ?_;refine D167 ?_;refine jac (h++M) rfl Tryz.func47 rfl jaa ?_;refine D5 ?_
  obtain rfl:k=N:=by omega
  exact ⟨M,rfl,how⟩
theorem f46_k (m:Md Tryz.prog B) {h:Hp} (H:Hp) {b:Tb} {ps:Option Addr} {ns ks:Nat} {pw:Option Addr} {nw cw:Nat} {pb:Option Addr} {nb cb:Nat} (ra:RawTb B h b ps ns ks pw nw cw pb nb cb) (hs:h.Sublist H) (ok:TbOk b) {p:Option Addr} {n c:Nat} {xs:List Int} (rl:RdS B H 1 (.slice p n c) n (ints xs)) (hn:n≤1000):FnC m 46 #[tbV b ps ns ks pw nw cw pb nb cb,.slice p n c] H fun v h'=> ∃new,h'=H++new∧ ∃pw1 cw1 pb1 cb1,v=tbV (jdD b xs) ps ns ks pw1 nw cw1 pb1 nb cb1∧ ∀H2,h.Sublist H2→new.Sublist H2→RawTb B H2 (jdD b xs) ps ns ks pw1 nw cw1 pb1 nb cb1:=by
 have rd:=(ra.keeps hs).rd ok
 have h12:=jbj ok
 refine jae Tryz.func46 rfl rfl (l:=(tbV b ps ns ks pw nw cw pb nb cb)::(.slice p n c)::uu26) rfl ?_
 intro cf cs K hK
 refine rs2 ?_;refine jaQ rfl zq (fun q1=>k_hp (jad ?_));refine jau rfl zq (fun q4=>k_hp (jad ?_));refine D151 ?_;refine jaq [(0,.read),(2,.read),(1,.call),(3,.alloc),(4,.pure),(5,.free)] zK zK (List.Sublist.refl _) ?_;refine Z2 ?_;refine jaS rfl zq zK (Post:=fun w new=>OwnS 37 3 w (jab b).length (encs (jab b)) new) (fun H' hH=>f26_c _ H' (rd.keeps (sq hH))) ?_
 rintro w n9 o9;refine jaI (jad ?_);obtain ⟨p9,c9,rfl,hc9,r9⟩:=jap (B:=B) o9
 refine jau rfl zq (fun q6=>k_hp (jad ?_));refine Zs ?_;refine D22 ?_;refine D151 ?_;refine D180 ?_;refine m.weak (h':=H++[⟨true,q4,.cells [.int .i64 0,.slice none 0 0,.slice none 0 0,.slice none 0 0].toArray 25 (0,0)⟩]++n9++[⟨true,q6,.cells (tbL b ps ns ks pw nw cw pb nb cb).toArray 25 (0,0)⟩]) jaa ?_
 refine jai (fun nn l h'=> ∃(k:Nat) (pw1:Option Addr) (cw1:Nat) (pb1:Option Addr) (cb1:Nat) (M:Hp),nn=(jab b).length-k∧(k≤(jab b).length)∧(∀H2,h.Sublist H2→M.Sublist H2→RawTb B H2 (jcs b xs k) ps ns ks pw1 nw cw1 pb1 nb cb1)∧(∃U:Nat→Value,l=((tbV b ps ns ks pw nw cw pb nb cb)::(.slice p n c)::(U 2)::(U 3)::(.pointer (some ⟨q4,0,none⟩))::(.slice p9 (jab b).length c9)::(.pointer (some ⟨q6,0,none⟩))::(.int .i64 (k:Int))::vw20 U 8 []))∧H++[⟨true,q4,.cells [.int .i64 0,.slice none 0 0,.slice none 0 0,.slice none 0 0].toArray 25 (0,0)⟩]++n9++[⟨true,q6,.cells (tbL (jcs b xs k) ps ns ks pw1 nw cw1 pb1 nb cb1).toArray 25 (0,0)⟩]++M=h') _ ⟨0,pw,cw,pb,cb,[],rfl,by omega,fun H2 e1 _=>ra.keeps e1,exU rfl,(by rw [List.append_nil];rfl)⟩ ?_;rintro nn l h' ⟨k,pw1,cw1,pb1,cb1,M,rfl,hk,rk,⟨U,rfl⟩,rfl⟩ hnext;obtain ⟨okk,hhk,hsk,hwk,_,_,_⟩:=jdE ok xs k hk
 refine D2 ?_;refine D196 ?_
 refine jan rfl zq (fun hc=>?_) (fun hc=>?_)
 ·refine D232 ?_;refine D212 ?_;refine jaj (Post:=fun v=>IsB _ v) rfl zq zK (fun H' hH=>f35_c m H' _ (rl.keeps (sq hH)) zO) ?_
  rintro v (⟨hc,rfl⟩|⟨hc,rfl⟩);refine D189 ?_;refine D149 ?_
  rotate_left
  refine D192 ?_;refine D148 ?_
  have hkl:k<(jab b).length:=by omega
  obtain ⟨c0,hcx⟩: ∃c0,c0=(jab b).getD k default:=⟨_,rfl⟩
  have hht:hasT (jcs b xs k) c0=true:=by rw [hhk,hcx];exact (jpv hkl).1
  obtain ⟨b9,o9_,rfl⟩:=r9.ptr zO
  refine jaq [(1,.pure),(2,.pure),(3,.pure),(0,.read),(4,.read),(5,.keep),(6,.free)] zK zK (List.Sublist.refl _) ?_;refine Z2 ?_;refine D29 ?_;refine Zs ?_;refine jcU (vs:=[.bool ((jab b).getD k default).butt,.int .i64 ((jab b).getD k default).line,.int .i64 ((jab b).getD k default).st]) rfl zq rfl (r9.eat k zO zO) ?_;rw [←hcx];refine jaS rfl zq zK (Post:=fun v nz=> ∃pw' cw' pb' cb',v=tbV (setF (jcs b xs k) c0 dash) ps ns ks pw' nw cw' pb' nb cb'∧RdLn B nz (.slice pw' nw cw') nw (setF (jcs b xs k) c0 dash).waters∧RdLn B nz (.slice pb' nb cb') nb (setF (jcs b xs k) c0 dash).butts) (fun H' hH=>f33_r m H' (rk H' (hs.trans (sq hH)) (sq hH)) okk hht dash zA) ?_;rintro v nzW ⟨pwW,cwW,pbW,cbW,rfl,ewW,ebW⟩;refine jaI (jad ?_);rw [hcx] at ewW ebW
  rw [hcx];refine D194 ?_
  all_goals
   refine D171 ?_
  ·have hks:=only_no (b:=b) (l:=xs) (k:=k) hc
   rw [←hks];refine m.weak (h':=H++[⟨true,q4,.cells [.int .i64 0,.slice none 0 0,.slice none 0 0,.slice none 0 0].toArray 25 (0,0)⟩]++n9++[⟨true,q6,.cells (tbL (jcs b xs (k+1)) ps ns ks pwW nw cwW pbW nb cbW).toArray 25 (0,0)⟩]++(M++nzW)) (by rw [←List.append_assoc];exact jaa) ?_
   exact hnext _ _ _ zO ⟨k+1,pwW,cwW,pbW,cbW,M++nzW,rfl,by omega,by rw [hks];exact fun H2 e1 e2=>raw_set (rk H2 e1 ((List.sublist_append_left _ _).trans e2)) (rk H2 e1 ((List.sublist_append_left _ _).trans e2)).sm zA ewW ebW (List.Sublist.refl _) ((List.sublist_append_right _ _).trans e2),exU rfl,rfl⟩
  ·have hks:=only_yes (b:=b) (l:=xs) (k:=k) hc
   rw [←hks];exact m.weak jaa (hnext _ _ _ zO ⟨k+1,pw1,cw1,pb1,cb1,M,rfl,by omega,by rw [hks];exact rk,exU rfl,rfl⟩)
 ·refine D172 ?_;refine D2 ?_
  obtain rfl:k=(jab b).length:=by omega
  refine D206 ?_;refine D194 ?_;refine D4 ?_;refine jac (H++M) rfl Tryz.func46 rfl jaa ?_;refine D5 ?_
  exact ⟨M,rfl,pw1,cw1,pb1,cb1,rfl,rk⟩
theorem jhQ (n:Nat) (hn:n<65536):bAnd .i64 (n:Int) 1=((n%2:Nat):Int):=by
 unfold bAnd
 have e:(BitVec.ofInt IntKind.i64.bits (n:Int)&&&BitVec.ofInt IntKind.i64.bits 1).toNat=n%2:=by
  rw [BitVec.toNat_and,BitVec.ofInt_natCast,show (1:Int)=((1:Nat):Int) from rfl,BitVec.ofInt_natCast,BitVec.toNat_ofNat,BitVec.toNat_ofNat];rw [show IntKind.i64.bits=64 from rfl,Nat.mod_eq_of_lt (show n<2^64 by omega),Nat.mod_eq_of_lt (show 1<2^64 by decide),Nat.and_one_is_mod]
 rw [e];unfold IntKind.wrap
 simp [IntKind.bits,IntKind.signed]
 omega
theorem jnT (s:Nat) {i:Nat} (hi:i<64):(s:Int).fdiv (2^(min (i:Int).toNat IntKind.i64.bits))=((s/2^i:Nat):Int):=by
 rw [Int.toNat_natCast,show min i IntKind.i64.bits=i from Nat.min_eq_left (by show i≤64;omega)];rw [show ((2:Int)^i)=((2^i:Nat):Int) by simp,Int.fdiv_eq_ediv_of_nonneg _ (Int.natCast_nonneg _)];rfl
theorem pat_bits {x:Bo} {n:Nat} (h:x.length=n):jcZ x=patN (jbA x) n:=by
 apply List.ext_getElem
 ·simp [jcZ,patN,h]
 ·intro i h1 h2
  have hi:i<x.length:=by simpa [jcZ] using h1
  simp only [jcZ,patN,List.getElem_map,List.getElem_range]
  rw [jcn,Bool.eq_iff_iff,Option.isNone_iff_eq_none,decide_eq_true_eq];have:xA x i=x[i]:=by rw [xA,List.getD_eq_getElem?_getD,List.getElem?_eq_getElem hi];rfl
  rw [this];exact ⟨fun e=>⟨hi,e⟩,fun e=>e.2⟩
theorem jpc {b:Tb} (ok:TbOk b) {gg:List Int} (hl:jeG (fun l=>fewB b (jbN l)=true) (jab b).length gg):jaf b≠[]↔(gg.length:Int)≤b.wrong:=by
 obtain ⟨ha,hr,hp,hm⟩:=hl
 have hw:=ok.wrong
 constructor
 ·intro h
  obtain ⟨x,hx⟩:=List.exists_mem_of_ne_nil _ h
  obtain ⟨hok,hn⟩:=ja8.1 hx
  have hlen:=jcd hx
  have hlt:jbA x<2^(jab b).length:=hlen▸jjk
  have hk:=jdw (k:=(jab b).length) hlt
  have hin:=jl4 (k:=(jab b).length) hlt
  have hpt:=pat_bits hlen
  have h1:fewB b (jbN (ja0 (jbA x) (jab b).length))=true:=by
   rw [hk,jes];refine List.ne_nil_of_mem (a:=x) ((jgy (by rw [jbr,jaB])).2 ⟨hok,hpt⟩)
  have h2:=hm _ (jdq _ _) hin h1
  have h3:(ja0 (jbA x) (jab b).length).length=jfa x:=by
   rw [←jkE (jdq _ _) hin,hk,←hpt,jj6]
  have h4:gg.length≤(ja0 (jbA x) (jab b).length).length:=Nat.le_of_not_lt fun e=>h2 (.inl e)
  have h5:jfa x≤b.wrong.toNat:=hn
  omega
 ·intro h
  obtain ⟨x,hx⟩:=List.exists_mem_of_ne_nil _ (jes.1 hp)
  obtain ⟨hok,hpt⟩:=(jgy (by rw [jbr,jaB])).1 hx
  refine List.ne_nil_of_mem (a:=x) (ja8.2 ⟨hok,?_⟩)
  rw [←jj6,hpt,jkE ha hr];omega
theorem jfp {b:Tb} (ok:TbOk b) {l:List Int} (hr: ∀x∈l,0≤x):jb7 (cdT (jdD b (jaA l (jab b).length)))=true↔fewB b (jbN l)=true:=by
 rw [jjF ok hr,jes]
theorem jmd {p q:Prop} {w:Value} (h:IsB p w) (e:p↔q):IsB q w:=by
 rcases h with ⟨c,e2⟩|⟨c,e2⟩
 ·exact .inl ⟨e.1 c,e2⟩
 ·exact .inr ⟨fun x=>c (e.2 x),e2⟩
theorem f8_t (h:Hp) {b:Tb} {ps:Option Addr} {ns ks:Nat} {pw:Option Addr} {nw cw:Nat} {pb:Option Addr} {nb cb:Nat} (rds:RdS B h 1 (.slice ps ns ks) ns (encs b.sts)) (hcs:ns≤ks) (rdw:RdLn B h (.slice pw nw cw) nw b.waters) (rdb:RdLn B h (.slice pb nb cb) nb b.butts) (z:Nat) (hzz:z≤65535):(Md.starC Tryz.prog B).R (jlo Tryz.prog B fun v _=>v= .bool true) (G (Frame.enter Tryz.prog 8 #[tbV b ps ns ks pw nw cw pb nb cb,.int .u16 (z:Int)] .normal) []) h:=by
 refine jnH Tryz.func8 rfl rfl (l:=[tbV b ps ns ks pw nw cw pb nb cb,.int .u16 (z:Int),undef,undef,undef,undef,undef,undef,undef,undef,undef,undef,undef,undef,undef,undef,undef,undef,undef,undef,undef,undef,undef,undef,undef,undef,undef,undef,undef,undef,undef,undef,undef,undef,undef,undef,undef,undef,undef,undef,undef,undef,undef,undef,undef,undef,undef,undef,undef,undef,undef,undef,undef,undef,undef,undef,undef,undef,undef,undef,undef,undef,undef,undef,undef,undef,undef,undef,undef,undef,undef,undef,undef,undef,undef,undef,undef,undef,undef,undef,undef,undef,undef,undef,undef,undef,undef,undef,undef,undef,undef,undef,undef,undef,undef,undef,undef,undef,undef,undef,undef,undef,undef,undef,undef,undef,undef,undef]) rfl ?_;refine rs2 ?_
 refine jaQ rfl zq (fun q1=>k_hp (jad ?_));refine D150 ?_;refine D186 ?_;refine jaj (Post:=fun v=>IsB _ v) rfl zq zK (fun H' hH=>f25_c _ H' (rds.keeps (sq hH)) hcs (rdw.keeps (sq hH)) (rdb.keeps (sq hH))) ?_
 rintro v (⟨hc,rfl⟩|⟨hc,rfl⟩)
 ·refine D9 ?_
  have hfit:=hc
  have ra:=raw_of rds hcs rdw rdb hfit.1
  have hz:=hfit.2
  have ok:=ja6.1 hz
  have rd:=ra.rd ok
  have h12:=jbj ok
  have hbl:=jbL ok
  refine D38 ?_;refine D149 ?_;refine D221 ?_;refine jaS rfl zq zK (Post:=fun w new=>OwnS 37 3 w (jab b).length (encs (jab b)) new) (fun H' hH=>f26_c _ H' (rd.keeps (sq hH))) ?_
  rintro w n27 o27;refine jaI (jad ?_);obtain ⟨p27,c27,rfl,hc27,r27⟩:=jap (B:=B) o27
  refine Zs ?_;refine D0 ?_;refine D197 ?_;refine jcG rfl zq zK (f40_c _ (ra.keeps SubH.sub)) ?_
  rintro v h' ⟨nF,w40,gg,rfl,rfl,rg,_,hl⟩;refine D9 ?_
  have hleast:=hl hz
  rw [hz];obtain ⟨pg,cg,rfl,rdg⟩:=rg
  have ra2:=ra.ro
  simp only [jf7,jmP,jfE,jif]
  simp only [jf7,jmP,jfE,jif] at rdg
  have hfb:=jpc ok hleast
  obtain ⟨hga,hgr,hgp,hgm⟩:=hleast
  have hgl:=asc_len hga hgr
  refine Z4 ?_;refine D0 ?_;refine D197 ?_;refine jaj (Post:=fun v=>v= .tuple [.int .i64 ((jaf b).length:Int),.int .i64 0].toArray) rfl zq zK (fun H' hH=>by have:=f28_c (Md.starC Tryz.prog B) H' (b:=b) (ra2.keeps (sq hH));rw [if_pos hz,hz] at this;exact this) ?_
  rintro v rfl;refine D207 ?_;refine D150 ?_;refine D2 ?_
  by_cases hne:jaf b=[]
  have hnl: ¬(gg.length:Int)≤b.wrong:=fun e=>hfb.2 e hne
  have hn0:(jaf b).length=0:=by rw [hne];rfl
  rotate_left
  have hnl:=hfb.1 hne
  have hn0:=List.length_pos_iff.2 hne
  all_goals
   refine jbl [(0,.free),(1,.free),(2,.free),(3,.free),(4,.free),(5,.free),(6,.free),(7,.free),(8,.free),(9,.free),(10,.free),(11,.free),(12,.free),(13,.free),(14,.free),(15,.free),(16,.free),(17,.free),(18,.free),(19,.free),(20,.free),(21,.free)] zK zK ?_;refine Zs ?_;refine jio rfl zq rfl ?_;refine Z2 ?_;refine jio rfl rfl rfl ?_;refine D10 ?_;refine Z3 ?_;refine jaj (Post:=fun v=>v= .int .i64 0) rfl rfl zK (fun H' hH=>f44_c _ H' (rdg.keeps (sq hH)) zO (N:=((jab b).length:Int)) ⟨by omega,by omega⟩ hga (fun x hx=>by have:=hgr x hx;omega)) ?_;rintro v rfl;refine D9 ?_;refine jio rfl rfl rfl ?_;refine D184 ?_
  ·refine joL rfl rfl zO ?_;refine Z4 ?_;refine joJ rfl rfl hnl ?_;refine joF rfl rfl zK rfl ?_;refine D10 ?_;refine D165 ?_;refine jaq [(1,.pure),(2,.pure),(0,.read),(3,.keep),(4,.keep),(5,.keep),(6,.pure),(7,.pure),(8,.pure),(9,.pure),(10,.pure)] zK zK (List.Sublist.refl _) ?_;refine Z3 ?_;refine jaS rfl zq zK (Post:=fun v new=>OwnS 3 1 v (jaA gg (jab b).length).length (ints (jaA gg (jab b).length)) new) (fun H' hH=>f47_c _ H' (rdg.keeps (sq hH)) zO (jab b).length zO) ?_;rintro v nA oA;refine jaI (jad ?_);obtain ⟨pA,cA,rfl,hcA,rA⟩:=jap (B:=B) oA
   have holA:=jdg gg (jab b).length
   refine jaS rfl zq zK (Post:=fun v new=> ∃pw1 cw1 pb1 cb1,v=tbV (jdD b (jaA gg (jab b).length)) ps ns ks pw1 nw cw1 pb1 nb cb1∧ ∀H2,(ro h).Sublist H2→new.Sublist H2→RawTb B H2 (jdD b (jaA gg (jab b).length)) ps ns ks pw1 nw cw1 pb1 nb cb1) (fun H' hH=>f46_k _ H' ra2 (sq hH) ok (rA.keeps (sq hH)) zO) ?_;rintro v nB ⟨pwB,cwB,pbB,cbB,rfl,rkB⟩;refine jaI (jad ?_);refine jaj (Post:=fun v=> ∃w,v= .tuple [w,.int .i64 0].toArray∧IsB (fewB b (jbN gg)=true) w) rfl zq zK (fun H' hH=>by have:=f45_c (Md.starC Tryz.prog B) H' (b:=jdD b (jaA gg (jab b).length)) (rkB H' (sq hH) (sq hH));rw [ja6.2 (jiZ ok _)] at this;exact E65) ?_;rintro v ⟨wS,rfl,hwS⟩;refine D9 ?_
   obtain rfl:=ji6 hwS hgp
   refine Z4 ?_;refine D0 ?_;refine D217 ?_;refine (Md.starC Tryz.prog B).weak (h':=ro h++[⟨false,q1,.cells (tbL b ps ns ks pw nw cw pb nb cb).toArray 25 (0,0)⟩]++ro n27++nF) jaa ?_
   refine jai (fun nn l h'=> ∃(k:Nat) (wp:Option Addr) (wc:Nat) (Mo:Hp),nn=(jab b).length-k∧(k≤(jab b).length)∧(OwnS 3 1 (.slice wp (ja0 z k).length wc) (ja0 z k).length (ints (ja0 z k)) Mo)∧(∃U:Nat→Value,l=((tbV b ps ns ks pw nw cw pb nb cb)::(.int .u16 (z:Int))::(.pointer (some ⟨q1,0,none⟩))::(U 3)::(U 4)::(.int .i64 ((jab b).length:Int))::(.slice pg gg.length cg)::(.int .i64 0)::(U 8)::(U 9)::(.bool true)::(.slice wp (ja0 z k).length wc)::(.int .i64 (k:Int))::(U 13)::(U 14)::(U 15)::(U 16)::(U 17)::vw90 U 18 []))∧ro h++[⟨false,q1,.cells (tbL b ps ns ks pw nw cw pb nb cb).toArray 25 (0,0)⟩]++ro n27++nF++Mo=h') _ ⟨0,none,0,[],rfl,by omega,OwnS.nil,exU rfl,(by rw [List.append_nil])⟩ ?_;rintro nn l h' ⟨k,wp,wc,Mo,rfl,hk,how,⟨U,rfl⟩,rfl⟩ hnext;have hkl:=jdI z k
   refine D2 ?_;refine D203 ?_
   refine jan rfl zq (fun hc=>?_) (fun hc=>?_)
   ·refine D232 ?_;refine rs6 ?_;refine Zs ?_;refine jdS rfl zq zK (n':=(z:Int)) zW ?_;refine Zs ?_;refine k_shr ((z/2^k:Nat):Int) rfl zq zO (jnT z zO) ?_;refine joR ((z/2^k%2:Nat):Int) rfl zq (jhQ _ (Nat.lt_of_le_of_lt (Nat.div_le_self _ _) zO)) ?_
    refine jaM rfl zq (fun hc=>?_) (fun hc=>?_);have hbit:bitN z k=1:=by unfold bitN;omega
    refine D148 ?_;refine rr5 ?_;refine Z2 ?_
    refine k_bs kdq rfl zq zA zA rfl (fun q18=>k_hp (jad ?_));refine ja3 rfl zq rfl how kdq zO zO (fun w9 n9 o9=>jad ?_);obtain ⟨p9,c9,rfl,hc9,r9⟩:=jap (B:=B) o9
    refine D0 ?_
    rotate_left
    have hbit:bitN z k≠1:=by unfold bitN;omega
    refine D149 ?_
    all_goals
     refine D171 ?_
    ·have hks:=ji4 (mm:=z) (k:=k) hbit
     rw [←hks];exact E67
    ·have hks:=jhk (mm:=z) (k:=k) hbit
     have hks2:(ja0 z (k+1)).length=(ja0 z k).length+1:=by rw [hks];simp
     rw [←hks2];refine (Md.starC Tryz.prog B).weak (h':=ro h++[⟨false,q1,.cells (tbL b ps ns ks pw nw cw pb nb cb).toArray 25 (0,0)⟩]++ro n27++nF++n9) jei ?_
     exact E68
   ·refine D172 ?_;refine D2 ?_
    obtain rfl:k=(jab b).length:=by omega
    have rO:=how.rd (List.Sublist.refl _) (B:=B)
    have hOl:=jdI z (jab b).length
    have hOa:=jdq z (jab b).length
    have hOr: ∀x∈ja0 z (jab b).length,0≤x∧x<((jab b).length:Int):=fun x hx=>by
     obtain ⟨j,hj,rfl,_⟩:=jb2.1 hx
     omega
    generalize ja0 z (jab b).length=oo at rO hOl hOa hOr⊢
    refine jaq [(1,.pure),(2,.pure),(0,.read),(3,.keep),(4,.keep),(5,.keep),(6,.pure),(7,.pure),(8,.pure),(9,.pure),(10,.pure)] zK zK (List.Sublist.refl _) ?_;refine Z3 ?_;refine jaS rfl zq zK (Post:=fun v new=>OwnS 3 1 v (jaA oo (jab b).length).length (ints (jaA oo (jab b).length)) new) (fun H' hH=>f47_c _ H' (rO.keeps (sq hH)) zO (jab b).length zO) ?_;rintro v nC oC;refine jaI (jad ?_);obtain ⟨pC,cC,rfl,hcC,rC⟩:=jap (B:=B) oC
    have holC:=jdg oo (jab b).length
    refine jaS rfl zq zK (Post:=fun v new=> ∃pw1 cw1 pb1 cb1,v=tbV (jdD b (jaA oo (jab b).length)) ps ns ks pw1 nw cw1 pb1 nb cb1∧ ∀H2,(ro h).Sublist H2→new.Sublist H2→RawTb B H2 (jdD b (jaA oo (jab b).length)) ps ns ks pw1 nw cw1 pb1 nb cb1) (fun H' hH=>f46_k _ H' ra2 (sq hH) ok (rC.keeps (sq hH)) zO) ?_;rintro v nD ⟨pwD,cwD,pbD,cbD,rfl,rkD⟩;refine jaI (jad ?_);refine jaj (Post:=fun v=> ∃w,v= .tuple [w,.int .i64 0].toArray∧IsB (fewB b (jbN oo)=true) w) rfl zq zK (fun H' hH=>by have:=f45_c (Md.starC Tryz.prog B) H' (b:=jdD b (jaA oo (jab b).length)) (rkD H' (sq hH) (sq hH));rw [ja6.2 (jiZ ok _)] at this;exact E69) ?_;rintro v ⟨wT,rfl,hwT⟩;rcases hwT with ⟨hc,rfl⟩|⟨hc,rfl⟩
    all_goals
     refine D207 ?_;refine D150 ?_;refine jbl [(0,.free),(1,.free),(2,.free),(3,.free),(4,.free),(5,.free),(6,.free),(7,.free),(8,.free),(9,.free),(10,.free),(11,.free),(12,.free),(13,.free),(14,.free),(15,.free),(16,.free),(17,.free),(18,.free),(19,.free),(20,.free),(21,.free),(22,.free)] zK zK ?_;refine Zs ?_;refine jdm rfl zq rfl ?_;refine Z2 ?_;refine jdm rfl rfl rfl ?_;refine D13 ?_;refine Z2 ?_;refine D13 ?_;refine Z2 ?_
    ·refine jl7 rfl rfl ?_;refine Z3 ?_;refine jaj (Post:=fun v=>IsB _ v) rfl rfl zK (fun H' hH=>f48_c _ H' (rO.keeps (sq hH)) zO (rdg.keeps (sq hH))) ?_;rintro v (⟨hc,rfl⟩|⟨hc,rfl⟩)
     ·refine D9 ?_
      exact absurd hc (hgm _ hOa hOr zD)
     ·refine D9 ?_;refine jea rfl rfl ?_;refine D45 ?_;refine D13 ?_;refine Zs ?_;refine jcG rfl rfl zK (f20_c _) ?_
      rintro v h' ⟨nF,rfl,rfl⟩;refine D9 ?_;refine D222 ?_;refine jg0 rfl Tryz.func8 zK rfl ?_
      rfl
    ·refine jea rfl rfl ?_;refine Z5 ?_;refine D61 ?_;refine D13 ?_;refine Zs ?_;refine jcG rfl rfl zK (f20_c _) ?_;rintro v h' ⟨nF,rfl,rfl⟩;refine D9 ?_;refine D222 ?_;refine jg0 rfl Tryz.func8 zK rfl ?_
     rfl
  ·refine k_gtrF rfl rfl zO ?_;refine Z4 ?_;refine k_leqF rfl rfl hnl ?_;refine joF rfl rfl zK rfl ?_;refine D10 ?_;refine D165 ?_;refine jaq [(1,.pure),(2,.pure),(0,.read),(3,.keep),(4,.keep),(5,.keep),(6,.pure),(7,.pure),(8,.pure),(9,.pure),(10,.pure)] zK zK (List.Sublist.refl _) ?_;refine Z3 ?_;refine jaS rfl zq zK (Post:=fun v new=>OwnS 3 1 v (jaA gg (jab b).length).length (ints (jaA gg (jab b).length)) new) (fun H' hH=>f47_c _ H' (rdg.keeps (sq hH)) zO (jab b).length zO) ?_;rintro v nA oA;refine jaI (jad ?_);obtain ⟨pA,cA,rfl,hcA,rA⟩:=jap (B:=B) oA
   have holA:=jdg gg (jab b).length
   refine jaS rfl zq zK (Post:=fun v new=> ∃pw1 cw1 pb1 cb1,v=tbV (jdD b (jaA gg (jab b).length)) ps ns ks pw1 nw cw1 pb1 nb cb1∧ ∀H2,(ro h).Sublist H2→new.Sublist H2→RawTb B H2 (jdD b (jaA gg (jab b).length)) ps ns ks pw1 nw cw1 pb1 nb cb1) (fun H' hH=>f46_k _ H' ra2 (sq hH) ok (rA.keeps (sq hH)) zO) ?_;rintro v nB ⟨pwB,cwB,pbB,cbB,rfl,rkB⟩;refine jaI (jad ?_);refine jaj (Post:=fun v=> ∃w,v= .tuple [w,.int .i64 0].toArray∧IsB (fewB b (jbN gg)=true) w) rfl zq zK (fun H' hH=>by have:=f45_c (Md.starC Tryz.prog B) H' (b:=jdD b (jaA gg (jab b).length)) (rkB H' (sq hH) (sq hH));rw [ja6.2 (jiZ ok _)] at this;exact E65) ?_;rintro v ⟨wS,rfl,hwS⟩;refine D9 ?_
   obtain rfl:=ji6 hwS hgp
   refine Z4 ?_;refine D0 ?_;refine D217 ?_;refine (Md.starC Tryz.prog B).weak (h':=ro h++[⟨false,q1,.cells (tbL b ps ns ks pw nw cw pb nb cb).toArray 25 (0,0)⟩]++ro n27++nF) jaa ?_
   refine jai (fun nn l h'=> ∃(k:Nat) (wp:Option Addr) (wc:Nat) (Mo:Hp),nn=(jab b).length-k∧(k≤(jab b).length)∧(OwnS 3 1 (.slice wp (ja0 z k).length wc) (ja0 z k).length (ints (ja0 z k)) Mo)∧(∃U:Nat→Value,l=((tbV b ps ns ks pw nw cw pb nb cb)::(.int .u16 (z:Int))::(.pointer (some ⟨q1,0,none⟩))::(U 3)::(U 4)::(.int .i64 ((jab b).length:Int))::(.slice pg gg.length cg)::(.int .i64 0)::(U 8)::(U 9)::(.bool true)::(.slice wp (ja0 z k).length wc)::(.int .i64 (k:Int))::(U 13)::(U 14)::(U 15)::(U 16)::(U 17)::vw90 U 18 []))∧ro h++[⟨false,q1,.cells (tbL b ps ns ks pw nw cw pb nb cb).toArray 25 (0,0)⟩]++ro n27++nF++Mo=h') _ ⟨0,none,0,[],rfl,by omega,OwnS.nil,exU rfl,(by rw [List.append_nil])⟩ ?_;rintro nn l h' ⟨k,wp,wc,Mo,rfl,hk,how,⟨U,rfl⟩,rfl⟩ hnext;have hkl:=jdI z k
   refine D2 ?_;refine D203 ?_
   refine jan rfl zq (fun hc=>?_) (fun hc=>?_)
   ·refine D232 ?_;refine rs6 ?_;refine Zs ?_;refine jdS rfl zq zK (n':=(z:Int)) zW ?_;refine Zs ?_;refine k_shr ((z/2^k:Nat):Int) rfl zq zO (jnT z zO) ?_;refine joR ((z/2^k%2:Nat):Int) rfl zq (jhQ _ (Nat.lt_of_le_of_lt (Nat.div_le_self _ _) zO)) ?_
    refine jaM rfl zq (fun hc=>?_) (fun hc=>?_);have hbit:bitN z k=1:=by unfold bitN;omega
    refine D148 ?_;refine rr5 ?_;refine Z2 ?_
    refine k_bs kdq rfl zq zA zA rfl (fun q18=>k_hp (jad ?_));refine ja3 rfl zq rfl how kdq zO zO (fun w9 n9 o9=>jad ?_);obtain ⟨p9,c9,rfl,hc9,r9⟩:=jap (B:=B) o9
    refine D0 ?_
    rotate_left
    have hbit:bitN z k≠1:=by unfold bitN;omega
    refine D149 ?_
    all_goals
     refine D171 ?_
    ·have hks:=ji4 (mm:=z) (k:=k) hbit
     rw [←hks];exact E67
    ·have hks:=jhk (mm:=z) (k:=k) hbit
     have hks2:(ja0 z (k+1)).length=(ja0 z k).length+1:=by rw [hks];simp
     rw [←hks2];refine (Md.starC Tryz.prog B).weak (h':=ro h++[⟨false,q1,.cells (tbL b ps ns ks pw nw cw pb nb cb).toArray 25 (0,0)⟩]++ro n27++nF++n9) jei ?_
     exact E68
   ·refine D172 ?_;refine D2 ?_
    obtain rfl:k=(jab b).length:=by omega
    have rO:=how.rd (List.Sublist.refl _) (B:=B)
    have hOl:=jdI z (jab b).length
    have hOa:=jdq z (jab b).length
    have hOr: ∀x∈ja0 z (jab b).length,0≤x∧x<((jab b).length:Int):=fun x hx=>by
     obtain ⟨j,hj,rfl,_⟩:=jb2.1 hx
     omega
    generalize ja0 z (jab b).length=oo at rO hOl hOa hOr⊢
    refine jaq [(1,.pure),(2,.pure),(0,.read),(3,.keep),(4,.keep),(5,.keep),(6,.pure),(7,.pure),(8,.pure),(9,.pure),(10,.pure)] zK zK (List.Sublist.refl _) ?_;refine Z3 ?_;refine jaS rfl zq zK (Post:=fun v new=>OwnS 3 1 v (jaA oo (jab b).length).length (ints (jaA oo (jab b).length)) new) (fun H' hH=>f47_c _ H' (rO.keeps (sq hH)) zO (jab b).length zO) ?_;rintro v nC oC;refine jaI (jad ?_);obtain ⟨pC,cC,rfl,hcC,rC⟩:=jap (B:=B) oC
    have holC:=jdg oo (jab b).length
    refine jaS rfl zq zK (Post:=fun v new=> ∃pw1 cw1 pb1 cb1,v=tbV (jdD b (jaA oo (jab b).length)) ps ns ks pw1 nw cw1 pb1 nb cb1∧ ∀H2,(ro h).Sublist H2→new.Sublist H2→RawTb B H2 (jdD b (jaA oo (jab b).length)) ps ns ks pw1 nw cw1 pb1 nb cb1) (fun H' hH=>f46_k _ H' ra2 (sq hH) ok (rC.keeps (sq hH)) zO) ?_;rintro v nD ⟨pwD,cwD,pbD,cbD,rfl,rkD⟩;refine jaI (jad ?_);refine jaj (Post:=fun v=> ∃w,v= .tuple [w,.int .i64 0].toArray∧IsB (fewB b (jbN oo)=true) w) rfl zq zK (fun H' hH=>by have:=f45_c (Md.starC Tryz.prog B) H' (b:=jdD b (jaA oo (jab b).length)) (rkD H' (sq hH) (sq hH));rw [ja6.2 (jiZ ok _)] at this;exact E69) ?_;rintro v ⟨wT,rfl,hwT⟩;rcases hwT with ⟨hc,rfl⟩|⟨hc,rfl⟩
    all_goals
     refine D207 ?_;refine D150 ?_;refine jbl [(0,.free),(1,.free),(2,.free),(3,.free),(4,.free),(5,.free),(6,.free),(7,.free),(8,.free),(9,.free),(10,.free),(11,.free),(12,.free),(13,.free),(14,.free),(15,.free),(16,.free),(17,.free),(18,.free),(19,.free),(20,.free),(21,.free),(22,.free)] zK zK ?_;refine Zs ?_;refine jdm rfl zq rfl ?_;refine Z2 ?_;refine jdm rfl rfl rfl ?_;refine D13 ?_;refine Z2 ?_;refine D13 ?_;refine Z2 ?_
    ·refine jl7 rfl rfl ?_;refine Z3 ?_;refine jaj (Post:=fun v=>IsB _ v) rfl rfl zK (fun H' hH=>f48_c _ H' (rO.keeps (sq hH)) zO (rdg.keeps (sq hH))) ?_;rintro v (⟨hc,rfl⟩|⟨hc,rfl⟩)
     ·refine D9 ?_
      exact absurd hc (hgm _ hOa hOr zD)
     ·refine D9 ?_;refine jea rfl rfl ?_;refine D45 ?_;refine D13 ?_;refine Zs ?_;refine jcG rfl rfl zK (f20_c _) ?_
      rintro v h' ⟨nF,rfl,rfl⟩;refine D9 ?_;refine D222 ?_;refine jg0 rfl Tryz.func8 zK rfl ?_
      rfl
    ·refine jea rfl rfl ?_;refine Z5 ?_;refine D61 ?_;refine D13 ?_;refine Zs ?_;refine jcG rfl rfl zK (f20_c _) ?_;rintro v h' ⟨nF,rfl,rfl⟩;refine D9 ?_;refine D222 ?_;refine jg0 rfl Tryz.func8 zK rfl ?_
     rfl
 ·refine D192 ?_;refine D148 ?_;refine rs2 ?_;refine jcG rfl zq zK (f20_c _) ?_
  rintro v h' ⟨nF,rfl,rfl⟩;refine D220 ?_;refine jg0 rfl Tryz.func8 zK rfl ?_
  rfl
end Go.Proofs
