/- A part of the proof of a law: my own separation logic over the machine, and walks of the program. Condition of each theorem: as its statement says. -/
import Derived.Test.YtggpepeiedkbbaaGreatDoorVLOfewest6
set_option linter.all false
namespace Go.Proofs
open Go.Lo
open Go.Conc (G)
set_option maxRecDepth 100000
set_option synthInstance.maxSize 100000
set_option synthInstance.maxHeartbeats 1000000
set_option maxHeartbeats 4000000
variable {B:Array Obj}
variable [LaidO B]
theorem jiv (ss:List Str) (i:Nat):encs (ss.take i)=(encs ss).take i:=by have:=jkz ss i;simpa using this
theorem byte_at {h:Hp} {q e:Nat} {rw:Bool} {f:Nat×Nat} {s:Str} {junk:List Value} [x:Has h q rw (.cells (s.map jbK++junk).toArray e f)] (i:Nat) (hi:i<s.length):Rd B h ⟨q,0+(i:Int).toNat*1,none⟩ (.int .u8 ((s.getD i 0).toNat:Int)):=by
 refine Rd.held x.mem ?_
 rw [show 0+(i:Int).toNat*1=i by omega,List.getElem?_toArray,List.getElem?_append_left (by simpa using hi),List.getElem?_map,List.getElem?_eq_getElem hi,List.getD_eq_getElem?_getD,List.getElem?_eq_getElem hi];rfl
theorem f168_c (m:Md Tryz.prog B) (h:Hp) (s:Str) (hl:s.length≤100000):FnC m 168 #[str s] h fun v h'=>h'=h∧IsB (jgd s) v:=by
 refine jae Tryz.func168 rfl rfl (l:=(str s)::uu30) rfl ?_
 intro cf cs K hK
 refine D161 ?_;refine D221 ?_
 refine k_s2b rfl zq und9 und192 zK kdq (fun q6 N junk hjk=>k_hp (jad ?_));refine D155 ?_;refine D11 ?_
 refine jai (fun nn l h'=> ∃(i:Nat),nn=s.length-i∧(i≤s.length)∧(∀j,j<i→chOk j (s.getD j 0))∧(∃U:Nat→Value,l=((str s)::vw5 U 1 ((.slice (some ⟨q6,0,none⟩) s.length N)::(.int .i64 (s.length:Int))::(.int .i64 (i:Int))::vw22 U 9 [])))∧h++[⟨true,q6,.cells (s.map jbK++junk).toArray 5 (N,N+1)⟩]=h') _ ⟨0,rfl,by omega,fun j hj=>absurd hj zO,exU rfl,rfl⟩ ?_;rintro nn l h' ⟨i,rfl,hi,hch,⟨U,rfl⟩,rfl⟩ hnext;refine rs1 ?_;refine jan rfl zq (fun hc=>?_) (fun hc=>?_)
 ·refine D205 ?_;refine rs5 ?_;refine Zs ?_;refine D29 ?_;refine k_ld rfl zq (byte_at i zO) ?_
  obtain ⟨ch,hcc⟩: ∃ch,ch=s.getD i 0:=⟨_,rfl⟩
  rw [←hcc];have hcb:=ch.toNat_lt
  refine Zs ?_;refine D0 ?_;refine rs14 ?_;refine Zs ?_;refine jdS (n':=(ch.toNat:Int)) rfl zq zK (jc3 zL) ?_;refine D47 ?_
  rintro v (⟨hc,rfl⟩|⟨hc,rfl⟩)
  ·refine D189 ?_;refine Z9 ?_;refine D187 ?_;refine D159 ?_
   exact m.weak jaa (hnext _ _ _ zO ⟨i+1,rfl,by omega,by
    intro j hj
    by_cases e:j<i
    ·exact hch j e
    ·obtain rfl:j=i:=by omega
     rw [←hcc];unfold chOk
     omega,exU rfl,rfl⟩)
  ·refine D192 ?_;refine Z2 ?_
   refine jaM rfl rfl (fun hc=>?_) (fun hc=>?_)
   ·refine Z5 ?_;refine D61 ?_;refine D209 ?_;refine jac (h) rfl Tryz.func168 rfl jaa ?_;refine D5 ?_
    refine ⟨rfl,IsB.no fun e=>?_⟩
    have:=e.2 i zO
    rw [←hcc] at this
    unfold chOk at this
    omega
   ·refine Z2 ?_;refine jdS (n':=(ch.toNat:Int)) rfl rfl zK (jc3 zL) ?_;refine jaj (Post:=fun v=>IsB _ v) rfl rfl zK (fun H' hH=>f117_c m H' _ _ _) ?_
    rintro v (⟨hc,rfl⟩|⟨hc,rfl⟩)
    ·refine D229 ?_;refine D45 ?_;refine D13 ?_;refine D225 ?_
     exact m.weak jaa (hnext _ _ _ zO ⟨i+1,rfl,by omega,by
      intro j hj
      by_cases e:j<i
      ·exact hch j e
      ·obtain rfl:j=i:=by omega
       rw [←hcc];unfold chOk
       omega,exU rfl,rfl⟩)
    ·refine D9 ?_;refine jea rfl rfl ?_;refine D45 ?_;refine D209 ?_;refine jac (h) rfl Tryz.func168 rfl jaa ?_;refine D5 ?_
     refine ⟨rfl,IsB.no fun e=>?_⟩
     have:=e.2 i zO
     rw [←hcc] at this
     unfold chOk at this
     omega
 ·refine D175 ?_;refine D221 ?_;refine D60 ?_;refine D47 ?_
  rintro v (⟨hc,rfl⟩|⟨hc,rfl⟩);all_goals
   refine D220 ?_;refine jac (h) rfl Tryz.func168 rfl jaa ?_;refine D5 ?_
  ·refine ⟨rfl,IsB.yes ⟨by omega,fun j hj=>hch j zO⟩⟩
  ·refine ⟨rfl,IsB.no fun e=>?_⟩
   have:=e.1
   omega
theorem f215_c (m:Md Tryz.prog B) (h:Hp) {p:Option Addr} {n c:Nat} {ss:List Str} (rd:RdS B h 1 (.slice p n c) n (encs ss)) (hn:n≤100000) (s:Str):FnC m 215 #[.slice p n c,str s] h fun v h'=>h'=h∧ ∃x:Int,v= .int .i64 x∧In64 x∧(0≤x↔s∈ss):=by
 have hll0:=rd.elen zA
 refine jae Tryz.func215 rfl rfl (l:=(.slice p n c)::(str s)::uu17) rfl ?_
 intro cf cs K hK
 refine D161 ?_;refine rs3 ?_;refine Z3 ?_;refine D182 ?_
 refine jai (fun nn l h'=> ∃(i:Nat),nn=n-i∧(i≤n)∧(∀j,j<i→s≠ss.getD j [])∧(∃U:Nat→Value,l=((.slice p n c)::(str s)::vw5 U 2 ((.int .i64 (n:Int))::(.int .i64 (i:Int))::vw10 U 9 [])))∧h=h') _ ⟨0,rfl,by omega,fun j hj=>absurd hj zO,exU rfl,rfl⟩ ?_;rintro nn l h' ⟨i,rfl,hi,hno,⟨U,rfl⟩,rfl⟩ hnext;refine rs1 ?_;refine jan rfl zq (fun hc=>?_) (fun hc=>?_)
 ·refine D205 ?_;refine D152 ?_;refine D0 ?_;refine rs6 ?_;refine Z3 ?_
  obtain ⟨rd_b,rd_o,rfl⟩:=rd.ptr zO
  refine D19 ?_;refine k_ld rfl zq (rd.sat i zO zO) ?_
  by_cases hse:s=ss.getD i []
  ·refine jhm rfl zq hse ?_;refine D178 ?_;refine jac (h) rfl Tryz.func215 rfl jaa ?_;refine D5 ?_;have hll:=rd.elen zA
   exact E13
  ·refine jhn rfl zq hse ?_;refine D225 ?_;exact m.weak jaa (hnext _ _ _ zO ⟨i+1,rfl,by omega,by
    intro j hj
    by_cases e:j<i
    ·exact hno j e
    ·obtain rfl:j=i:=by omega
     exact hse,exU rfl,rfl⟩)
 ·refine D175 ?_;refine D153 ?_;refine jac (h) rfl Tryz.func215 rfl jaa ?_;refine D5 ?_
  have hll:=rd.elen zA
  refine ⟨rfl,_,rfl,by unfold In64;omega,⟨fun e=>by omega,fun e=>?_⟩⟩
  obtain ⟨j,hj,e2⟩:=List.mem_iff_getElem.1 e
  refine absurd ?_ (hno j zO)
  rw [List.getD_eq_getElem?_getD,List.getElem?_eq_getElem hj];exact e2.symm
theorem f169_c (m:Md Tryz.prog B) (h:Hp) {p:Option Addr} {n c:Nat} {ss:List Str} (rd:RdS B h 1 (.slice p n c) n (encs ss)) (hn:n≤100000) (s:Str):FnC m 169 #[.slice p n c,str s] h fun v h'=>h'=h∧IsB (s∈ss) v:=by
 refine jae Tryz.func169 rfl rfl (l:=(.slice p n c)::(str s)::uu7) rfl ?_
 intro cf cs K hK
 refine D162 ?_;refine D241 ?_;refine jaj (Post:=fun v=> ∃x:Int,v= .int .i64 x∧In64 x∧(0≤x↔s∈ss)) rfl zq zK (fun H' hH=>f215_c m H' (rd.keeps (sq hH)) hn s) ?_
 rintro v ⟨x,rfl,hx64,hxi⟩;refine D9 ?_
 refine jho rfl zq (fun hc=>?_) (fun hc=>?_)
 ·refine D146 ?_;refine jac (h) rfl Tryz.func169 rfl jaa ?_;refine D5 ?_
  exact ⟨rfl,IsB.yes (hxi.1 hc)⟩
 ·refine D146 ?_;refine jac (h) rfl Tryz.func169 rfl jaa ?_;refine D5 ?_
  exact ⟨rfl,IsB.no fun e=>absurd (hxi.2 e) zO⟩
theorem f121_c (m:Md Tryz.prog B) (h:Hp) {b:Tb} {ps:Option Addr} {ns ks:Nat} {pw:Option Addr} {nw cw:Nat} {pb:Option Addr} {nb cb:Nat} (rds:RdS B h 1 (.slice ps ns ks) ns (encs b.sts)) (hcs:ns≤ks) (hns:ns≤1000) (hsl: ∀s∈b.sts,s.length≤100000):FnC m 121 #[tbV b ps ns ks pw nw cw pb nb cb] h fun v h'=>h'=h∧v= .int .i64 (jdJ b):=by
 have hml:=rds.elen zA
 refine jae Tryz.func121 rfl rfl (l:=(tbV b ps ns ks pw nw cw pb nb cb)::uu39) rfl ?_
 intro cf cs K hK
 refine rs2 ?_;refine jaQ rfl zq (fun q1=>k_hp (jad ?_));refine D150 ?_;refine D11 ?_;refine rs6 ?_;refine Z3 ?_;refine D47 ?_
 rintro v (⟨hc,rfl⟩|⟨hc,rfl⟩)
 ·refine D189 ?_;refine D169 ?_;refine rs7 ?_;refine Z4 ?_;refine D47 ?_
  rintro v (⟨hc,rfl⟩|⟨hc,rfl⟩)
  ·refine D189 ?_;refine D169 ?_;refine D7 ?_;refine D12 ?_;refine D2 ?_;refine rs5 ?_;refine Z5 ?_;refine D182 ?_
   refine jai (fun nn l h'=> ∃(i:Nat),nn=ns-i∧(i≤ns)∧(jcS [] b.sts=jcS (b.sts.take i) (b.sts.drop i))∧(∃U:Nat→Value,l=((tbV b ps ns ks pw nw cw pb nb cb)::(.pointer (some ⟨q1,0,none⟩))::vw18 U 2 ((.slice ps ns ks)::(.int .i64 (ns:Int))::(.int .i64 (i:Int))::vw17 U 23 [])))∧h++[⟨true,q1,.cells (tbL b ps ns ks pw nw cw pb nb cb).toArray 127 (0,0)⟩]=h') _ ⟨0,rfl,by omega,by simp,exU rfl,rfl⟩ ?_;rintro nn l h' ⟨i,rfl,hi,hnm,⟨U,rfl⟩,rfl⟩ hnext;refine rs1 ?_;refine jan rfl zq (fun hc=>?_) (fun hc=>?_)
   ·refine D205 ?_;refine rs5 ?_;refine Zs ?_
    obtain ⟨rds_b,rds_o,rfl⟩:=rds.ptr zO
    refine D19 ?_;refine k_ld rfl zq (rds.sat i zO zO) ?_;refine Zs ?_;refine D0 ?_;refine D11 ?_;refine D2 ?_
    have hdr:b.sts.drop i=b.sts.getD i []::b.sts.drop (i+1):=jjf zO
    have hsi:(b.sts.getD i []).length≤100000:=hsl _ (jak (l:=b.sts) zO)
    have rdt:=rds.pre (m:=i) zO
    rw [Nat.mul_one,←jiv] at rdt
    refine rr4 ?_;refine Zs ?_;refine jaj (Post:=fun v=>IsB _ v) rfl zq zK (fun H' hH=>f168_c m H' _ hsi) ?_;rintro v (⟨hc,rfl⟩|⟨hc,rfl⟩)
    ·refine D189 ?_;refine D169 ?_;refine rs8 ?_;refine Z4 ?_;refine jl6 (b:=i) rfl zq rds.okp rfl zO ?_;refine Zs ?_;refine jaj (Post:=fun v=>IsB _ v) rfl zq zK (fun H' hH=>f169_c m H' (rdt.keeps (sq hH)) zO _) ?_
     rintro v (⟨hc,rfl⟩|⟨hc,rfl⟩)
     ·refine D9 ?_;refine D233 ?_;refine D132 ?_;refine D5 ?_
      refine ⟨rfl,congrArg (Value.int .i64) ?_⟩
      first
       |exact (jcy zO).symm
       |exact (jcx zO zO).symm
       |(rw [ja1 zO zO,hnm,hdr];exact E14)
       |(rw [ja1 zO zO,hnm,List.drop_eq_nil_of_le zO];rfl)
     ·refine D9 ?_;refine D169 ?_;refine D7 ?_;refine D12 ?_;refine D159 ?_
      exact m.weak jaa (hnext _ _ _ zO ⟨i+1,rfl,by omega,by rw [hnm,hdr,jlX zD zD,←jh9 b.sts i zO],exU rfl,rfl⟩)
    ·refine D192 ?_;refine D233 ?_;refine D132 ?_;refine D5 ?_
     refine ⟨rfl,congrArg (Value.int .i64) ?_⟩
     first
      |exact (jcy zO).symm
      |exact (jcx zO zO).symm
      |(rw [ja1 zO zO,hnm,hdr];exact E14)
      |(rw [ja1 zO zO,hnm,List.drop_eq_nil_of_le zO];rfl)
   ·refine D175 ?_;refine D153 ?_;refine D132 ?_;refine D5 ?_
    refine ⟨rfl,congrArg (Value.int .i64) ?_⟩
    first
     |exact (jcy zO).symm
     |exact (jcx zO zO).symm
     |(rw [ja1 zO zO,hnm,hdr];exact E14)
     |(rw [ja1 zO zO,hnm,List.drop_eq_nil_of_le zO];rfl)
  ·refine D192 ?_;refine D233 ?_;refine D132 ?_;refine D5 ?_
   refine ⟨rfl,congrArg (Value.int .i64) ?_⟩
   first
    |exact (jcy zO).symm
    |exact (jcx zO zO).symm
    |(rw [ja1 zO zO,hnm,hdr];exact E14)
    |(rw [ja1 zO zO,hnm,List.drop_eq_nil_of_le zO];rfl)
 ·refine D192 ?_;refine D233 ?_;refine D132 ?_;refine D5 ?_
  refine ⟨rfl,congrArg (Value.int .i64) ?_⟩
  first
   |exact (jcy zO).symm
   |exact (jcx zO zO).symm
   |(rw [ja1 zO zO,hnm,hdr];exact E14)
   |(rw [ja1 zO zO,hnm,List.drop_eq_nil_of_le zO];rfl)
theorem jaG {ls:List Ln} {i:Nat} (h:0<i):jk0 ls i=some (ls.getD (i-1) default).lat:=by
 match i,h with
 |i+1,_=>rfl
theorem jaR (lps:List Lp) (i:Nat) (h:i<lps.length):(lps.map (·.ln)).getD i default=(lps.getD i default).ln:=by
 rw [List.getD_eq_getElem?_getD,List.getElem?_map,List.getElem?_eq_getElem h,List.getD_eq_getElem?_getD,List.getElem?_eq_getElem h];rfl
theorem f170_c (m:Md Tryz.prog B) (h:Hp) {b:Tb} {ps:Option Addr} {ns ks:Nat} {pw:Option Addr} {nw cw:Nat} {pb:Option Addr} {nb cb:Nat} (rds:RdS B h 1 (.slice ps ns ks) ns (encs b.sts)) (hcs:ns≤ks) (hns:ns≤1000) (hsl: ∀s∈b.sts,s.length≤100000) {pl:Option Addr} {nl cl:Nat} {lns:List Ln} (hln:RdLn B h (.slice pl nl cl) nl lns) (hnl:nl≤1000) (hsm: ∀l∈lns,l.figs.length≤1000∧ ∀f∈l.figs,f.length≤100000):FnC m 170 #[tbV b ps ns ks pw nw cw pb nb cb,.slice pl nl cl] h fun v h'=>h'=h∧v= .int .i64 (jat b.sts.length lns):=by
 have hml:=rds.elen zA
 obtain ⟨lps,rfl,rl,hfig⟩:=hln
 have hll:=rl.elen zA
 refine jae Tryz.func170 rfl rfl (l:=(tbV b ps ns ks pw nw cw pb nb cb)::(.slice pl nl cl)::uu67) rfl ?_
 intro cf cs K hK
 refine rs2 ?_;refine jaQ rfl zq (fun q2=>k_hp (jad ?_));refine D150 ?_;refine D203 ?_
 refine jaF rfl zq (fun hc=>?_) (fun hc=>?_)
 ·refine D166 ?_;refine D83 ?_;refine D5 ?_
  refine ⟨rfl,congrArg (Value.int .i64) ?_⟩
  first
   |(rw [jat,if_pos zI];done)
   |(rw [jat,if_neg zI,hlm];first
     |(rw [List.drop_eq_nil_of_le zI];rfl)
     |(rw [hdr];first
       |exact (jbF zO).symm
       |exact E15
       |exact E16
       |exact E17))
 ·refine D165 ?_;refine rs3 ?_;refine Z3 ?_;refine D182 ?_
  refine jai (fun nn l h'=> ∃(i:Nat),nn=nl-i∧(i≤nl)∧(jbB b.sts.length none (lps.map (·.ln))=jbB b.sts.length (jk0 (lps.map (·.ln)) i) ((lps.map (·.ln)).drop i))∧(∃U:Nat→Value,l=((tbV b ps ns ks pw nw cw pb nb cb)::(.slice pl nl cl)::(.pointer (some ⟨q2,0,none⟩))::vw11 U 3 ((.slice pl nl cl)::(.int .i64 (nl:Int))::(.int .i64 (i:Int))::vw52 U 17 [])))∧h++[⟨true,q2,.cells (tbL b ps ns ks pw nw cw pb nb cb).toArray 127 (0,0)⟩]=h') _ ⟨0,rfl,by omega,rfl,exU rfl,rfl⟩ ?_;rintro nn l h' ⟨i,rfl,hi,hlm,⟨U,rfl⟩,rfl⟩ hnext1;refine rs1 ?_;refine jan rfl zq (fun hc=>?_) (fun hc=>?_)
  ·refine D191 ?_
   obtain ⟨rl_b,rl_o,rfl⟩:=rl.ptr zO
   refine rr6 ?_;refine Zs ?_;refine D29 ?_;refine jcU (vs:=[.int .i64 (lps.getD i default).ln.lat,.slice (lps.getD i default).p (lps.getD i default).ln.figs.length (lps.getD i default).c]) rfl zq rfl (rl.eat i zO zO) ?_;obtain ⟨x,hx⟩: ∃x,x=lps.getD i default:=⟨_,rfl⟩
   rw [←hx];refine jau rfl zq (fun q6=>k_hp (jad ?_));refine Zs ?_;refine D22 ?_;refine D151 ?_;refine D11 ?_;refine D2 ?_
   have hxm:x∈lps:=hx▸jak zO
   obtain ⟨hxc,rdf0⟩:=hfig x hxm
   have hdr:(lps.map (·.ln)).drop i=x.ln::(lps.map (·.ln)).drop (i+1):=by rw [jjf zI,jaR _ _ zO,←hx]
   obtain ⟨hfl,hfs⟩:=hsm x.ln (List.mem_map.2 ⟨x,hxm,rfl⟩)
   refine rr5 ?_;refine Z2 ?_;refine D47 ?_;rintro v (⟨hc,rfl⟩|⟨hc,rfl⟩)
   ·refine D189 ?_;refine D169 ?_;refine D2 ?_;refine jaq [(0,.pure),(1,.pure),(2,.pure),(3,.pure),(5,.pure),(6,.pure),(7,.pure),(8,.pure),(9,.pure),(4,.read),(10,.read),(11,.pure),(12,.pure),(13,.pure)] zK zK (List.Sublist.refl _) ?_;refine Zs ?_
    refine jaF rfl zq (fun hc=>?_) (fun hc=>?_)
    ·refine Z5 ?_;refine jdl rfl rfl rfl zO zO ?_;refine Z2 ?_;refine D134 ?_
     refine jeF rfl rfl (fun hc=>?_) (fun hc=>?_)
     ·refine D13 ?_;refine D233 ?_;refine D83 ?_;refine D5 ?_
      refine ⟨rfl,congrArg (Value.int .i64) ?_⟩
      first
       |(rw [jat,if_pos zI];done)
       |(rw [jat,if_neg zI,hlm];first
         |(rw [List.drop_eq_nil_of_le zI];rfl)
         |(rw [hdr];first
           |exact (jbF zO).symm
           |exact E15
           |exact E16
           |exact E17))
     ·refine D236 ?_;refine D2 ?_
      have hnu: ¬jgp (jk0 (lps.map (·.ln)) i) x.ln.lat:=by
       rintro ⟨y,e1,e2⟩;first
        |(have hi0:i=0:=by omega
          subst hi0
          cases e1)
        |(rw [jaG zO,jaR _ _ zO] at e1;have e3:=Option.some.inj e1;omega)
      refine rr9 ?_;refine Z7 ?_;refine ja4 rfl zq (fun hc=>?_) (fun hc=>?_)
      ·refine D233 ?_;refine D83 ?_;refine D5 ?_
       refine ⟨rfl,congrArg (Value.int .i64) ?_⟩
       first
        |(rw [jat,if_pos zI];done)
        |(rw [jat,if_neg zI,hlm];first
          |(rw [List.drop_eq_nil_of_le zI];rfl)
          |(rw [hdr];first
            |exact (jbF zO).symm
            |exact E15
            |exact E16
            |exact E17))
      ·refine D169 ?_;refine D7 ?_;refine D12 ?_;refine rs4 ?_;refine Z4 ?_;refine D182 ?_
       refine jai (fun nn l h'=> ∃(k:Nat),nn=x.ln.figs.length-k∧(k≤x.ln.figs.length)∧(∀j,j<k→ja7 (x.ln.figs.getD j [])=true)∧(∃U:Nat→Value,l=((tbV b ps ns ks pw nw cw pb nb cb)::(.slice (some ⟨rl_b,rl_o,none⟩) nl cl)::(.pointer (some ⟨q2,0,none⟩))::vw11 U 3 ((.slice (some ⟨rl_b,rl_o,none⟩) nl cl)::(.int .i64 (nl:Int))::(.int .i64 (i:Int))::vw33 U 17 ((.slice x.p x.ln.figs.length x.c)::(.int .i64 (x.ln.figs.length:Int))::(.int .i64 (k:Int))::vw16 U 53 []))))∧h++[⟨true,q2,.cells (tbL b ps ns ks pw nw cw pb nb cb).toArray 127 (0,0)⟩,⟨true,q6,.cells [.int .i64 x.ln.lat,.slice x.p x.ln.figs.length x.c].toArray 121 (0,0)⟩]=h') _ ⟨0,rfl,by omega,fun j hj=>absurd hj zO,exU rfl,rfl⟩ ?_;rintro nn l h' ⟨k,rfl,hk,hfk,⟨U,rfl⟩,rfl⟩ hnext2;refine rs1 ?_;refine jan rfl zq (fun hc=>?_) (fun hc=>?_)
       ·refine D191 ?_
        have rdf:=rdf0 zO
        obtain ⟨fb,fo,hfp⟩:=rdf.ptr zO
        have rdg:=rdf
        rw [hfp] at rdg
        have hsk:(x.ln.figs.getD k []).length≤100000:=hfs _ (jak (l:=x.ln.figs) zO)
        refine rr3 ?_;refine D66 ?_;refine D126 ?_;refine D0 ?_;refine rs8 ?_;refine Zs ?_;refine jaj (Post:=fun v=>v=_) rfl zq zK (fun H' hH=>f119_c m H' _ hsk) ?_;rintro v rfl;refine D9 ?_;refine Z3 ?_
        refine jau rfl zq (fun q9=>k_hp (jad ?_));refine D64 ?_;refine D150 ?_
        cases hfo:jaY (x.ln.figs.getD k [])
        all_goals
         refine rr6 ?_;refine Zs ?_
        ·refine D40 ?_;refine Z2 ?_
         by_cases hda:x.ln.figs.getD k []=[45]
         ·refine jfN rfl rfl hda ?_;refine D13 ?_;refine D225 ?_;exact m.weak jaa (hnext2 _ _ _ zO ⟨k+1,rfl,by omega,fun j hj=>by
           by_cases e:j<k
           ·exact hfk j e
           ·obtain rfl:j=k:=by omega
            first|(rw [ja7,hfo];rfl)|(rw [ja7,decide_eq_true (show x.ln.figs.getD j []=dash from hda)];simp),exU rfl,rfl⟩)
         ·refine jhl rfl rfl hda ?_;refine D209 ?_;refine D83 ?_;refine D5 ?_;refine ⟨rfl,congrArg (Value.int .i64) ?_⟩
          first
           |(rw [jat,if_pos zI];done)
           |(rw [jat,if_neg zI,hlm];first
             |(rw [List.drop_eq_nil_of_le zI];rfl)
             |(rw [hdr];first
               |exact (jbF zO).symm
               |exact E15
               |exact E16
               |exact E17))
        ·refine D38 ?_;refine Z3 ?_;refine D187 ?_;refine D159 ?_
         exact m.weak jaa (hnext2 _ _ _ zO ⟨k+1,rfl,by omega,fun j hj=>by
          by_cases e:j<k
          ·exact hfk j e
          ·obtain rfl:j=k:=by omega
           first|(rw [ja7,hfo];rfl)|(rw [ja7,decide_eq_true (show x.ln.figs.getD j []=dash from hda)];simp),exU rfl,rfl⟩)
       ·refine D175 ?_;refine D12 ?_
        have hall: ∀f∈x.ln.figs,ja7 f=true:=fun f hf=>by
         obtain ⟨j,hj,e⟩:=List.mem_iff_getElem.1 hf
         have:=hfk j zO
         rw [List.getD_eq_getElem?_getD,List.getElem?_eq_getElem hj] at this
         exact e▸this
        refine D156 ?_
        exact E18
    ·refine Z10 ?_;refine D208 ?_;refine D2 ?_
     have hnu: ¬jgp (jk0 (lps.map (·.ln)) i) x.ln.lat:=by
      rintro ⟨y,e1,e2⟩;first
       |(have hi0:i=0:=by omega
         subst hi0
         cases e1)
       |(rw [jaG zO,jaR _ _ zO] at e1;have e3:=Option.some.inj e1;omega)
     refine rr9 ?_;refine Z7 ?_;refine ja4 rfl zq (fun hc=>?_) (fun hc=>?_)
     ·refine D233 ?_;refine D83 ?_;refine D5 ?_
      refine ⟨rfl,congrArg (Value.int .i64) ?_⟩
      first
       |(rw [jat,if_pos zI];done)
       |(rw [jat,if_neg zI,hlm];first
         |(rw [List.drop_eq_nil_of_le zI];rfl)
         |(rw [hdr];first
           |exact (jbF zO).symm
           |exact E15
           |exact E16
           |exact E17))
     ·refine D169 ?_;refine D7 ?_;refine D12 ?_;refine rs4 ?_;refine Z4 ?_;refine D182 ?_
      refine jai (fun nn l h'=> ∃(k:Nat),nn=x.ln.figs.length-k∧(k≤x.ln.figs.length)∧(∀j,j<k→ja7 (x.ln.figs.getD j [])=true)∧(∃U:Nat→Value,l=((tbV b ps ns ks pw nw cw pb nb cb)::(.slice (some ⟨rl_b,rl_o,none⟩) nl cl)::(.pointer (some ⟨q2,0,none⟩))::vw11 U 3 ((.slice (some ⟨rl_b,rl_o,none⟩) nl cl)::(.int .i64 (nl:Int))::(.int .i64 (i:Int))::vw33 U 17 ((.slice x.p x.ln.figs.length x.c)::(.int .i64 (x.ln.figs.length:Int))::(.int .i64 (k:Int))::vw16 U 53 []))))∧h++[⟨true,q2,.cells (tbL b ps ns ks pw nw cw pb nb cb).toArray 127 (0,0)⟩,⟨true,q6,.cells [.int .i64 x.ln.lat,.slice x.p x.ln.figs.length x.c].toArray 121 (0,0)⟩]=h') _ ⟨0,rfl,by omega,fun j hj=>absurd hj zO,exU rfl,rfl⟩ ?_;rintro nn l h' ⟨k,rfl,hk,hfk,⟨U,rfl⟩,rfl⟩ hnext2;refine rs1 ?_;refine jan rfl zq (fun hc=>?_) (fun hc=>?_)
      ·refine D191 ?_
       have rdf:=rdf0 zO
       obtain ⟨fb,fo,hfp⟩:=rdf.ptr zO
       have rdg:=rdf
       rw [hfp] at rdg
       have hsk:(x.ln.figs.getD k []).length≤100000:=hfs _ (jak (l:=x.ln.figs) zO)
       refine rr3 ?_;refine D66 ?_;refine D126 ?_;refine D0 ?_;refine rs8 ?_;refine Zs ?_;refine jaj (Post:=fun v=>v=_) rfl zq zK (fun H' hH=>f119_c m H' _ hsk) ?_;rintro v rfl;refine D9 ?_;refine Z3 ?_
       refine jau rfl zq (fun q9=>k_hp (jad ?_));refine D64 ?_;refine D150 ?_
       cases hfo:jaY (x.ln.figs.getD k [])
       all_goals
        refine rr6 ?_;refine Zs ?_
       ·refine D40 ?_;refine Z2 ?_
        by_cases hda:x.ln.figs.getD k []=[45]
        ·refine jfN rfl rfl hda ?_;refine D13 ?_;refine D225 ?_;exact m.weak jaa (hnext2 _ _ _ zO ⟨k+1,rfl,by omega,fun j hj=>by
          by_cases e:j<k
          ·exact hfk j e
          ·obtain rfl:j=k:=by omega
           first|(rw [ja7,hfo];rfl)|(rw [ja7,decide_eq_true (show x.ln.figs.getD j []=dash from hda)];simp),exU rfl,rfl⟩)
        ·refine jhl rfl rfl hda ?_;refine D209 ?_;refine D83 ?_;refine D5 ?_;refine ⟨rfl,congrArg (Value.int .i64) ?_⟩
         first
          |(rw [jat,if_pos zI];done)
          |(rw [jat,if_neg zI,hlm];first
            |(rw [List.drop_eq_nil_of_le zI];rfl)
            |(rw [hdr];first
              |exact (jbF zO).symm
              |exact E15
              |exact E16
              |exact E17))
       ·refine D38 ?_;refine Z3 ?_;refine D187 ?_;refine D159 ?_
        exact m.weak jaa (hnext2 _ _ _ zO ⟨k+1,rfl,by omega,fun j hj=>by
         by_cases e:j<k
         ·exact hfk j e
         ·obtain rfl:j=k:=by omega
          first|(rw [ja7,hfo];rfl)|(rw [ja7,decide_eq_true (show x.ln.figs.getD j []=dash from hda)];simp),exU rfl,rfl⟩)
      ·refine D175 ?_;refine D12 ?_
       have hall: ∀f∈x.ln.figs,ja7 f=true:=fun f hf=>by
        obtain ⟨j,hj,e⟩:=List.mem_iff_getElem.1 hf
        have:=hfk j zO
        rw [List.getD_eq_getElem?_getD,List.getElem?_eq_getElem hj] at this
        exact e▸this
       refine D156 ?_
       exact E18
   ·refine D192 ?_;refine D233 ?_;refine D83 ?_;refine D5 ?_
    refine ⟨rfl,congrArg (Value.int .i64) ?_⟩
    first
     |(rw [jat,if_pos zI];done)
     |(rw [jat,if_neg zI,hlm];first
       |(rw [List.drop_eq_nil_of_le zI];rfl)
       |(rw [hdr];first
         |exact (jbF zO).symm
         |exact E15
         |exact E16
         |exact E17))
  ·refine D175 ?_;refine D153 ?_;refine D83 ?_;refine D5 ?_
   refine ⟨rfl,congrArg (Value.int .i64) ?_⟩
   first
    |(rw [jat,if_pos zI];done)
    |(rw [jat,if_neg zI,hlm];first
      |(rw [List.drop_eq_nil_of_le zI];rfl)
      |(rw [hdr];first
        |exact (jbF zO).symm
        |exact E15
        |exact E16
        |exact E17))
def halvesL:List Value:=[str [119,97,116,101,114],.bool false,.func (.func 261) #[] #[],str [98,117,116,116],.bool true,.func (.func 262) #[] #[]]
def hwS (i:Nat):Str:=if i=0 then [119,97,116,101,114] else [98,117,116,116]
def hbS (i:Nat):Bool:=decide (i≠0)
def hL (b:Tb) (i:Nat):List Ln:=if i=0 then b.waters else b.butts
theorem half_get (i:Nat) (hi:i<2):(halvesL.drop ((i:Int).toNat*3)).take 3=[str (hwS i),.bool (hbS i),.func (.func (261+i)) #[] #[]]:=by
 rcases (by omega:i=0∨i=1) with rfl|rfl<;>rfl
theorem jht (i:Nat) (hi:i<2):jbz Tryz.prog (261+i)=true:=by
 rcases (by omega:i=0∨i=1) with rfl|rfl<;>kernel_rfl
theorem je2 {α:Type} [Inhabited α] (f:α→Nat) (xs:List α) (k:Nat) (h:k<xs.length):((xs.take (k+1)).map f).sum=((xs.take k).map f).sum+f (xs.getD k default):=by
 rw [jbH xs k h,List.map_append,List.sum_append];simp
theorem jgP {α:Type} (f:α→Nat) (c:Nat): ∀(xs:List α),(∀x∈xs,f x≤c)→(xs.map f).sum≤xs.length*c
 |[],_=>by simp
 |x::r,h=>by
  have h1:=h x zS
  have h2:=jgP f c r fun y hy=>h y (by simp [hy])
  simp only [List.map_cons,List.sum_cons,List.length_cons,Nat.add_mul]
  omega
theorem jgT (s:Str):smuF s≤3:=by
 have:=List.countP_le_length (p:=fun x:Int=>decide (x= -1)) (l:=jar s)
 rw [(jaW s).len] at this
 exact this
theorem jiP {l:Ln} (h:l.figs.length≤1000):smuN l≤3000:=by
 have:=jgP smuF 3 l.figs fun s _=>jgT s
 unfold smuN
 omega
theorem jnP {ls:List Ln} (h:ls.length≤1000) (hf: ∀l∈ls,l.figs.length≤1000):smuL ls≤3000000:=by
 have:=jgP smuN 3000 ls fun l hl=>jiP (hf l hl)
 unfold smuL
 omega
theorem jbv {h:Hp} {p:Option Addr} {n c:Nat} {ls:List Ln} (r:RdLn B h (.slice p n c) n ls):ls.length=n:=by
 obtain ⟨lps,hle,rl,_⟩:=r
 rw [←hle,List.length_map,rl.elen zA]
def cntH (b:Tb) (i:Nat):Nat:=((List.range i).map fun j=>smuL (hL b j)).sum
theorem jpq (b:Tb) (i:Nat):cntH b (i+1)=cntH b i+smuL (hL b i):=by
 rw [cntH,List.range_succ,List.map_append,List.sum_append];simp [cntH]
theorem f261_c (m:Md Tryz.prog B) (h:Hp) (q:Nat):FnC m 261 #[.pointer (some ⟨q,0,none⟩)] h fun v h'=>h'=h∧v= .pointer (some ⟨q,2,none⟩):=by
 refine jae Tryz.func261 rfl rfl (l:=[.pointer (some ⟨q,0,none⟩),undef,undef,undef,undef,undef]) rfl ?_
 intro cf cs K hK
 refine D162 ?_;refine D221 ?_
 refine jal rfl zq ?_;refine D195 ?_;refine jac (h) rfl Tryz.func261 rfl jaa ?_;refine D5 ?_
 exact ⟨rfl,rfl⟩
theorem f262_c (m:Md Tryz.prog B) (h:Hp) (q:Nat):FnC m 262 #[.pointer (some ⟨q,0,none⟩)] h fun v h'=>h'=h∧v= .pointer (some ⟨q,3,none⟩):=by
 refine jae Tryz.func262 rfl rfl (l:=[.pointer (some ⟨q,0,none⟩),undef,undef,undef,undef,undef]) rfl ?_
 intro cf cs K hK
 refine D162 ?_;refine D221 ?_
 refine jal rfl zq ?_;refine D195 ?_;refine jac (h) rfl Tryz.func262 rfl jaa ?_;refine D5 ?_
 exact ⟨rfl,rfl⟩
theorem jo1 (m:Md Tryz.prog B) (h:Hp) (q i:Nat) (hi:i<2):FnC m (261+i) #[.pointer (some ⟨q,0,none⟩)] h fun v h'=>h'=h∧v= .pointer (some ⟨q,2+i,none⟩):=by
 rcases (by omega:i=0∨i=1) with rfl|rfl
 ·exact f261_c m h q
 ·exact f262_c m h q
theorem joZ {h:Hp} {b:Tb} {ps:Option Addr} {ns ks:Nat} {pw:Option Addr} {nw cw:Nat} {pb:Option Addr} {nb cb:Nat} (rdw:RdLn B h (.slice pw nw cw) nw b.waters) (hw:nw≤1000) (rdb:RdLn B h (.slice pb nb cb) nb b.butts) (hb:nb≤1000) (i:Nat) (hi:i<2):
  ∃pl nl cl,(tbL b ps ns ks pw nw cw pb nb cb)[2+i]?=some (.slice pl nl cl)∧RdLn B h (.slice pl nl cl) nl (hL b i)∧nl≤1000:=by
 rcases (by omega:i=0∨i=1) with rfl|rfl
 ·exact ⟨pw,nw,cw,rfl,rdw,hw⟩
 ·exact ⟨pb,nb,cb,rfl,rdb,hb⟩
theorem rd_nth {h:Hp} {q o:Nat} {rw:Bool} {cs:List Value} {t:TypeId} {f:Nat×Nat} {v:Value} [x:Has h q rw (.cells cs.toArray t f)] (e:cs[o]?=some v):Rd B h ⟨q,o,none⟩ v:=Rd.held x.mem (by simpa using e)
theorem f122_c (m:Md Tryz.prog B) (h:Hp) {b:Tb} {ps:Option Addr} {ns ks:Nat} {pw:Option Addr} {nw cw:Nat} {pb:Option Addr} {nb cb:Nat} (rds:RdS B h 1 (.slice ps ns ks) ns (encs b.sts)) (hcs:ns≤ks) (hns:ns≤1000) (hsl: ∀s∈b.sts,s.length≤100000) (rdw:RdLn B h (.slice pw nw cw) nw b.waters) (hnw:nw≤1000) (rdb:RdLn B h (.slice pb nb cb) nb b.butts) (hnb:nb≤1000) (hsm:TbSm b):FnC m 122 #[tbV b ps ns ks pw nw cw pb nb cb] h fun v h'=>h'=h∧v= .int .i64 (jhJ b):=by
 have hml:=rds.elen zA
 have hsw:=jnP (ls:=b.waters) (by rw [jbv rdw];exact hnw) fun l hl=>(hsm.wat l hl).1
 have hsb:=jnP (ls:=b.butts) (by rw [jbv rdb];exact hnb) fun l hl=>(hsm.but l hl).1
 refine jae Tryz.func122 rfl rfl (l:=(tbV b ps ns ks pw nw cw pb nb cb)::uu56) rfl ?_
 intro cf cs K hK
 refine rs2 ?_;refine jaQ rfl zq (fun q1=>k_hp (jad ?_));refine D0 ?_;refine D161 ?_;refine rs2 ?_;refine jcU (vs:=halvesL) rfl zq rfl jeV ?_;refine D243 ?_
 refine jai (fun nn l h'=> ∃(i:Nat),nn=2-i∧(i≤2)∧(∀j,j<i→jat b.sts.length (hL b j)=0)∧(∃U:Nat→Value,l=((tbV b ps ns ks pw nw cw pb nb cb)::(.pointer (some ⟨q1,0,none⟩))::(U 2)::(.int .i64 (cntH b i:Int))::vw10 U 4 ((.agg halvesL.toArray)::(.int .i64 (i:Int))::vw41 U 16 [])))∧h++[⟨true,q1,.cells (tbL b ps ns ks pw nw cw pb nb cb).toArray 127 (0,0)⟩]=h') _ ⟨0,rfl,by omega,fun j hj=>absurd hj zO,exU rfl,rfl⟩ ?_;rintro nn l h' ⟨i,rfl,hi,hz,⟨U,rfl⟩,rfl⟩ hnext1;have hcb:cntH b i≤i*3000000:=by
  rcases (by omega:i=0∨i=1∨i=2) with rfl|rfl|rfl<;>simp [cntH,List.range_succ,hL]<;>omega
 refine rs1 ?_;refine jan rfl zq (fun hc=>?_) (fun hc=>?_)
 ·refine D205 ?_;refine rs3 ?_;refine jl9 rfl zq zO zO (half_get i zO) ?_
  refine jau rfl zq (fun q5=>k_hp (jad ?_));refine D22 ?_;refine D151 ?_
  obtain ⟨pl,nl,cl,hsl1,hln,hnl⟩:=joZ (B:=B) (b:=b) (ps:=ps) (ns:=ns) (ks:=ks) rdw hnw rdb hnb i zO
  have hsmi: ∀l∈hL b i,l.figs.length≤1000∧ ∀f∈l.figs,f.length≤100000:=by
   unfold hL
   split
   ·exact hsm.wat
   ·exact hsm.but
  refine rr7 ?_;refine Z3 ?_;refine D115 ?_;rintro v rfl;refine D9 ?_
  refine jal rfl zq ?_;refine k_ld (v:= .slice pl nl cl) rfl zq (rd_nth hsl1) ?_;refine D150 ?_;refine D212 ?_;refine jaj (Post:=fun v=>v=_) rfl zq zK (fun H' hH=>f170_c m H' (rds.keeps (sq hH)) hcs hns hsl (hln.keeps (sq hH)) hnl hsmi) ?_;rintro v rfl;refine D235 ?_
  refine ja4 rfl zq (fun hc=>?_) (fun hc=>?_)
  ·refine D178 ?_;refine jac (h) rfl Tryz.func122 rfl jaa ?_;refine D5 ?_
   refine ⟨rfl,congrArg (Value.int .i64) ?_⟩
   rcases (by omega:i=0∨i=1) with rfl|rfl
   ·rw [jhJ,if_pos (show jat b.sts.length b.waters≠0 by assumption)];rfl
   ·rw [jhJ,if_neg (fun e=>e (hz 0 zO)),if_pos (show jat b.sts.length b.butts≠0 by assumption)];rfl
  ·refine D165 ?_
   obtain ⟨lps,hle,rl,hfig⟩:=hln
   have hll:=rl.elen zA
   have hln2:(hL b i).length=nl:=by rw [←hle,List.length_map,hll]
   refine rr3 ?_;refine Z3 ?_;refine D182 ?_;rw [show (cntH b i:Int)=((cntH b i+((hL b i).take 0|>.map smuN).sum:Nat):Int) by simp];refine jai (fun nn l h'=> ∃(k:Nat),nn=nl-k∧(k≤nl)∧(∃U:Nat→Value,l=((tbV b ps ns ks pw nw cw pb nb cb)::(.pointer (some ⟨q1,0,none⟩))::(U 2)::(.int .i64 ((cntH b i+((hL b i).take k|>.map smuN).sum:Nat):Int))::vw10 U 4 ((.agg halvesL.toArray)::(.int .i64 (i:Int))::vw14 U 16 ((.slice pl nl cl)::(.int .i64 (nl:Int))::(.int .i64 (k:Int))::vw24 U 33 []))))∧h++[⟨true,q1,.cells (tbL b ps ns ks pw nw cw pb nb cb).toArray 127 (0,0)⟩,⟨true,q5,.cells [str (hwS i),.bool (hbS i),.func (.func (261+i)) #[] #[]].toArray 184 (0,0)⟩]=h') _ ⟨0,rfl,by omega,exU rfl,rfl⟩ ?_;rintro nn l h' ⟨k,rfl,hk,⟨U,rfl⟩,rfl⟩ hnext2;have hsk:((hL b i).take k|>.map smuN).sum≤k*3000:=Nat.le_trans (jgP smuN 3000 _ fun l hl=>jiP (hsmi l (List.mem_of_mem_take hl)).1) (Nat.mul_le_mul_right _ zN)
   refine rs1 ?_;refine jan rfl zq (fun hc=>?_) (fun hc=>?_)
   ·refine D191 ?_
    obtain ⟨rl_b,rl_o,rfl⟩:=rl.ptr zO
    refine rr4 ?_;refine D29 ?_;refine D82 ?_;obtain ⟨x,hx⟩: ∃x,x=lps.getD k default:=⟨_,rfl⟩
    rw [←hx];refine jau rfl zq (fun q9=>k_hp (jad ?_));refine D22 ?_;refine D151 ?_
    have hxm:x∈lps:=hx▸jak zO
    obtain ⟨hxc,rdf0⟩:=hfig x hxm
    have hxl:(hL b i).getD k default=x.ln:=by rw [←hle,jaR _ _ zO,←hx]
    obtain ⟨hfl,hfs⟩:=hsmi x.ln (hxl▸jak zO)
    have hkb:k*3000≤1000*3000:=Nat.mul_le_mul_right _ zO
    refine rr4 ?_;refine Z4 ?_;refine D182 ?_;rw [show ((cntH b i+((hL b i).take k|>.map smuN).sum:Nat):Int)=((cntH b i+((hL b i).take k|>.map smuN).sum+((x.ln.figs.take 0).map smuF).sum:Nat):Int) by simp];refine jai (fun nn l h'=> ∃(j:Nat),nn=x.ln.figs.length-j∧(j≤x.ln.figs.length)∧(∃U:Nat→Value,l=((tbV b ps ns ks pw nw cw pb nb cb)::(.pointer (some ⟨q1,0,none⟩))::(U 2)::(.int .i64 ((cntH b i+((hL b i).take k|>.map smuN).sum+((x.ln.figs.take j).map smuF).sum:Nat):Int))::vw10 U 4 ((.agg halvesL.toArray)::(.int .i64 (i:Int))::vw14 U 16 ((.slice (some ⟨rl_b,rl_o,none⟩) nl cl)::(.int .i64 (nl:Int))::(.int .i64 (k:Int))::vw4 U 33 ((.slice x.p x.ln.figs.length x.c)::(.int .i64 (x.ln.figs.length:Int))::(.int .i64 (j:Int))::vw17 U 40 [])))))∧h++[⟨true,q1,.cells (tbL b ps ns ks pw nw cw pb nb cb).toArray 127 (0,0)⟩,⟨true,q5,.cells [str (hwS i),.bool (hbS i),.func (.func (261+i)) #[] #[]].toArray 184 (0,0)⟩,⟨true,q9,.cells [.int .i64 x.ln.lat,.slice x.p x.ln.figs.length x.c].toArray 121 (0,0)⟩]=h') _ ⟨0,rfl,by omega,exU rfl,rfl⟩ ?_;rintro nn l h' ⟨j,rfl,hj,⟨U,rfl⟩,rfl⟩ hnext3;have hsj:((x.ln.figs.take j).map smuF).sum≤j*3:=Nat.le_trans (jgP smuF 3 _ fun s _=>jgT s) (Nat.mul_le_mul_right _ zN)
    refine rs1 ?_;refine jan rfl zq (fun hc=>?_) (fun hc=>?_);refine D191 ?_
    have rdf:=rdf0 zO
    obtain ⟨fb,fo,hfp⟩:=rdf.ptr zO
    have rdg:=rdf
    rw [hfp] at rdg
    have hsk2:(x.ln.figs.getD j []).length≤100000:=hfs _ (jak (l:=x.ln.figs) zO)
    refine rr3 ?_;refine D66 ?_;refine k_ld rfl zq (rdg.sat j zO zO) ?_;refine D0 ?_;refine rs8 ?_;refine Zs ?_;refine jaj (Post:=fun v=>v=_) rfl zq zK (fun H' hH=>f119_c m H' _ hsk2) ?_;rintro v rfl;refine D9 ?_;refine Z3 ?_
    refine jau rfl zq (fun q12=>k_hp (jad ?_));refine D64 ?_;refine D0 ?_;refine rr5 ?_;refine Zs ?_;refine D55 ?_;refine jaj (Post:=fun v=>v= .int .i64 (smuF (x.ln.figs.getD j []):Int)) rfl zq zK (fun H' hH=>f171_c m H' (jaW _).len) ?_
    rintro v rfl;refine D9 ?_
    have hfj:=jgT (x.ln.figs.getD j [])
    refine Zs ?_;refine D0 ?_;refine D12 ?_
    rotate_left
    refine D175 ?_;refine D12 ?_
    have hjn:j=x.ln.figs.length:=by omega
    all_goals
     refine D156 ?_
    ·rw [hjn,List.take_of_length_le (Nat.le_refl _),show cntH b i+((hL b i).take k|>.map smuN).sum+(x.ln.figs.map smuF).sum=cntH b i+((hL b i).take (k+1)|>.map smuN).sum by rw [je2 smuN _ _ zO,hxl,Nat.add_assoc];rfl];exact m.weak jaa (hnext2 _ _ _ zO ⟨k+1,rfl,by omega,exU rfl,rfl⟩)
    ·rw [show ((cntH b i+((hL b i).take k|>.map smuN).sum+((x.ln.figs.take j).map smuF).sum:Nat):Int)+(smuF (x.ln.figs.getD j []):Int)=((cntH b i+((hL b i).take k|>.map smuN).sum+((x.ln.figs.take (j+1)).map smuF).sum:Nat):Int) by rw [je2 smuF _ _ zO];show _+((smuF (x.ln.figs.getD j default):Nat):Int)=_;omega];exact m.weak jaa (hnext3 _ _ _ zO ⟨j+1,rfl,by omega,exU rfl,rfl⟩)
   ·refine D175 ?_;refine D12 ?_
    have hkn:k=nl:=by omega
    have hin2:i<2:=by omega
    refine D156 ?_
    rw [hkn,List.take_of_length_le zO,show cntH b i+((hL b i).map smuN).sum=cntH b (i+1) from (jpq b i).symm];exact m.weak jaa (hnext1 _ _ _ zO ⟨i+1,rfl,by omega,fun j hj=>by
     by_cases e:j<i
     ·exact hz j e
     ·obtain rfl:j=i:=by omega
      omega,exU rfl,rfl⟩)
 ·refine D175 ?_;refine D2 ?_;refine D2 ?_
  have hi2:i=2:=by omega
  subst hi2
  have hz0:=hz 0 zO
  have hz1:=hz 1 zO
  rw [show hL b 0=b.waters from rfl] at hz0
  rw [show hL b 1=b.butts from rfl] at hz1
  have hc2:cntH b 2=smuL b.waters+smuL b.butts:=by simp [cntH,List.range_succ,hL]
  refine D206 ?_
  refine jaF rfl zq (fun hc=>?_) (fun hc=>?_);refine D148 ?_
  rotate_left
  refine D149 ?_
  all_goals
   refine D153 ?_;refine jac (h) rfl Tryz.func122 rfl jaa ?_;refine D5 ?_
  ·exact ⟨rfl,by rw [jhJ,if_neg (fun e=>e hz0),if_neg (fun e=>e hz1),if_neg zO]⟩
  ·exact ⟨rfl,by rw [jhJ,if_neg (fun e=>e hz0),if_neg (fun e=>e hz1),if_pos zO]⟩
def chkT (b:Tb) (k:Nat):Int:=if k=0 then jdJ b else jhJ b
theorem jkH {b:Tb} {k:Nat} (hk:k<2) (h: ∀i,i<k→chkT b i=0) (hs:chkT b k≠0):tbS b=chkT b k:=by
 rcases (by omega:k=0∨k=1) with rfl|rfl
 ·rw [tbS,if_pos (show jdJ b≠0 from hs)];rfl
 ·rw [tbS,if_neg (fun e=>e (show jdJ b=0 from h 0 zO))];rfl
theorem jiA {b:Tb} (h: ∀i,i<2→chkT b i=0):tbS b=0:=by
 rw [tbS,if_neg (fun e=>e (show jdJ b=0 from h 0 zO))];exact h 1 zO
theorem chkT_get (v:Value) (k:Nat) (hk:k<2):([Value.func (.func 121) #[v] #[],.func (.func 122) #[v] #[]].toArray)[(k:Int).toNat*1]?=some (.func (.func (121+k)) #[v] #[]):=by
 rcases (by omega:k=0∨k=1) with rfl|rfl<;>rfl
theorem jpt (k:Nat) (hk:k<2):jbz Tryz.prog (121+k)=true:=by
 rcases (by omega:k=0∨k=1) with rfl|rfl<;>kernel_rfl
theorem chkT_c (m:Md Tryz.prog B) (h:Hp) {b:Tb} {ps:Option Addr} {ns ks:Nat} {pw:Option Addr} {nw cw:Nat} {pb:Option Addr} {nb cb:Nat} (rds:RdS B h 1 (.slice ps ns ks) ns (encs b.sts)) (hcs:ns≤ks) (hns:ns≤1000) (hsl: ∀s∈b.sts,s.length≤100000) (rdw:RdLn B h (.slice pw nw cw) nw b.waters) (hnw:nw≤1000) (rdb:RdLn B h (.slice pb nb cb) nb b.butts) (hnb:nb≤1000) (hsm:TbSm b) (k:Nat) (hk:k<2):FnC m (121+k) #[tbV b ps ns ks pw nw cw pb nb cb] h fun v h'=>h'=h∧v= .int .i64 (chkT b k):=by
 rcases (by omega:k=0∨k=1) with rfl|rfl
 ·exact f121_c m h rds hcs hns hsl
 ·exact f122_c m h rds hcs hns hsl rdw hnw rdb hnb hsm
theorem f65_c (m:Md Tryz.prog B) (h:Hp) {b:Tb} {ps:Option Addr} {ns ks:Nat} {pw:Option Addr} {nw cw:Nat} {pb:Option Addr} {nb cb:Nat} (rds:RdS B h 1 (.slice ps ns ks) ns (encs b.sts)) (hcs:ns≤ks) (hns:ns≤1000) (hsl: ∀s∈b.sts,s.length≤100000) (rdw:RdLn B h (.slice pw nw cw) nw b.waters) (hnw:nw≤1000) (rdb:RdLn B h (.slice pb nb cb) nb b.butts) (hnb:nb≤1000) (hsm:TbSm b):FnC m 65 #[tbV b ps ns ks pw nw cw pb nb cb] h fun v h'=>h'=h∧v= .int .i64 (tbS b):=by
 refine jae Tryz.func65 rfl rfl (l:=(tbV b ps ns ks pw nw cw pb nb cb)::uu24) rfl ?_
 intro cf cs K hK
 refine rs2 ?_;refine jaQ rfl zq (fun q1=>k_hp (jad ?_));refine D0 ?_;refine D221 ?_;refine D58 ?_
 refine jau rfl zq (fun q3=>k_hp (jad ?_));refine D22 ?_;refine D151 ?_;refine D197 ?_;refine jgq rfl zq ?_;refine Zs ?_;refine jgq rfl zq ?_
 refine k_bs kdq rfl zq zA zA rfl (fun q13=>k_hp (jad ?_));refine D155 ?_;refine D11 ?_
 refine jai (fun nn l h'=> ∃(k:Nat),nn=2-k∧(k≤2)∧(∀i,i<k→chkT b i=0)∧(∃U:Nat→Value,l=((tbV b ps ns ks pw nw cw pb nb cb)::vw12 U 1 ((.slice (some ⟨q13,0,none⟩) 2 2)::(.int .i64 (2:Int))::(.int .i64 (k:Int))::vw9 U 16 [])))∧h++[⟨true,q1,.cells (tbL b ps ns ks pw nw cw pb nb cb).toArray 25 (0,0)⟩,⟨true,q3,.cells (tbL b ps ns ks pw nw cw pb nb cb).toArray 127 (0,0)⟩,⟨true,q13,.cells [.func (.func 121) #[tbV b ps ns ks pw nw cw pb nb cb] #[],.func (.func 122) #[tbV b ps ns ks pw nw cw pb nb cb] #[]].toArray 158 (0,0)⟩]=h') _ ⟨0,rfl,by omega,fun i hi=>by omega,exU rfl,rfl⟩ ?_;rintro nn l h' ⟨k,rfl,hk3,he,⟨U,rfl⟩,rfl⟩ hnext;refine rs1 ?_;refine jan rfl zq (fun hc=>?_) (fun hc=>?_)
 ·refine D205 ?_;refine rs3 ?_;refine D29 ?_;refine k_ld (v:= .func (.func (121+k)) #[tbV b ps ns ks pw nw cw pb nb cb] #[]) rfl zq (Rd.held (Has.mem (b:=q13)) (by simpa using chkT_get _ k zO)) ?_;refine D0 ?_;refine D186 ?_;refine jfi (Post:=fun v=>v=_) rfl zq (jpt k zO) (fun H' hH=>chkT_c m H' (rds.keeps (sq hH)) hcs hns hsl (rdw.keeps (sq hH)) hnw (rdb.keeps (sq hH)) hnb hsm k zO) ?_
  rintro v rfl;refine D235 ?_
  refine ja4 rfl zq (fun hc=>?_) (fun hc=>?_)
  ·refine D178 ?_;refine jac (h) rfl Tryz.func65 rfl jaa ?_;refine D5 ?_
   refine ⟨rfl,congrArg (Value.int .i64) ?_⟩
   first
    |exact (jkH zO he zD).symm
    |exact (jiA (fun i hi=>he i zO)).symm
  ·refine D225 ?_
   exact m.weak jaa (hnext _ _ _ zO ⟨k+1,rfl,by omega,fun i hi=>by
    by_cases e:i<k
    ·exact he i e
    ·obtain rfl:i=k:=by omega
     first|assumption|omega,exU rfl,rfl⟩)
 ·refine D175 ?_;refine D153 ?_;refine jac (h) rfl Tryz.func65 rfl jaa ?_;refine D5 ?_
  refine ⟨rfl,congrArg (Value.int .i64) ?_⟩
  first
   |exact (jkH zO he zD).symm
   |exact (jiA (fun i hi=>he i zO)).symm
end Go.Proofs
namespace Go.Proofs
open Go.Lo
open Go.Conc (G)
set_option maxRecDepth 100000
set_option synthInstance.maxSize 100000
set_option synthInstance.maxHeartbeats 1000000
set_option maxHeartbeats 4000000
variable {B:Array Obj}
theorem jkl {s:Str} {i:Nat} (h:i<s.length):s[((i:Nat):Int).toNat]?=some (s.getD i 0):=by
 rw [Int.toNat_natCast,List.getElem?_eq_getElem h,List.getD_eq_getElem?_getD,List.getElem?_eq_getElem h];rfl
theorem jja {s:Str} (h:0<s.length):s[(0:Int).toNat]?=some (s.getD 0 0):=jkl (i:=0) h
def smuC (s:Str):Nat:=s.countP fun c=>decide (c.toNat=63)
theorem jhH {α:Type} [Inhabited α] (p:α→Bool) (xs:List α) (k:Nat) (h:k<xs.length):(xs.take (k+1)).countP p=(xs.take k).countP p+if p (xs.getD k default) then 1 else 0:=by
 rw [jbH xs k h,List.countP_append];simp
def smuK (s:Str) (i:Nat):Nat:=smuC (s.take i)
theorem smuK_le (s:Str) (i:Nat):smuK s i≤i:=Nat.le_trans List.countP_le_length zN
theorem smuK_yes {s:Str} {i:Nat} (h:i<s.length) (e:((s.getD i 0).toNat:Int)=63):(smuK s i:Int)+1=(smuK s (i+1):Int):=by
 have:=jhH (fun c:UInt8=>decide (c.toNat=63)) s i h
 rw [show s.getD i default=s.getD i 0 from rfl,if_pos (decide_eq_true zO)] at this
 show ((_:Nat):Int)+1=((_:Nat):Int)
 unfold smuK smuC
 omega
theorem smuK_no {s:Str} {i:Nat} (h:i<s.length) (e: ¬((s.getD i 0).toNat:Int)=63):(smuK s i:Int)=(smuK s (i+1):Int):=by
 have:=jhH (fun c:UInt8=>decide (c.toNat=63)) s i h
 rw [show s.getD i default=s.getD i 0 from rfl,if_neg (fun e2=>e (by have:=of_decide_eq_true e2;omega))] at this
 unfold smuK smuC
 omega
theorem smuK_all {s:Str} {i:Nat} (h:i=s.length):smuK s i=smuC s:=by rw [smuK,List.take_of_length_le zO]
theorem f172_c (m:Md Tryz.prog B) (h:Hp) (c:UInt8):FnC m 172 #[.int .u8 (c.toNat:Int)] h fun v h'=>h'=h∧IsB (48≤c.toNat∧c.toNat≤57) v:=by
 refine jae Tryz.func172 rfl rfl (l:=(.int .u8 (c.toNat:Int))::uu8) rfl ?_
 intro cf cs K hK
 refine D162 ?_;refine D197 ?_
 refine jho rfl zq (fun hc=>?_) (fun hc=>?_)
 ·refine Z2 ?_
  refine jeF rfl rfl (fun hc=>?_) (fun hc=>?_);all_goals
   refine D222 ?_;refine jac (h) rfl Tryz.func172 rfl jaa ?_;refine D5 ?_
   exact E0
 ·refine Z3 ?_;refine D179 ?_;refine jac (h) rfl Tryz.func172 rfl jaa ?_;refine D5 ?_
  exact E0
theorem f123_c (m:Md Tryz.prog B) (h:Hp) (s:Str) (hl:s.length≤100000):FnC m 123 #[str s] h fun v h'=>h'=h∧IsB (jgd s) v:=by
 refine jae Tryz.func123 rfl rfl (l:=(str s)::uu39) rfl ?_
 intro cf cs K hK
 refine D161 ?_;refine rs13 ?_;refine Zs ?_;refine D60 ?_
 refine jan rfl zq (fun hc=>?_) (fun hc=>?_)
 ·refine Z4 ?_;refine D13 ?_;refine Z4 ?_;refine D209 ?_;refine D119 ?_;refine D5 ?_
  first
   |exact E19
   |exact E20
   |exact E21
   |exact E22
 ·refine Z2 ?_;refine jl5 rfl rfl und9 ?_
  refine jaF rfl rfl (fun hc=>?_) (fun hc=>?_)
  ·refine D10 ?_;refine Z4 ?_;refine D209 ?_;refine D119 ?_;refine D5 ?_
   first
    |exact E19
    |exact E20
    |exact E21
    |exact E22
  ·refine D184 ?_;refine jgh (c:=s.getD 0 0) rfl rfl und9 zO (jja zO) ?_;refine jaj (Post:=fun v=>IsB _ v) rfl rfl zK (fun H' hH=>f172_c m H' _) ?_
   rintro v (⟨hc,rfl⟩|⟨hc,rfl⟩)
   ·refine D9 ?_;refine D10 ?_;refine D166 ?_;refine D119 ?_;refine D5 ?_
    first
     |exact E19
     |exact E20
     |exact E21
     |exact E22
   ·refine D9 ?_;refine D10 ?_;refine D165 ?_;refine D180 ?_
    refine jai (fun nn l h'=> ∃(i:Nat),nn=s.length-i∧(i≤s.length)∧(∀j,j<i→chOk j (s.getD j 0))∧(∃U:Nat→Value,l=((str s)::(U 1)::(U 2)::(.int .i64 (i:Int))::vw36 U 4 []))∧h=h') _ ⟨0,rfl,by omega,fun j hj=>absurd hj zO,exU rfl,rfl⟩ ?_;rintro nn l h' ⟨i,rfl,hi,hch,⟨U,rfl⟩,rfl⟩ hnext;refine D2 ?_;refine D212 ?_;refine D60 ?_
    refine jan rfl zq (fun hc=>?_) (fun hc=>?_)
    ·refine D190 ?_;refine rr17 ?_;refine Z2 ?_;refine jgh (c:=s.getD i 0) rfl zq und9 zO (jkl zO) ?_
     obtain ⟨ch,hcc⟩: ∃ch,ch=s.getD i 0:=⟨_,rfl⟩
     rw [←hcc];have hcb:=ch.toNat_lt
     refine D67 ?_
     rintro v (⟨hc,rfl⟩|⟨hc,rfl⟩)
     ·refine D189 ?_;refine Z11 ?_;refine D187 ?_;refine D171 ?_
      exact m.weak jaa (hnext _ _ _ zO ⟨i+1,rfl,by omega,by
       intro j hj
       by_cases e:j<i
       ·exact hch j e
       ·obtain rfl:j=i:=by omega
        rw [←hcc];have hct:=congrArg UInt8.toNat hcc
        rcases Nat.eq_zero_or_pos j with rfl|hp<;>unfold chOk<;>omega,exU rfl,rfl⟩)
     ·refine D192 ?_;refine Z3 ?_;refine D135 ?_
      rw [←hcc];refine jan rfl rfl (fun hc=>?_) (fun hc=>?_)
      ·refine Z5 ?_;refine D61 ?_;refine D209 ?_;refine D119 ?_;refine D5 ?_
       first
        |exact E19
        |exact E20
        |exact E21
        |exact E22
      ·refine Z3 ?_;refine D135 ?_
       rw [←hcc];refine jaF rfl rfl (fun hc=>?_) (fun hc=>?_)
       ·refine D45 ?_;refine D209 ?_;refine D119 ?_;refine D5 ?_
        first
         |exact E19
         |exact E20
         |exact E21
         |exact E22
       ·refine D45 ?_;refine D13 ?_;refine D231 ?_
        exact m.weak jaa (hnext _ _ _ zO ⟨i+1,rfl,by omega,by
         intro j hj
         by_cases e:j<i
         ·exact hch j e
         ·obtain rfl:j=i:=by omega
          rw [←hcc];have hct:=congrArg UInt8.toNat hcc
          rcases Nat.eq_zero_or_pos j with rfl|hp<;>unfold chOk<;>omega,exU rfl,rfl⟩)
    ·refine D172 ?_;refine D153 ?_;refine D119 ?_;refine D5 ?_
     first
      |exact E19
      |exact E20
      |exact E21
      |exact E22
theorem f126_c (m:Md Tryz.prog B) (h:Hp) (s:Str) (hl:s.length≤100000):FnC m 126 #[str s] h fun v h'=>h'=h∧v= .int .i64 (smuC s:Int):=by
 refine jae Tryz.func126 rfl rfl (l:=(str s)::uu17) rfl ?_
 intro cf cs K hK
 refine D162 ?_;refine D217 ?_
 refine jai (fun nn l h'=> ∃(i:Nat),nn=s.length-i∧(i≤s.length)∧(∃U:Nat→Value,l=((str s)::(U 1)::(U 2)::(.int .i64 (smuK s i:Int))::(.int .i64 (i:Int))::vw13 U 5 []))∧h=h') _ ⟨0,rfl,by omega,exU rfl,rfl⟩ ?_;rintro nn l h' ⟨i,rfl,hi,⟨U,rfl⟩,rfl⟩ hnext;have hcl:=smuK_le s i
 refine D2 ?_;refine D212 ?_;refine D60 ?_
 refine jan rfl zq (fun hc=>?_) (fun hc=>?_)
 ·refine D232 ?_;refine D212 ?_;refine jgh (c:=s.getD i 0) rfl zq und9 zO (jkl zO) ?_
  refine jaM rfl zq (fun hc=>?_) (fun hc=>?_);refine D148 ?_;refine D164 ?_
  rotate_left
  refine D149 ?_
  all_goals
   refine D171 ?_
   first
    |rw [smuK_yes zO zD]
    |rw [smuK_no zO zD]
   exact m.weak jaa (hnext _ _ _ zO ⟨i+1,rfl,by omega,exU rfl,rfl⟩)
 ·refine D172 ?_;refine D167 ?_;refine jac (h) rfl Tryz.func126 rfl jaa ?_;refine D5 ?_
  exact ⟨rfl,by rw [smuK_all zO]⟩
theorem f124_c (m:Md Tryz.prog B) (h:Hp) {p:Option Addr} {n c:Nat} {ss:List Str} (rd:RdS B h 1 (.slice p n c) n (encs ss)) (hn:n≤100000) (s:Str):FnC m 124 #[.slice p n c,str s] h fun v h'=>h'=h∧ ∃x:Int,v= .int .i64 x∧In64 x∧(0≤x↔s∈ss):=by
 have hll0:=rd.elen zA
 refine jae Tryz.func124 rfl rfl (l:=(.slice p n c)::(str s)::uu17) rfl ?_
 intro cf cs K hK
 refine D217 ?_
 refine jai (fun nn l h'=> ∃(i:Nat),nn=n-i∧(i≤n)∧(∀j,j<i→ss.getD j []≠s)∧(∃U:Nat→Value,l=((.slice p n c)::(str s)::(U 2)::(U 3)::(U 4)::(.int .i64 (i:Int))::vw13 U 6 []))∧h=h') _ ⟨0,rfl,by omega,fun j hj=>absurd hj zO,exU rfl,rfl⟩ ?_;rintro nn l h' ⟨i,rfl,hi,hno,⟨U,rfl⟩,rfl⟩ hnext;refine D2 ?_;refine D196 ?_
 refine jan rfl zq (fun hc=>?_) (fun hc=>?_)
 ·refine D232 ?_;refine rs6 ?_;refine Z2 ?_
  obtain ⟨rd_b,rd_o,rfl⟩:=rd.ptr zO
  refine D19 ?_;refine k_ld rfl zq (rd.sat i zO zO) ?_;refine Zs ?_
  by_cases hse:ss.getD i []=s
  ·refine jhm rfl zq hse ?_;refine D178 ?_;refine jac (h) rfl Tryz.func124 rfl jaa ?_;refine D5 ?_;have hll:=rd.elen zA
   exact E13
  ·refine jhn rfl zq hse ?_;refine D231 ?_;exact m.weak jaa (hnext _ _ _ zO ⟨i+1,rfl,by omega,by
    intro j hj
    by_cases e:j<i
    ·exact hno j e
    ·obtain rfl:j=i:=by omega
     exact hse,exU rfl,rfl⟩)
 ·refine D172 ?_;refine D153 ?_;refine jac (h) rfl Tryz.func124 rfl jaa ?_;refine D5 ?_
  have hll:=rd.elen zA
  refine ⟨rfl,_,rfl,by unfold In64;omega,⟨fun e=>by omega,fun e=>?_⟩⟩
  obtain ⟨j,hj,e2⟩:=List.mem_iff_getElem.1 e
  refine absurd ?_ (hno j zO)
  rw [List.getD_eq_getElem?_getD,List.getElem?_eq_getElem hj];exact e2
def jbx (s:Str) (c:UInt8):Nat→List Str×Nat
 |0=>([],0)
 |i+1=>if i=s.length∨s.getD i 0=c then ((jbx s c i).1++[(s.take i).drop (jbx s c i).2],i+1) else jbx s c i
def cutS (s:Str) (c:UInt8):List Str:=(jbx s c (s.length+1)).1
theorem jjh {s:Str} {c:UInt8} {i:Nat} (h:i=s.length∨s.getD i 0=c):jbx s c (i+1)=((jbx s c i).1++[(s.take i).drop (jbx s c i).2],i+1):=by rw [jbx,if_pos h]
theorem cut_no {s:Str} {c:UInt8} {i:Nat} (h:i≠s.length) (h2:s.getD i 0≠c):jbx s c (i+1)=jbx s c i:=by rw [jbx,if_neg (by rintro (e|e);exact h e;exact h2 e)]
theorem jmq (s:Str) (c:UInt8): ∀i,(jbx s c i).2≤i∧(jbx s c i).1.length≤i
 |0=>by simp [jbx]
 |i+1=>by
  have:=jmq s c i
  unfold jbx
  split
  ·simp
   omega
  ·omega
theorem byte_eq {a c:UInt8} (h:(a.toNat:Int)=c.toNat):a=c:=UInt8.toNat_inj.1 zO
theorem byte_ne {a c:UInt8} (h: ¬(a.toNat:Int)=c.toNat):a≠c:=fun e=>h (by rw [e])
theorem jiw (ss:List Str) (s:Str):encs (ss++[s])=encs ss++[str s]:=by rw [jcH,jcH,List.map_append];rfl
theorem f63_c (m:Md Tryz.prog B) (h:Hp) (s:Str) (hl:s.length≤100000) (c:UInt8):FnC m 63 #[str s,.int .u8 (c.toNat:Int)] h fun w h'=> ∃new,h'=h++new∧OwnS 9 1 w (cutS s c).length (encs (cutS s c)) new:=by
 refine jae Tryz.func63 rfl rfl (l:=(str s)::(.int .u8 (c.toNat:Int))::uu33) rfl ?_
 intro cf cs K hK
 refine D162 ?_;refine D162 ?_;refine D217 ?_
 refine jai (fun nn l h'=> ∃(i:Nat) (wp:Option Addr) (wc:Nat) (M:Hp) (f:Nat),nn=s.length+1-i∧(i≤s.length+1)∧(f=(jbx s c i).2)∧(OwnS 9 1 (.slice wp (jbx s c i).1.length wc) (jbx s c i).1.length (encs (jbx s c i).1) M)∧(∃U:Nat→Value,l=((str s)::(.int .u8 (c.toNat:Int))::(U 2)::(U 3)::(U 4)::(.slice wp (jbx s c i).1.length wc)::(.int .i64 (f:Int))::(.int .i64 (i:Int))::vw27 U 8 []))∧h++M=h') _ ⟨0,none,0,[],0,rfl,by omega,rfl,OwnS.nil,exU rfl,zS⟩ ?_;rintro nn l h' ⟨i,wp,wc,M,f,rfl,hi,hf,how,⟨U,rfl⟩,rfl⟩ hnext;obtain ⟨hfl,hpl⟩:=jmq s c i
 refine D2 ?_;refine D212 ?_;refine D60 ?_
 refine jeF rfl zq (fun hc=>?_) (fun hc=>?_)
 ·refine D232 ?_;refine rs11 ?_;refine Z2 ?_;refine D60 ?_
  refine jaM rfl zq (fun hc=>?_) (fun hc=>?_)
  ·refine Z6 ?_;refine D223 ?_;refine rs8 ?_;refine Z4 ?_;refine jgC (j:=f) (k:=i) rfl zq und9 zO zO ?_
   refine k_bs kdq rfl zq zA zA rfl (fun q30=>k_hp (jad ?_));refine ja3 rfl zq rfl how kdq zO zO (fun w9 n9 o9=>jad ?_);obtain ⟨p9,c9,rfl,hc9,r9⟩:=jap (B:=B) o9
   refine D0 ?_;refine D164 ?_;refine D171 ?_
   have hks:=jjh (s:=s) (c:=c) (i:=i) (.inl zO)
   have hkl:(jbx s c (i+1)).1.length=(jbx s c i).1.length+1:=by rw [hks];simp
   have hk2:(jbx s c (i+1)).2=i+1:=by rw [hks]
   rw [←hkl];exact E23
  ·refine Z3 ?_;refine D135 ?_;refine Zs ?_
   refine jaM rfl rfl (fun hc=>?_) (fun hc=>?_);refine D10 ?_;refine D148 ?_;refine rs8 ?_;refine Z4 ?_;refine jgC (j:=f) (k:=i) rfl zq und9 zO zO ?_
   refine k_bs kdq rfl zq zA zA rfl (fun q30=>k_hp (jad ?_));refine ja3 rfl zq rfl how kdq zO zO (fun w9 n9 o9=>jad ?_);obtain ⟨p9,c9,rfl,hc9,r9⟩:=jap (B:=B) o9
   refine D0 ?_;refine D164 ?_
   rotate_left
   refine D187 ?_
   all_goals
    refine D171 ?_
   ·have hks:jbx s c (i+1)=jbx s c i:=cut_no zO (byte_ne zD)
    rw [←hks];exact m.weak jaa (hnext _ _ _ zO ⟨i+1,wp,wc,M,f,rfl,by omega,by rw [hks];exact hf,by rw [hks];exact how,exU rfl,rfl⟩)
   ·have hks:=jjh (s:=s) (c:=c) (i:=i) (.inr (byte_eq zD))
    have hkl:(jbx s c (i+1)).1.length=(jbx s c i).1.length+1:=by rw [hks];simp
    have hk2:(jbx s c (i+1)).2=i+1:=by rw [hks]
    rw [←hkl];exact E23
 ·refine D172 ?_;refine D167 ?_;refine jac (h++M) rfl Tryz.func63 rfl jaa ?_;refine D5 ?_
  obtain rfl:i=s.length+1:=by omega
  exact ⟨M,rfl,how⟩
end Go.Proofs
namespace Go.Proofs
open Go.Lo
open Go.Conc (G)
set_option maxRecDepth 100000
set_option synthInstance.maxSize 100000
set_option synthInstance.maxHeartbeats 1000000
set_option maxHeartbeats 4000000
variable {B:Array Obj}
variable [LaidO B]
def digP (c:UInt8):Prop:=48≤c.toNat∧c.toNat≤57
instance (c:UInt8):Decidable (digP c):=by unfold digP;infer_instance
def negS (s:Str):Prop:=0<s.length∧s.getD 0 0=45
instance (s:Str):Decidable (negS s):=by unfold negS;infer_instance
def jaE (s:Str):Str:=if negS s then s.drop 1 else s
def sgnS (s:Str):Int:=if negS s then-1 else 1
def valK (t:Str) (i:Nat):Nat:=(t.take i).foldl (fun n c=>10*n+(c.toNat-48)) 0
def je9 (s:Str):Prop:=(1≤(jaE s).length∧(jaE s).length≤9)∧ ¬((jaE s).getD 0 0=48∧s≠[48])∧ ∀i,i<(jaE s).length→digP ((jaE s).getD i 0)
instance (s:Str):Decidable (je9 s):=by unfold je9;infer_instance
def numS (s:Str):Int:=if je9 s then sgnS s*(valK (jaE s) (jaE s).length:Int) else 0
theorem jlI (s:Str):(jaE s).length≤s.length:=by
 unfold jaE
 split
 ·simp
 ·exact Nat.le_refl _
theorem jdX {t:Str} {i:Nat} (h:i<t.length):valK t (i+1)=10*valK t i+((t.getD i 0).toNat-48):=by
 rw [valK,jbH t i h,List.foldl_append];rfl
theorem valK_lt {t:Str} (i:Nat) (hi:i≤t.length) (hd: ∀j,j<i→digP (t.getD j 0)):valK t i<10^i:=by
 induction i with
 |zero=>simp [valK]
 |succ i ih=>
  have h1:=ih zO fun j hj=>hd j zO
  have h2:=hd i zO
  unfold digP at h2
  rw [jdX zO,Nat.pow_succ];omega
theorem jlt {t:Str} {i:Nat} (hi:i≤t.length) (h9:t.length≤9) (hd: ∀j,j<i→digP (t.getD j 0)):valK t i<1000000000:=
 Nat.lt_of_lt_of_le (valK_lt i hi hd) (Nat.le_trans (Nat.pow_le_pow_right zA (show i≤9 by omega)) zA)
theorem sgn_or (s:Str):sgnS s= -1∨sgnS s=1:=by
 unfold sgnS
 split
 ·exact .inl rfl
 ·exact .inr rfl
theorem jaP {a:UInt8} {n:Nat} (hn:n<256):(a.toNat:Int)=n↔a=UInt8.ofNat n:=by
 constructor
 ·intro h
  refine UInt8.toNat_inj.1 ?_
  rw [UInt8.toNat_ofNat'];omega
 ·rintro rfl;rw [UInt8.toNat_ofNat'];omega
abbrev numV (s:Str):Value:= .tuple [.int .i64 (numS s),.bool (decide (je9 s))].toArray
theorem jaO {s:Str} (h: ¬je9 s): .tuple [.int .i64 0,.bool false].toArray=numV s:=by rw [numV,numS,if_neg h,decide_eq_false h]
theorem jb1 {s:Str} (h:je9 s): .tuple [.int .i64 (sgnS s*(valK (jaE s) (jaE s).length:Int)),.bool true].toArray=numV s:=by rw [numV,numS,if_pos h,decide_eq_true h]
theorem f166_c (m:Md Tryz.prog B) (h:Hp) (s:Str) (hl:s.length≤100000):FnC m 166 #[str s] h fun v h'=>h'=h∧v=numV s:=by
 obtain ⟨s',hs'⟩: ∃s',s'=s:=⟨_,rfl⟩
 obtain ⟨sg,hsg⟩: ∃x:Int,x=1:=⟨_,rfl⟩
 have hls:s'.length=s.length:=by rw [hs']
 refine jae Tryz.func166 rfl rfl (l:=(str s)::uu57) rfl ?_
 intro cf cs K hK
 refine D152 ?_;refine D0 ?_;refine D186 ?_;refine k_asE (show str s=str s' by rw [hs']) rfl zq ?_;refine k_asE (show Value.int .i64 1= .int .i64 sg by rw [hsg]) rfl zq ?_;refine D151 ?_;refine rs8 ?_;refine Zs ?_;refine D60 ?_
 refine jaF rfl zq (fun hc=>?_) (fun hc=>?_)
 ·refine Z2 ?_;refine jgh (c:=s'.getD 0 0) rfl rfl und9 zO (jja zO) ?_
  refine jaM rfl rfl (fun hc=>?_) (fun hc=>?_);refine D223 ?_;refine rr4 ?_;refine Zs ?_;refine k_ssfrom (j:=1) rfl zq und9 zO ?_
  have hng:negS s:=by rw [←hs'];exact ⟨by omega,(jaP (n:=45) zA).1 zD⟩
  refine k_asE (show str (s'.drop 1)=str (jaE s) by rw [jaE,if_pos hng,hs']) rfl zq ?_;refine k_asE (show Value.int .i64 (-1)= .int .i64 (sgnS s) by rw [sgnS,if_pos hng]) rfl zq ?_;refine D1 ?_;rotate_left
  refine D13 ?_;refine D149 ?_
  all_goals
   refine D2 ?_;refine D2 ?_
   have hrl:=jlI s
   first
    |(have hng: ¬negS s:=by
       rw [←hs'];rintro ⟨e1,e2⟩;first|omega|exact absurd ((jaP (n:=45) zA).2 e2) zD
      rw [show s'=jaE s by rw [jaE,if_neg hng,hs'],show sg=sgnS s by rw [sgnS,if_neg hng,hsg]])
    |skip
   refine rr17 ?_;refine Zs ?_;refine D60 ?_;refine jan rfl zq (fun hc=>?_) (fun hc=>?_)
   ·refine Z4 ?_;refine D13 ?_;refine Z8 ?_;refine D13 ?_;refine D238 ?_
    refine ⟨rfl,?_⟩
    first
     |exact jaO fun e=>by have:=e.1;omega
     |exact E24
     |exact E25
     |(obtain rfl:i=(jaE s).length:=by omega
       refine jb1 ⟨by omega,fun e=>?_,hdg⟩
       first
        |exact e.2 hz
        |exact E26)
   ·refine Z2 ?_;refine jl5 rfl rfl und9 ?_
    refine jaF rfl rfl (fun hc=>?_) (fun hc=>?_)
    ·refine D10 ?_;refine Z8 ?_;refine D13 ?_;refine D238 ?_
     refine ⟨rfl,?_⟩
     first
      |exact jaO fun e=>by have:=e.1;omega
      |exact E24
      |exact E25
      |(obtain rfl:i=(jaE s).length:=by omega
        refine jb1 ⟨by omega,fun e=>?_,hdg⟩
        first
         |exact e.2 hz
         |exact E26)
    ·refine D184 ?_;refine jgh (c:=(jaE s).getD 0 0) rfl rfl und9 zO (jja zO) ?_
     refine jaM rfl rfl (fun hc=>?_) (fun hc=>?_)
     ·refine Z2 ?_
      by_cases hz:s=[48]
      ·refine jfN rfl rfl hz ?_;refine D61 ?_;refine D187 ?_;refine D217 ?_;refine jai (fun nn l h'=> ∃(i:Nat),nn=(jaE s).length-i∧(i≤(jaE s).length)∧(∀j,j<i→digP ((jaE s).getD j 0))∧(∃U:Nat→Value,l=((str s)::(U 1)::(U 2)::(U 3)::(str (jaE s))::(.int .i64 (sgnS s))::(.int .i64 (valK (jaE s) i:Int))::(.int .i64 (i:Int))::vw50 U 8 []))∧h=h') _ ⟨0,rfl,by omega,fun j hj=>absurd hj zO,exU rfl,rfl⟩ ?_;rintro nn l h' ⟨i,rfl,hi,hdg,⟨U,rfl⟩,rfl⟩ hnext;have hvb:=jlt hi zO hdg
       have hcb:=((jaE s).getD i 0).toNat_lt
       refine D2 ?_;refine D212 ?_;refine D60 ?_
       refine jan rfl zq (fun hc=>?_) (fun hc=>?_);refine D190 ?_
       rotate_left
       refine D172 ?_
       all_goals
        refine D241 ?_
       ·refine D93 ?_;refine D195 ?_;refine D228 ?_
        refine ⟨rfl,?_⟩
        first
         |exact jaO fun e=>by have:=e.1;omega
         |exact E24
         |exact E25
         |(obtain rfl:i=(jaE s).length:=by omega
           refine jb1 ⟨by omega,fun e=>?_,hdg⟩
           first
            |exact e.2 hz
            |exact E26)
       ·refine D51 ?_;refine D67 ?_
        rintro v (⟨hc,rfl⟩|⟨hc,rfl⟩)
        ·refine D189 ?_;refine D149 ?_;refine rr9 ?_;refine Zs ?_;refine D73 ?_;refine Z2 ?_;refine D51 ?_;refine D71 ?_;refine D163 ?_;refine D171 ?_
         have hdi:digP ((jaE s).getD i 0):=by assumption
         rw [show 10*(valK (jaE s) i:Int)+(((jaE s).getD i 0).toNat:Int)-48=(valK (jaE s) (i+1):Int) by rw [jdX zO];unfold digP at hdi;omega];exact m.weak jaa (hnext _ _ _ zO ⟨i+1,rfl,by omega,fun j hj=>by
          by_cases e:j<i
          ·exact hdg j e
          ·obtain rfl:j=i:=by omega
           assumption,exU rfl,rfl⟩)
        ·refine D192 ?_;refine D238 ?_
         refine ⟨rfl,?_⟩
         first
          |exact jaO fun e=>by have:=e.1;omega
          |exact E24
          |exact E25
          |(obtain rfl:i=(jaE s).length:=by omega
            refine jb1 ⟨by omega,fun e=>?_,hdg⟩
            first
             |exact e.2 hz
             |exact E26)
      ·refine jhl rfl rfl hz ?_;refine D61 ?_;refine D10 ?_;refine D238 ?_;refine ⟨rfl,?_⟩
       first
        |exact jaO fun e=>by have:=e.1;omega
        |exact E24
        |exact E25
        |(obtain rfl:i=(jaE s).length:=by omega
          refine jb1 ⟨by omega,fun e=>?_,hdg⟩
          first
           |exact e.2 hz
           |exact E26)
     ·refine Z3 ?_;refine D45 ?_;refine D187 ?_;refine D217 ?_
      refine jai (fun nn l h'=> ∃(i:Nat),nn=(jaE s).length-i∧(i≤(jaE s).length)∧(∀j,j<i→digP ((jaE s).getD j 0))∧(∃U:Nat→Value,l=((str s)::(U 1)::(U 2)::(U 3)::(str (jaE s))::(.int .i64 (sgnS s))::(.int .i64 (valK (jaE s) i:Int))::(.int .i64 (i:Int))::vw50 U 8 []))∧h=h') _ ⟨0,rfl,by omega,fun j hj=>absurd hj zO,exU rfl,rfl⟩ ?_;rintro nn l h' ⟨i,rfl,hi,hdg,⟨U,rfl⟩,rfl⟩ hnext;have hvb:=jlt hi zO hdg
      have hcb:=((jaE s).getD i 0).toNat_lt
      refine D2 ?_;refine D212 ?_;refine D60 ?_
      refine jan rfl zq (fun hc=>?_) (fun hc=>?_);refine D190 ?_
      rotate_left
      refine D172 ?_
      all_goals
       refine D241 ?_
      ·refine D93 ?_;refine D195 ?_;refine D228 ?_
       refine ⟨rfl,?_⟩
       first
        |exact jaO fun e=>by have:=e.1;omega
        |exact E24
        |exact E25
        |(obtain rfl:i=(jaE s).length:=by omega
          refine jb1 ⟨by omega,fun e=>?_,hdg⟩
          first
           |exact e.2 hz
           |exact E26)
      ·refine D51 ?_;refine D67 ?_
       rintro v (⟨hc,rfl⟩|⟨hc,rfl⟩)
       ·refine D189 ?_;refine D149 ?_;refine rr9 ?_;refine Zs ?_;refine D73 ?_;refine Z2 ?_;refine D51 ?_;refine D71 ?_;refine D163 ?_;refine D171 ?_
        have hdi:digP ((jaE s).getD i 0):=by assumption
        rw [show 10*(valK (jaE s) i:Int)+(((jaE s).getD i 0).toNat:Int)-48=(valK (jaE s) (i+1):Int) by rw [jdX zO];unfold digP at hdi;omega];exact m.weak jaa (hnext _ _ _ zO ⟨i+1,rfl,by omega,fun j hj=>by
         by_cases e:j<i
         ·exact hdg j e
         ·obtain rfl:j=i:=by omega
          assumption,exU rfl,rfl⟩)
       ·refine D192 ?_;refine D238 ?_
        refine ⟨rfl,?_⟩
        first
         |exact jaO fun e=>by have:=e.1;omega
         |exact E24
         |exact E25
         |(obtain rfl:i=(jaE s).length:=by omega
           refine jb1 ⟨by omega,fun e=>?_,hdg⟩
           first
            |exact e.2 hz
            |exact E26)
 ·refine Z4 ?_;refine D10 ?_;refine D165 ?_;refine D2 ?_
  have hrl:=jlI s
  first
   |(have hng: ¬negS s:=by
      rw [←hs'];rintro ⟨e1,e2⟩;first|omega|exact absurd ((jaP (n:=45) zA).2 e2) zD
     rw [show s'=jaE s by rw [jaE,if_neg hng,hs'],show sg=sgnS s by rw [sgnS,if_neg hng,hsg]])
   |skip
  refine rr17 ?_;refine Zs ?_;refine D60 ?_;refine jan rfl zq (fun hc=>?_) (fun hc=>?_)
  ·refine Z4 ?_;refine D13 ?_;refine Z8 ?_;refine D13 ?_;refine D238 ?_
   refine ⟨rfl,?_⟩
   first
    |exact jaO fun e=>by have:=e.1;omega
    |exact E24
    |exact E25
    |(obtain rfl:i=(jaE s).length:=by omega
      refine jb1 ⟨by omega,fun e=>?_,hdg⟩
      first
       |exact e.2 hz
       |exact E26)
  ·refine Z2 ?_;refine jl5 rfl rfl und9 ?_
   refine jaF rfl rfl (fun hc=>?_) (fun hc=>?_)
   ·refine D10 ?_;refine Z8 ?_;refine D13 ?_;refine D238 ?_
    refine ⟨rfl,?_⟩
    first
     |exact jaO fun e=>by have:=e.1;omega
     |exact E24
     |exact E25
     |(obtain rfl:i=(jaE s).length:=by omega
       refine jb1 ⟨by omega,fun e=>?_,hdg⟩
       first
        |exact e.2 hz
        |exact E26)
   ·refine D184 ?_;refine jgh (c:=(jaE s).getD 0 0) rfl rfl und9 zO (jja zO) ?_
    refine jaM rfl rfl (fun hc=>?_) (fun hc=>?_)
    ·refine Z2 ?_
     by_cases hz:s=[48]
     ·refine jfN rfl rfl hz ?_;refine D61 ?_;refine D187 ?_;refine D217 ?_;refine jai (fun nn l h'=> ∃(i:Nat),nn=(jaE s).length-i∧(i≤(jaE s).length)∧(∀j,j<i→digP ((jaE s).getD j 0))∧(∃U:Nat→Value,l=((str s)::(U 1)::(U 2)::(U 3)::(str (jaE s))::(.int .i64 (sgnS s))::(.int .i64 (valK (jaE s) i:Int))::(.int .i64 (i:Int))::vw50 U 8 []))∧h=h') _ ⟨0,rfl,by omega,fun j hj=>absurd hj zO,exU rfl,rfl⟩ ?_;rintro nn l h' ⟨i,rfl,hi,hdg,⟨U,rfl⟩,rfl⟩ hnext;have hvb:=jlt hi zO hdg
      have hcb:=((jaE s).getD i 0).toNat_lt
      refine D2 ?_;refine D212 ?_;refine D60 ?_
      refine jan rfl zq (fun hc=>?_) (fun hc=>?_);refine D190 ?_
      rotate_left
      refine D172 ?_
      all_goals
       refine D241 ?_
      ·refine D93 ?_;refine D195 ?_;refine D228 ?_
       refine ⟨rfl,?_⟩
       first
        |exact jaO fun e=>by have:=e.1;omega
        |exact E24
        |exact E25
        |(obtain rfl:i=(jaE s).length:=by omega
          refine jb1 ⟨by omega,fun e=>?_,hdg⟩
          first
           |exact e.2 hz
           |exact E26)
      ·refine D51 ?_;refine D67 ?_
       rintro v (⟨hc,rfl⟩|⟨hc,rfl⟩)
       ·refine D189 ?_;refine D149 ?_;refine rr9 ?_;refine Zs ?_;refine D73 ?_;refine Z2 ?_;refine D51 ?_;refine D71 ?_;refine D163 ?_;refine D171 ?_
        have hdi:digP ((jaE s).getD i 0):=by assumption
        rw [show 10*(valK (jaE s) i:Int)+(((jaE s).getD i 0).toNat:Int)-48=(valK (jaE s) (i+1):Int) by rw [jdX zO];unfold digP at hdi;omega];exact m.weak jaa (hnext _ _ _ zO ⟨i+1,rfl,by omega,fun j hj=>by
         by_cases e:j<i
         ·exact hdg j e
         ·obtain rfl:j=i:=by omega
          assumption,exU rfl,rfl⟩)
       ·refine D192 ?_;refine D238 ?_
        refine ⟨rfl,?_⟩
        first
         |exact jaO fun e=>by have:=e.1;omega
         |exact E24
         |exact E25
         |(obtain rfl:i=(jaE s).length:=by omega
           refine jb1 ⟨by omega,fun e=>?_,hdg⟩
           first
            |exact e.2 hz
            |exact E26)
     ·refine jhl rfl rfl hz ?_;refine D61 ?_;refine D10 ?_;refine D238 ?_;refine ⟨rfl,?_⟩
      first
       |exact jaO fun e=>by have:=e.1;omega
       |exact E24
       |exact E25
       |(obtain rfl:i=(jaE s).length:=by omega
         refine jb1 ⟨by omega,fun e=>?_,hdg⟩
         first
          |exact e.2 hz
          |exact E26)
    ·refine Z3 ?_;refine D45 ?_;refine D187 ?_;refine D217 ?_
     refine jai (fun nn l h'=> ∃(i:Nat),nn=(jaE s).length-i∧(i≤(jaE s).length)∧(∀j,j<i→digP ((jaE s).getD j 0))∧(∃U:Nat→Value,l=((str s)::(U 1)::(U 2)::(U 3)::(str (jaE s))::(.int .i64 (sgnS s))::(.int .i64 (valK (jaE s) i:Int))::(.int .i64 (i:Int))::vw50 U 8 []))∧h=h') _ ⟨0,rfl,by omega,fun j hj=>absurd hj zO,exU rfl,rfl⟩ ?_;rintro nn l h' ⟨i,rfl,hi,hdg,⟨U,rfl⟩,rfl⟩ hnext;have hvb:=jlt hi zO hdg
     have hcb:=((jaE s).getD i 0).toNat_lt
     refine D2 ?_;refine D212 ?_;refine D60 ?_
     refine jan rfl zq (fun hc=>?_) (fun hc=>?_);refine D190 ?_
     rotate_left
     refine D172 ?_
     all_goals
      refine D241 ?_
     ·refine D93 ?_;refine D195 ?_;refine D228 ?_
      refine ⟨rfl,?_⟩
      first
       |exact jaO fun e=>by have:=e.1;omega
       |exact E24
       |exact E25
       |(obtain rfl:i=(jaE s).length:=by omega
         refine jb1 ⟨by omega,fun e=>?_,hdg⟩
         first
          |exact e.2 hz
          |exact E26)
     ·refine D51 ?_;refine D67 ?_
      rintro v (⟨hc,rfl⟩|⟨hc,rfl⟩)
      ·refine D189 ?_;refine D149 ?_;refine rr9 ?_;refine Zs ?_;refine D73 ?_;refine Z2 ?_;refine D51 ?_;refine D71 ?_;refine D163 ?_;refine D171 ?_
       have hdi:digP ((jaE s).getD i 0):=by assumption
       rw [show 10*(valK (jaE s) i:Int)+(((jaE s).getD i 0).toNat:Int)-48=(valK (jaE s) (i+1):Int) by rw [jdX zO];unfold digP at hdi;omega];exact m.weak jaa (hnext _ _ _ zO ⟨i+1,rfl,by omega,fun j hj=>by
        by_cases e:j<i
        ·exact hdg j e
        ·obtain rfl:j=i:=by omega
         assumption,exU rfl,rfl⟩)
      ·refine D192 ?_;refine D238 ?_
       refine ⟨rfl,?_⟩
       first
        |exact jaO fun e=>by have:=e.1;omega
        |exact E24
        |exact E25
        |(obtain rfl:i=(jaE s).length:=by omega
          refine jb1 ⟨by omega,fun e=>?_,hdg⟩
          first
           |exact e.2 hz
           |exact E26)
def jbW (s:Str):Int:=if s=[63] then-1 else numS s
def jex (s:Str) (k:Nat):Prop:=s=[63]∨(je9 s∧(0≤numS s∧numS s≤mosts.getD k 0))
instance (s:Str) (k:Nat):Decidable (jex s k):=by unfold jex;infer_instance
def okR (s:Str):Prop:=(cutS s 45).length=3∧ ∀k,k<3→jex ((cutS s 45).getD k []) k
def valR (s:Str) (k:Nat):List Int:=((cutS s 45).take k).map jbW
theorem ix3 {k:Nat} (hk:k<3):([Value.int .i64 9,.int .i64 11,.int .i64 7]:List Value)[0+((k:Nat):Int).toNat*1]?=some (.int .i64 (mosts.getD k 0)):=by
 rcases (by omega:k=0∨k=1∨k=2) with rfl|rfl|rfl<;>rfl
theorem jlg (s:Str) (c:UInt8): ∀i,∀p∈(jbx s c i).1,p.length≤s.length
 |0,p,h=>by simp [jbx] at h
 |i+1,p,h=>by
  unfold jbx at h
  split at h
  ·rcases List.mem_append.1 h with h|h
   ·exact jlg s c i p h
   ·obtain rfl:p=_:=by simpa using h
    simp
    omega
  ·exact jlg s c i p h
theorem f167_c (m:Md Tryz.prog B) (h:Hp) (k:Nat) (hk:k<3):FnC m 167 #[.int .i64 (k:Int)] h fun v h'=>h'=h∧v= .int .i64 (mosts.getD k 0):=by
 refine jae Tryz.func167 rfl rfl (l:=(.int .i64 (k:Int))::uu6) rfl ?_
 intro cf cs K hK
 refine D162 ?_;refine rs5 ?_
 refine k_bs kdq rfl zq zA zA rfl (fun q3=>k_hp (jad ?_));refine Zs ?_;refine D29 ?_;refine k_ld rfl zq (Rd.held (Has.mem (b:=q3)) (by simpa using ix3 hk)) ?_;refine D146 ?_;refine jac (h) rfl Tryz.func167 rfl jaa ?_;refine D5 ?_
 exact ⟨rfl,rfl⟩
theorem f116_c (m:Md Tryz.prog B) (h:Hp) (s:Str) (hl:s.length≤100000) (k:Nat) (hk:k<3):FnC m 116 #[str s,.int .i64 (k:Int)] h fun v h'=>h'=h∧ ∃b,IsB (jex s k) b∧v= .tuple [.int .i64 (jbW s),b].toArray:=by
 refine jae Tryz.func116 rfl rfl (l:=(str s)::(.int .i64 (k:Int))::uu21) rfl ?_
 intro cf cs K hK
 refine D152 ?_;refine D218 ?_
 by_cases hq:s=[63]
 ·refine jhm rfl zq hq ?_;refine D178 ?_;refine jac (h) rfl Tryz.func116 rfl jaa ?_;refine D5 ?_;first
   |exact E27
   |exact E28
   |exact E29
   |exact E30
 ·refine jhn rfl zq hq ?_;refine D149 ?_;refine D197 ?_;refine jaj (Post:=fun v=>v=_) rfl zq zK (fun H' hH=>f166_c m H' s hl) ?_;rintro v rfl;refine D207 ?_;refine D150 ?_
  cases hno:decide (je9 s)
  all_goals
   refine rr10 ?_;refine Z3 ?_
  ·refine Z4 ?_;refine D10 ?_;refine D195 ?_;refine jac (h) rfl Tryz.func116 rfl jaa ?_;refine D5 ?_
   first
    |exact E27
    |exact E28
    |exact E29
    |exact E30
  ·refine Z2 ?_;refine jaj (Post:=fun v=>v=_) rfl rfl zK (fun H' hH=>f167_c m H' k hk) ?_
   rintro v rfl;refine D9 ?_;refine D118 ?_
   rintro v (⟨hc,rfl⟩|⟨hc,rfl⟩);all_goals
    refine D9 ?_;refine D13 ?_;refine D195 ?_;refine jac (h) rfl Tryz.func116 rfl jaa ?_;refine D5 ?_
    first
     |exact E27
     |exact E28
     |exact E29
     |exact E30
theorem jnx {s:Str} {k:Nat} (h:k<(cutS s 45).length):valR s (k+1)=valR s k++[jbW ((cutS s 45).getD k [])]:=by
 rw [valR,jbH _ k h,List.map_append];rfl
theorem valR_len {s:Str} {k:Nat} (h:k≤(cutS s 45).length):(valR s k).length=k:=by simp [valR];omega
instance (s:Str):Decidable (okR s):=by unfold okR;infer_instance
def jh1 (s:Str):List Int:=if okR s then valR s 3 else []
theorem f55_c (m:Md Tryz.prog B) (h:Hp) (s:Str) (hl:s.length≤100000):FnC m 55 #[str s] h fun v h'=> ∃new,h'=h++new∧ ∃w b,OwnS 3 1 w (jh1 s).length (ints (jh1 s)) new∧IsB (okR s) b∧v= .tuple [w,b].toArray:=by
 refine jae Tryz.func55 rfl rfl (l:=(str s)::uu33) rfl ?_
 intro cf cs K hK
 refine D152 ?_;refine D0 ?_;refine D186 ?_;refine jaS rfl zq zK (Post:=fun w new=>OwnS 9 1 w (cutS s 45).length (encs (cutS s 45)) new) (fun H' hH=>f63_c m H' s hl 45) ?_
 rintro w n4 o4;refine jaI (jad ?_);obtain ⟨p4,c4,rfl,hc4,r4⟩:=jap (B:=B) o4
 have hcl:=(jmq s 45 (s.length+1)).2
 have hle:=fun k=>show (((cutS s 45).getD k []).length≤100000) from by
  rcases Nat.lt_or_ge k (cutS s 45).length with e|e
  ·exact Nat.le_trans (jlg s 45 _ _ (jak (l:=cutS s 45) e)) hl
  ·rw [List.getD_eq_getElem?_getD,List.getElem?_eq_none e];simp
 refine D150 ?_;refine D203 ?_
 refine ja4 rfl zq (fun hc=>?_) (fun hc=>?_)
 ·refine D178 ?_;refine jac (h) rfl Tryz.func55 rfl jaa ?_;refine D5 ?_
  have hno: ¬okR s:=fun e=>by have:=e.1;omega
  exact ⟨[],by simp,_,_,by rw [jh1,if_neg hno];exact OwnS.nil,IsB.no hno,rfl⟩
 ·refine D149 ?_;refine D217 ?_
  refine jai (fun nn l h'=> ∃(k:Nat) (wp:Option Addr) (wc:Nat) (M:Hp),nn=3-k∧(k≤3)∧(OwnS 3 1 (.slice wp (valR s k).length wc) (valR s k).length (ints (valR s k)) M)∧(∀j,j<k→jex ((cutS s 45).getD j []) j)∧(∃U:Nat→Value,l=((str s)::(U 1)::(U 2)::(U 3)::(.slice p4 (cutS s 45).length c4)::(.slice wp (valR s k).length wc)::(.int .i64 (k:Int))::vw27 U 7 []))∧h++n4++M=h') _ ⟨0,none,0,[],rfl,by omega,OwnS.nil,fun j hj=>absurd hj zO,exU rfl,zS⟩ ?_;rintro nn l h' ⟨k,wp,wc,M,rfl,hk,how,hpk,⟨U,rfl⟩,rfl⟩ hnext;have hvl:=valR_len (s:=s) (k:=k) zO
  refine D2 ?_;refine D152 ?_
  refine jan rfl zq (fun hc=>?_) (fun hc=>?_)
  ·refine D190 ?_
   have hkn:k<(cutS s 45).length:=by omega
   obtain ⟨b4,o4_,hp4⟩:=r4.ptr zO
   subst hp4
   refine rr11 ?_;refine Z2 ?_;refine D29 ?_;refine k_ld rfl zq (r4.sat k zO zO) ?_;refine Zs ?_;refine jaj (Post:=fun v=> ∃b,IsB (jex ((cutS s 45).getD k []) k) b∧v= .tuple [.int .i64 (jbW ((cutS s 45).getD k [])),b].toArray) rfl zq zK (fun H' hH=>f116_c m H' _ (hle k) k zO) ?_;rintro v ⟨b8,hb8,rfl⟩;refine D207 ?_;refine D150 ?_;refine D2 ?_
   rcases hb8 with ⟨hc8,rfl⟩|⟨hc8,rfl⟩
   ·refine D206 ?_;refine D38 ?_;refine D149 ?_;refine rr5 ?_;refine Z2 ?_
    refine k_bs kdq rfl zq zA zA rfl (fun q31=>k_hp (jad ?_));refine ja3 rfl zq rfl how kdq zO zO (fun w9 n9 o9=>jad ?_);obtain ⟨p9,c9,rfl,hc9,r9⟩:=jap (B:=B) o9
    refine D0 ?_;refine D171 ?_
    have hks:=jnx (s:=s) (k:=k) zO
    have hkl:(valR s (k+1)).length=(valR s k).length+1:=by rw [hks];simp
    rw [←hkl];exact m.weak jaa (hnext _ _ _ zO ⟨k+1,p9,c9,n9,rfl,by omega,by rw [hkl,hks,jbh];exact o9,fun j hj=>by
     by_cases e:j<k
     ·exact hpk j e
     ·obtain rfl:j=k:=by omega
      exact hc8,exU rfl,rfl⟩)
   ·refine D206 ?_;refine D40 ?_;refine D178 ?_;refine jac (h) rfl Tryz.func55 rfl jaa ?_;refine D5 ?_
    have hno: ¬okR s:=fun e=>hc8 (e.2 k zO)
    exact ⟨[],by simp,_,_,by rw [jh1,if_neg hno];exact OwnS.nil,IsB.no hno,rfl⟩
  ·refine D172 ?_;refine D203 ?_;refine D146 ?_;refine jac (h++M) rfl Tryz.func55 rfl jaa ?_;refine D5 ?_
   obtain rfl:k=3:=by omega
   have hok:okR s:=⟨by omega,hpk⟩
   have e:jh1 s=valR s 3:=by rw [jh1,if_pos hok]
   exact ⟨M,rfl,_,_,by rw [e];exact how,IsB.yes hok,rfl⟩
end Go.Proofs
namespace Go.Proofs
open Go.Lo
def spl (c:UInt8):Str→List Str
 |[]=>[[]]
 |x::r=>if x=c then []::spl c r else match spl c r with
  |[]=>[[x]]
  |p::q=>(x::p)::q
theorem jjB (c:UInt8) (s:Str):spl c s≠[]:=by
 cases s with
 |nil=>simp [spl]
 |cons x r=>
  unfold spl
  split
  ·simp
  ·split<;>simp
theorem jiO (c y:UInt8): ∀(xs:Str) (A:List Str) (l:Str),spl c xs=A++[l]→spl c (xs++[y])=if y=c then A++[l]++[[]] else A++[l++[y]]
 |[],A,l,h=>by
  have h2:A=[]∧l=[]:=by
   cases A with
   |nil=>simpa [spl,eq_comm] using h
   |cons a A=>simp [spl] at h
  obtain ⟨rfl,rfl⟩:=h2
  by_cases e:y=c<;>simp [spl,e]
 |x::r,A,l,h=>by
  by_cases hx:x=c
  ·rw [spl,if_pos hx] at h
   cases A with
   |nil=>
    have:spl c r=[]:=by simpa using (List.cons.inj h).2
    exact absurd this (jjB c r)
   |cons a A=>
    obtain ⟨rfl,h2⟩:=List.cons.inj h
    have:=jiO c y r A l h2
    rw [List.cons_append,spl,if_pos hx,this];split<;>simp
  ·obtain ⟨p,q,hpq⟩: ∃p q,spl c r=p::q:=by
    cases e:spl c r with
    |nil=>exact absurd e (jjB c r)
    |cons p q=>exact ⟨p,q,rfl⟩
   rw [spl,if_neg hx,hpq] at h
   simp only at h
   have hr: ∃A' l',spl c r=A'++[l']∧((A'=[]∧A=[]∧l=x::l')∨(∃A2,A'=p::A2∧A=(x::p)::A2∧l=l')):=by
    cases A with
    |nil=>
     have h3:x::p=l∧q=[]:=by simpa using h
     exact ⟨[],p,by rw [hpq,h3.2];rfl,.inl ⟨rfl,rfl,h3.1.symm⟩⟩
    |cons a A=>
     obtain ⟨h3,h4⟩:=List.cons.inj h
     exact ⟨p::A,l,by rw [hpq,h4];rfl,.inr ⟨A,rfl,by rw [h3],rfl⟩⟩
   obtain ⟨A',l',he,hc⟩:=hr
   have ih:=jiO c y r A' l' he
   rw [List.cons_append,spl,if_neg hx,ih];rcases hc with ⟨rfl,rfl,rfl⟩|⟨A2,rfl,rfl,rfl⟩<;>by_cases e:y=c<;>simp [e]
theorem jpn (s:Str) (c:UInt8): ∀i,i≤s.length→spl c (s.take i)=(jbx s c i).1++[(s.take i).drop (jbx s c i).2]
 |0,_=>by simp [spl,jbx]
 |i+1,h=>by
  have ih:=jpn s c i zO
  have hle:=(jmq s c i).1
  rw [jbH s i zO,jiO c (s.getD i default) _ _ _ ih];by_cases e:s.getD i 0=c
  ·rw [if_pos (show s.getD i default=c from e),jjh (.inr e)];simp only
   congr 1
   rw [List.drop_eq_nil_of_le];simp
   omega
  ·rw [if_neg (show¬s.getD i default=c from e),cut_no zO e,List.drop_append_of_le_length zN]
theorem jkC (s:Str) (c:UInt8):cutS s c=spl c s:=by
 have:=jpn s c s.length (Nat.le_refl _)
 rw [List.take_length] at this
 rw [cutS,jjh (.inl rfl),this,List.take_length]
def jc0 (x:Nat) (p:Str):Nat:=p.foldl (fun n c=>10*n+(c.toNat-48)) x
theorem jjd: ∀(p:Str) (x:Nat),1≤x→x+p.length≤jc0 x p
 |[],x,_=>by simp [jc0]
 |c::r,x,h=>by
  have:=jjd r (10*x+(c.toNat-48)) zO
  show _≤jc0 (10*x+(c.toNat-48)) r
  simp only [List.length_cons]
  omega
abbrev failV:List Int×Bool:=([0,0,0],false)
theorem set_set {v:List Int} {k:Nat} {x y:Int}:(v.set k x).set k y=v.set k y:=List.set_set ..
theorem jn5: ∀(p r:Str) (v:List Int) (k n x:Nat),v.length=3→k≤2→0<n→1≤x→v.getD k 0=(x:Int)→(x:Int)≤mosts.getD k 0→(∀c∈p,c≠45)→
  rdF mosts (p++r) v k n=if (∀c∈p,digP c)∧(jc0 x p:Int)≤mosts.getD k 0 then rdF mosts r (v.set k (jc0 x p:Int)) k (n+p.length) else failV
 |[],r,v,k,n,x,hv,hk,hn,hx,hvx,hm,_=>by
  have e:v.set k (x:Int)=v:=by
   rw [←hvx];rw [List.getD_eq_getElem?_getD,List.getElem?_eq_getElem zO];simp
  rw [if_pos ⟨fun c hc=>by simp at hc,by simpa [jc0] using hm⟩];simp [jc0,e]
 |c::p,r,v,k,n,x,hv,hk,hn,hx,hvx,hm,hd=>by
  have hc45:c.toNat≠45:=fun e=>hd c zS (UInt8.toNat_inj.1 (by rw [e];rfl))
  rw [List.cons_append];by_cases hdg:digP c
  ·have hdg':=hdg
   unfold digP at hdg'
   have hset:(v.set k (10*v.getD k 0+((c.toNat:Int)-48))).getD k 0=10*v.getD k 0+((c.toNat:Int)-48):=jbd zO
   have hy:10*v.getD k 0+((c.toNat:Int)-48)=((10*x+(c.toNat-48):Nat):Int):=by rw [hvx];omega
   by_cases hb:(v.set k (10*v.getD k 0+((c.toNat:Int)-48))).getD k 0>mosts.getD k 0
   ·rw [jiW ⟨hdg',.inr zO⟩ hb,if_neg];rintro ⟨-,h2⟩;have:=jjd p (10*x+(c.toNat-48)) zO
    rw [hset,hy] at hb
    have h3:(jc0 (10*x+(c.toNat-48)) p:Int)≤mosts.getD k 0:=h2
    omega
   ·have hb':(v.set k (10*v.getD k 0+((c.toNat:Int)-48))).getD k 0≤mosts.getD k 0:=by omega
    rw [jiV ⟨hdg',.inr zO⟩ hb',jn5 p r _ k (n+1) (10*x+(c.toNat-48)) (by simpa using hv) hk zO zO (by rw [hset,hy]) (by rw [hset,hy] at hb';exact hb') (fun c hc=>hd c (by simp [hc]))];have e1:((∀c∈p,digP c)∧(jc0 (10*x+(c.toNat-48)) p:Int)≤mosts.getD k 0)↔((∀c'∈c::p,digP c')∧(jc0 x (c::p):Int)≤mosts.getD k 0):=by
     constructor
     ·rintro ⟨a,b⟩;exact ⟨fun c' hc'=>by rcases List.mem_cons.1 hc' with rfl|h;exact hdg;exact a c' h,b⟩
     ·rintro ⟨a,b⟩;exact ⟨fun c' hc'=>a c' (by simp [hc']),b⟩
    by_cases h:(∀c∈p,digP c)∧(jc0 (10*x+(c.toNat-48)) p:Int)≤mosts.getD k 0
    ·rw [if_pos h,if_pos (e1.1 h),set_set];show rdF mosts r (v.set k (jc0 (10*x+(c.toNat-48)) p:Int)) k (n+1+p.length)=rdF mosts r (v.set k (jc0 (10*x+(c.toNat-48)) p:Int)) k (n+(p.length+1))
     rw [show n+1+p.length=n+(p.length+1) by omega]
    ·rw [if_neg h,if_neg (fun e=>h (e1.2 e))]
  ·rw [jck zO zO (by rintro ⟨a,-⟩;exact hdg a),if_neg (fun e=>hdg (e.1 c zS))]
theorem jko: ∀(p:Str) (x:Nat),1≤x→x+9*p.length≤jc0 x p
 |[],x,_=>by simp [jc0]
 |c::r,x,h=>by
  have:=jko r (10*x+(c.toNat-48)) zO
  show _≤jc0 (10*x+(c.toNat-48)) r
  simp only [List.length_cons]
  omega
theorem neg_no {p:Str} (h: ∀c∈p,c≠45): ¬negS p:=fun ⟨e1,e2⟩=>h _ (jak (l:=p) e1) e2
theorem jn7 {p:Str} (h: ∀c∈p,c≠45):jaE p=p:=by rw [jaE,if_neg (neg_no h)]
theorem jk4 {p:Str} (h: ∀c∈p,c≠45):je9 p↔(1≤p.length∧p.length≤9)∧ ¬(p.getD 0 0=48∧p≠[48])∧ ∀c∈p,digP c:=by
 rw [je9,jn7 h];refine and_congr_right fun _=>and_congr_right fun _=>⟨fun e c hc=>?_,fun e i hi=>e _ (jak (l:=p) hi)⟩
 obtain ⟨i,hi,rfl⟩:=List.mem_iff_getElem.1 hc
 have:=e i hi
 rwa [List.getD_eq_getElem?_getD,List.getElem?_eq_getElem hi] at this
theorem ji1 {p:Str} (h: ∀c∈p,c≠45) (ok:je9 p):numS p=(jc0 0 p:Int):=by
 rw [numS,if_pos ok,jn7 h,sgnS,if_neg (neg_no h),valK,List.take_length,Int.one_mul];rfl
theorem most_bd {k:Nat} (h:k≤2):7≤mosts.getD k 0∧mosts.getD k 0≤11:=jfc zO
theorem jlQ (p r:Str) (v:List Int) (k:Nat) (hp:p≠[]) (hd: ∀c∈p,c≠45) (hv:v.length=3) (hk:k≤2) (h0:v.getD k 0=0):
  rdF mosts (p++r) v k 0=if jex p k then rdF mosts r (v.set k (jbW p)) k p.length else failV:=by
 obtain ⟨c,q,rfl⟩:=List.exists_cons_of_ne_nil hp
 have hmb:=most_bd hk
 have hc45:c.toNat≠45:=fun e=>hd c zS (UInt8.toNat_inj.1 (by rw [e];rfl))
 have hq: ∀c∈q,c≠45:=fun c hc=>hd c (by simp [hc])
 have hni:=jk4 hd
 by_cases h63:c.toNat=63
 ·have hcc:c=63:=UInt8.toNat_inj.1 (by rw [h63];rfl)
  subst hcc
  have hno: ¬je9 (63::q):=fun e=>by have:=(hni.1 e).2.2 63 zS;unfold digP at this;revert this;decide
  have hs:(v.set k (-1)).getD k 0= -1:=jbd zO
  rw [List.cons_append,job ⟨rfl,rfl⟩ (by rw [hs];omega)];cases q with
  |nil=>
   rw [if_pos (.inl rfl)];show rdF mosts r (v.set k (-1)) k 1=rdF mosts r (v.set k (jbW [63])) k 1
   rw [jbW,if_pos rfl]
  |cons c2 q2=>
   have h2:c2.toNat≠45:=fun e=>hq c2 zS (UInt8.toNat_inj.1 (by rw [e];rfl))
   rw [List.cons_append,jck zO zO (by rw [hs];omega),if_neg];rintro (e|e)
   ·simp at e
   ·exact hno e.1
 ·have hn63:c::q≠[63]:=fun e=>by
   obtain ⟨rfl,-⟩:=List.cons.inj e
   exact h63 rfl
  by_cases hdg:digP c
  ·have hdg':=hdg
   unfold digP at hdg'
   have hs:(v.set k (10*v.getD k 0+((c.toNat:Int)-48))).getD k 0=10*v.getD k 0+((c.toNat:Int)-48):=jbd zO
   have hx:10*v.getD k 0+((c.toNat:Int)-48)=((c.toNat-48:Nat):Int):=by rw [h0];omega
   have hf:jc0 0 (c::q)=jc0 (c.toNat-48) q:=by
    show jc0 (10*0+(c.toNat-48)) q=_
    rw [Nat.mul_zero,Nat.zero_add]
   by_cases hb:(v.set k (10*v.getD k 0+((c.toNat:Int)-48))).getD k 0>mosts.getD k 0
   ·rw [List.cons_append,jiW ⟨hdg',.inl rfl⟩ hb,if_neg];rintro (e|⟨e1,e2⟩)
    ·exact hn63 e
    ·rw [ji1 hd e1,hf] at e2
     rw [hs,hx] at hb
     have:=jjd q (c.toNat-48) zO
     omega
   ·have hb':(v.set k (10*v.getD k 0+((c.toNat:Int)-48))).getD k 0≤mosts.getD k 0:=by omega
    rw [List.cons_append,jiV ⟨hdg',.inl rfl⟩ hb'];by_cases hz:c.toNat=48
    ·have hcc:c=48:=UInt8.toNat_inj.1 (by rw [hz];rfl)
     subst hcc
     cases q with
     |nil=>
      have hok:je9 [48]:=hni.2 ⟨by decide,fun e=>e.2 rfl,fun c hc=>by rw [List.mem_singleton.1 hc];decide⟩
      have hns:=ji1 hd hok
      have hz0:(jc0 0 ([48]:Str):Int)=0:=rfl
      rw [if_pos (.inr ⟨hok,by omega,by omega⟩),jbW,if_neg hn63,hns,hz0,hx];rfl
     |cons c2 q2=>
      have h2:c2.toNat≠45:=fun e=>hq c2 zS (UInt8.toNat_inj.1 (by rw [e];rfl))
      rw [List.cons_append,jck zO zO (by rw [hs,hx];rintro ⟨-,e⟩;rcases e with e|e;omega;simp at e),if_neg];rintro (e|e)
      ·exact hn63 e
      ·exact (hni.1 e.1).2.1 ⟨rfl,by simp⟩
    ·rw [jn5 q r _ k (0+1) (c.toNat-48) (by simpa using hv) hk zO zO (by rw [hs,hx]) (by rw [hs,hx] at hb';exact hb') hq];by_cases hall:(∀c∈q,digP c)∧(jc0 (c.toNat-48) q:Int)≤mosts.getD k 0
     ·have h9:=jko q (c.toNat-48) zO
      have hok:je9 (c::q):=hni.2 ⟨by simp only [List.length_cons];omega,fun e=>hz (by have:=e.1;rw [show c=48 from this];rfl),fun c' hc'=>by rcases List.mem_cons.1 hc' with rfl|e;exact hdg;exact hall.1 c' e⟩
      have hns:=ji1 hd hok
      rw [hf] at hns
      rw [if_pos hall,if_pos (.inr ⟨hok,by omega,by omega⟩),set_set,jbW,if_neg hn63,hns];simp only [List.length_cons]
      rw [Nat.zero_add,Nat.add_comm]
     ·rw [if_neg hall,if_neg];rintro (e|⟨e1,e2⟩)
      ·exact hn63 e
      ·rw [ji1 hd e1,hf] at e2
       exact hall ⟨fun c' hc'=>(hni.1 e1).2.2 c' (by simp [hc']),e2.2⟩
  ·rw [List.cons_append,jck zO zO (by rintro ⟨a,-⟩;exact hdg a),if_neg];rintro (e|e)
   ·exact hn63 e
   ·exact hdg ((hni.1 e.1).2.2 c zS)
theorem jgS: ∀s:Str,∃p r,s=p++r∧(∀c∈p,c≠45)∧((r=[]∧spl 45 s=[p])∨ ∃r',r=45::r'∧spl 45 s=p::spl 45 r')
 |[]=>⟨[],[],rfl,by simp,.inl ⟨rfl,rfl⟩⟩
 |x::t=>by
  by_cases hx:x=45
  ·subst hx
   exact ⟨[],45::t,rfl,by simp,.inr ⟨t,rfl,by rw [spl,if_pos rfl]⟩⟩
  ·obtain ⟨p,r,rfl,hp,h⟩:=jgS t
   refine ⟨x::p,r,rfl,fun c hc=>by rcases List.mem_cons.1 hc with rfl|e;exact hx;exact hp c e,?_⟩
   rcases h with ⟨e1,e2⟩|⟨r',e1,e2⟩
   ·exact .inl ⟨e1,by rw [spl,if_neg hx,e2]⟩
   ·exact .inr ⟨r',e1,by rw [spl,if_neg hx,e2]⟩
theorem jiY (k:Nat): ¬jex [] k:=by
 rintro (e|e)
 ·simp at e
 ·have:=((jk4 (p:=[]) zS).1 e.1).1.1
  simp at this
def okP (k:Nat) (ps:List Str):Prop:=ps.length=3-k∧ ∀j,j<3-k→jex (ps.getD j []) (k+j)
theorem okP_cons {k:Nat} {p:Str} {ps:List Str} (hk:k<2):okP k (p::ps)↔jex p k∧okP (k+1) ps:=by
 unfold okP
 constructor
 ·rintro ⟨a,b⟩;refine ⟨b 0 zO,by simp only [List.length_cons] at a;omega,fun j hj=>?_⟩
  have:=b (j+1) zO
  rw [show k+(j+1)=k+1+j by omega] at this
  simpa using this
 ·rintro ⟨a,b,c⟩;refine ⟨by simp only [List.length_cons];omega,fun j hj=>?_⟩
  cases j with
  |zero=>exact a
  |succ j=>
   have:=c j zO
   rw [show k+(j+1)=k+1+j by omega];simpa using this
theorem jk2 {k:Nat} {p:Str} (hk:k≤2):okP k [p]↔k=2∧jex p k:=by
 unfold okP
 constructor
 ·rintro ⟨a,b⟩;simp only [List.length_cons,List.length_nil] at a
  exact ⟨by omega,b 0 zO⟩
 ·rintro ⟨rfl,b⟩;refine ⟨rfl,fun j hj=>?_⟩
  obtain rfl:j=0:=by omega
  exact b
theorem joc {r:Str} {v:List Int} {k n:Nat} (h: ¬(0<n∧k<2)):rdF mosts (45::r) v k n=failV:=jck (fun e=>h e.2) (fun e=>absurd e.1 zA) (fun e=>absurd e.1 zA)
theorem fig_go: ∀(d k:Nat) (s:Str) (v:List Int),k+d=2→v.length=3→(∀j,k≤j→v.getD j 0=0)→
  ((rdF mosts s v k 0).2=true↔okP k (spl 45 s))∧(okP k (spl 45 s)→(rdF mosts s v k 0).1=v.take k++(spl 45 s).map jbW):=by
 intro d
 induction d with
 |zero=>
  intro k s v hk hv h0
  obtain rfl:k=2:=by omega
  obtain ⟨p,r,rfl,hp,h⟩:=jgS s
  by_cases hpn:p=[]
  ·subst hpn
   rcases h with ⟨rfl,e⟩|⟨r',rfl,e⟩
   ·rw [e];have: ¬okP 2 [([]:Str)]:=fun x=>jiY 2 ((jk2 zO).1 x).2
    exact ⟨⟨fun x=>by simp [rdF] at x,fun x=>absurd x this⟩,fun x=>absurd x this⟩
   ·rw [e];have: ¬okP 2 (([]:Str)::spl 45 r'):=fun x=>jiY 2 (x.2 0 zO)
    rw [List.nil_append,joc zO];exact E31
  ·rw [jlQ p r v 2 hpn hp hv zO (h0 2 zO)];by_cases hpp:jex p 2
   ·rw [if_pos hpp];rcases h with ⟨rfl,e⟩|⟨r',rfl,e⟩
    ·rw [e];have hl:0<p.length:=by cases p with|nil=>exact absurd rfl hpn|cons a b=>simp
     refine ⟨⟨fun _=>(jk2 zO).2 ⟨rfl,hpp⟩,fun _=>by simp [rdF,hl]⟩,fun _=>?_⟩
     obtain ⟨a,b,c,rfl⟩:=three hv
     rfl
    ·rw [e,joc zO];have: ¬okP 2 (p::spl 45 r'):=fun x=>by
      have h1:=x.1
      have h2:0<(spl 45 r').length:=List.length_pos_iff.2 (jjB 45 r')
      simp only [List.length_cons] at h1
      omega
     exact E31
   ·rw [if_neg hpp];have: ¬okP 2 (spl 45 (p++r)):=by
     rcases h with ⟨-,e⟩|⟨r',-,e⟩<;>rw [e]<;>exact fun x=>hpp (x.2 0 zO)
    exact E31
 |succ d ih=>
  intro k s v hk hv h0
  obtain ⟨p,r,rfl,hp,h⟩:=jgS s
  have hbad: ¬jex p k→ ¬okP k (spl 45 (p++r)):=fun hpp=>by
   rcases h with ⟨-,e⟩|⟨r',-,e⟩<;>rw [e]<;>exact fun x=>hpp (x.2 0 zO)
  by_cases hpn:p=[]
  ·subst hpn
   have:=hbad (jiY k)
   rcases h with ⟨rfl,e⟩|⟨r',rfl,e⟩
   ·exact ⟨⟨fun x=>by simp [rdF] at x,fun x=>absurd x this⟩,fun x=>absurd x this⟩
   ·rw [show rdF mosts ([]++45::r') v k 0=failV from joc zO];exact E31
  ·rw [jlQ p r v k hpn hp hv zO (h0 k zO)];by_cases hpp:jex p k
   ·rw [if_pos hpp];rcases h with ⟨rfl,e⟩|⟨r',rfl,e⟩
    ·rw [e,jk2 zO];refine ⟨⟨fun x=>?_,fun x=>absurd x.1 zO⟩,fun x=>absurd x.1 zO⟩
     simp [rdF] at x
     omega
    ·have hl:0<p.length:=by cases p with|nil=>exact absurd rfl hpn|cons a b=>simp
     rw [e,jlN ⟨by decide,hl,by omega⟩,okP_cons zO];obtain ⟨i1,i2⟩:=ih (k+1) r' (v.set k (jbW p)) zO (by simpa using hv) (fun j hj=>by rw [set_other zO];exact h0 j zO)
     refine ⟨i1.trans ⟨fun x=>⟨hpp,x⟩,fun x=>x.2⟩,fun x=>?_⟩
     rw [i2 x.2,List.map_cons];have:(v.set k (jbW p)).take (k+1)=v.take k++[jbW p]:=by
      rw [jbH _ k zN,List.take_set_of_le zO];congr 2
      exact jbd zO
     rw [this,List.append_assoc];rfl
   ·rw [if_neg hpp];have:=hbad hpp
    exact E31
theorem jhe (s:Str):okR s↔jaY s=true:=by
 have:=(fig_go 2 0 s [0,0,0] rfl rfl fun j _=>jjn j).1
 rw [jaY,this,okR,okP,jkC];refine and_congr_right fun _=>forall_congr' fun j=>?_
 rw [Nat.zero_add]
theorem jl1 (s:Str):jh1 s=if jaY s then jar s else []:=by
 by_cases h:okR s
 ·rw [jh1,if_pos h,if_pos ((jhe s).1 h)];have:=(fig_go 2 0 s [0,0,0] rfl rfl fun j _=>jjn j).2 (by
   have h2:=h
   rw [okR,jkC] at h2
   refine ⟨h2.1,fun j hj=>?_⟩
   rw [Nat.zero_add];exact h2.2 j hj)
  rw [jar,this,valR,List.take_of_length_le (by have:=h.1;omega),jkC];rfl
 ·rw [jh1,if_neg h,if_neg (fun e=>h ((jhe s).2 e))]
end Go.Proofs
namespace Go.Proofs
open Go.Lo
open Go.Conc (G)
set_option maxRecDepth 100000
set_option synthInstance.maxSize 100000
set_option synthInstance.maxHeartbeats 1000000
set_option maxHeartbeats 4000000
variable {B:Array Obj}
variable [LaidO B]
def lisP (s:Str):List Int:=if jaY s then jar s else []
theorem f55p_c (m:Md Tryz.prog B) (h:Hp) (s:Str) (hl:s.length≤100000):FnC m 55 #[str s] h fun v h'=> ∃new,h'=h++new∧ ∃w,OwnS 3 1 w (lisP s).length (ints (lisP s)) new∧v= .tuple [w,.bool (jaY s)].toArray:=
 CallF.mono (f55_c m h s hl) fun v h' ⟨new,e,w,b,o,hb,ev⟩=>⟨new,e,w,by rw [lisP,←jl1];exact o,by
  rcases hb with ⟨h1,rfl⟩|⟨h1,rfl⟩
  ·rw [(jhe s).1 h1];exact ev
  ·rw [show jaY s=false from Bool.eq_false_iff.2 fun e=>h1 ((jhe s).2 e)];exact ev⟩
theorem jdn (s:Str):ja7 s=true↔jaY s=true∨s=[45]:=by rw [ja7,Bool.or_eq_true,decide_eq_true_iff];rfl
theorem f173_c (m:Md Tryz.prog B) (h:Hp) (s:Str) (hl:s.length≤100000):FnC m 173 #[str s] h fun v h'=>h'=h∧IsB (ja7 s=true) v:=by
 refine jae Tryz.func173 rfl rfl (l:=(str s)::uu14) rfl ?_
 intro cf cs K hK
 refine D162 ?_;refine D197 ?_;refine jaS rfl zq zK (Post:=fun v new=> ∃w,OwnS 3 1 w (lisP s).length (ints (lisP s)) new∧v= .tuple [w,.bool (jaY s)].toArray) (fun H' hH=>f55p_c m H' s hl) ?_
 rintro v n1 ⟨w1,o1,rfl⟩;refine jaI (jad ?_);obtain ⟨p1,c1,rfl,hc1,r1⟩:=jap (B:=B) o1
 refine Z4 ?_;refine D150 ?_
 cases hfo:jaY s
 all_goals
  refine rr6 ?_;refine Z2 ?_
 ·refine Zs ?_
  by_cases hda:s=[45]
  refine jhm rfl rfl hda ?_;rotate_left
  refine jhn rfl rfl hda ?_;all_goals
   refine D179 ?_;refine jac (h) rfl Tryz.func173 rfl jaa ?_;refine D5 ?_
   first
    |exact ⟨rfl,IsB.yes ((jdn s).2 (.inl hfo))⟩
    |exact ⟨rfl,IsB.yes ((jdn s).2 (.inr hda))⟩
    |exact E32
 ·refine Z2 ?_;refine D222 ?_;refine jac (h) rfl Tryz.func173 rfl jaa ?_;refine D5 ?_
  first
   |exact ⟨rfl,IsB.yes ((jdn s).2 (.inl hfo))⟩
   |exact ⟨rfl,IsB.yes ((jdn s).2 (.inr hda))⟩
   |exact E32
theorem f125_c (m:Md Tryz.prog B) (h:Hp) {b:Tb} {ps:Option Addr} {ns ks:Nat} {pw:Option Addr} {nw cw:Nat} {pb:Option Addr} {nb cb:Nat} (rds:RdS B h 1 (.slice ps ns ks) ns (encs b.sts)) (hcs:ns≤ks) (hns:ns≤1000) (hsl: ∀s∈b.sts,s.length≤100000) {pl:Option Addr} {nl cl:Nat} {lns:List Ln} (hln:RdLn B h (.slice pl nl cl) nl lns) (hnl:nl≤1000) (hsm: ∀l∈lns,l.figs.length≤1000∧ ∀f∈l.figs,f.length≤100000):FnC m 125 #[tbV b ps ns ks pw nw cw pb nb cb,.slice pl nl cl] h fun v h'=>h'=h∧v= .int .i64 (jat b.sts.length lns):=by
 have hml:=rds.elen zA
 obtain ⟨lps,rfl,rl,hfig⟩:=hln
 have hll:=rl.elen zA
 refine jae Tryz.func125 rfl rfl (l:=(tbV b ps ns ks pw nw cw pb nb cb)::(.slice pl nl cl)::uu67) rfl ?_
 intro cf cs K hK
 refine rs2 ?_;refine jaQ rfl zq (fun q2=>k_hp (jad ?_));refine D150 ?_;refine D203 ?_
 refine jaF rfl zq (fun hc=>?_) (fun hc=>?_)
 ·refine D166 ?_;refine D84 ?_;refine D5 ?_
  refine ⟨rfl,congrArg (Value.int .i64) ?_⟩
  first
   |(rw [jat,if_pos zI];done)
   |(rw [jat,if_neg zI,hlm];first
     |(rw [List.drop_eq_nil_of_le zI];rfl)
     |(rw [hdr];first
       |exact (jbF zO).symm
       |exact E15
       |exact E16
       |exact E33))
 ·refine D165 ?_;refine D180 ?_
  refine jai (fun nn l h'=> ∃(i:Nat),nn=nl-i∧(i≤nl)∧(jbB b.sts.length none (lps.map (·.ln))=jbB b.sts.length (jk0 (lps.map (·.ln)) i) ((lps.map (·.ln)).drop i))∧(∃U:Nat→Value,l=((tbV b ps ns ks pw nw cw pb nb cb)::(.slice pl nl cl)::(.pointer (some ⟨q2,0,none⟩))::(U 3)::(U 4)::(.int .i64 (i:Int))::vw63 U 6 []))∧h++[⟨true,q2,.cells (tbL b ps ns ks pw nw cw pb nb cb).toArray 25 (0,0)⟩]=h') _ ⟨0,rfl,by omega,rfl,exU rfl,rfl⟩ ?_;rintro nn l h' ⟨i,rfl,hi,hlm,⟨U,rfl⟩,rfl⟩ hnext1;refine D2 ?_;refine D196 ?_
  refine jan rfl zq (fun hc=>?_) (fun hc=>?_)
  ·refine D190 ?_;refine D2 ?_
   obtain ⟨rl_b,rl_o,rfl⟩:=rl.ptr zO
   obtain ⟨x,hx⟩: ∃x,x=lps.getD i default:=⟨_,rfl⟩
   have hxm:x∈lps:=hx▸jak zO
   obtain ⟨hxc,rdf0⟩:=hfig x hxm
   have hdr:(lps.map (·.ln)).drop i=x.ln::(lps.map (·.ln)).drop (i+1):=by rw [jjf zI,jaR _ _ zO,←hx]
   obtain ⟨hfl,hfs⟩:=hsm x.ln (List.mem_map.2 ⟨x,hxm,rfl⟩)
   refine rr7 ?_;refine Z2 ?_;refine D29 ?_;refine Zs ?_;refine k_ld (v:= .int .i64 (lps.getD i default).ln.lat) rfl zq (rl.fat i 0 zO zO rfl) ?_;rw [←hx];refine D59 ?_
   rintro v (⟨hc,rfl⟩|⟨hc,rfl⟩)
   ·refine D189 ?_;refine D165 ?_;refine D2 ?_;refine jaq [(0,.pure),(1,.pure),(2,.pure),(3,.pure),(4,.pure),(5,.pure),(6,.pure),(8,.pure),(9,.pure),(10,.pure),(11,.pure),(12,.pure),(7,.read),(13,.read),(14,.pure),(15,.pure)] zK zK (List.Sublist.refl _) ?_;refine Zs ?_
    refine jaF rfl zq (fun hc=>?_) (fun hc=>?_)
    ·refine Z3 ?_;refine jdl rfl rfl rfl zO zO ?_;refine Z4 ?_;refine jdl rfl rfl rfl zO zO ?_;refine Zs ?_;refine k_ld (v:= .int .i64 (lps.getD i default).ln.lat) rfl rfl (rl.fat i 0 zO zO rfl) ?_
     rw [←hx];refine D134 ?_
     refine jeF rfl rfl (fun hc=>?_) (fun hc=>?_)
     ·refine D209 ?_;refine D84 ?_;refine D5 ?_
      refine ⟨rfl,congrArg (Value.int .i64) ?_⟩
      first
       |(rw [jat,if_pos zI];done)
       |(rw [jat,if_neg zI,hlm];first
         |(rw [List.drop_eq_nil_of_le zI];rfl)
         |(rw [hdr];first
           |exact (jbF zO).symm
           |exact E15
           |exact E16
           |exact E33))
     ·refine D13 ?_;refine D165 ?_;refine D2 ?_
      have hnu: ¬jgp (jk0 (lps.map (·.ln)) i) x.ln.lat:=by
       rintro ⟨y,e1,e2⟩;first
        |(have hi0:i=0:=by omega
          subst hi0
          cases e1)
        |(rw [jaG zO,jaR _ _ zO] at e1;have e3:=Option.some.inj e1;omega)
      refine D86 ?_;refine Z2 ?_;refine D29 ?_;refine Z2 ?_;refine D34 ?_
      rw [←hx];refine Z3 ?_
      refine ja4 rfl zq (fun hc=>?_) (fun hc=>?_)
      ·refine D166 ?_;refine D84 ?_;refine D5 ?_
       refine ⟨rfl,congrArg (Value.int .i64) ?_⟩
       first
        |(rw [jat,if_pos zI];done)
        |(rw [jat,if_neg zI,hlm];first
          |(rw [List.drop_eq_nil_of_le zI];rfl)
          |(rw [hdr];first
            |exact (jbF zO).symm
            |exact E15
            |exact E16
            |exact E33))
      ·refine D149 ?_;refine D180 ?_
       refine jai (fun nn l h'=> ∃(k:Nat),nn=x.ln.figs.length-k∧(k≤x.ln.figs.length)∧(∀j,j<k→ja7 (x.ln.figs.getD j [])=true)∧(∃U:Nat→Value,l=((tbV b ps ns ks pw nw cw pb nb cb)::(.slice (some ⟨rl_b,rl_o,none⟩) nl cl)::(.pointer (some ⟨q2,0,none⟩))::(U 3)::(U 4)::(.int .i64 (i:Int))::(.int .i64 (k:Int))::vw62 U 7 []))∧h++[⟨true,q2,.cells (tbL b ps ns ks pw nw cw pb nb cb).toArray 25 (0,0)⟩]=h') _ ⟨0,rfl,by omega,fun j hj=>absurd hj zO,exU rfl,rfl⟩ ?_;rintro nn l h' ⟨k,rfl,hk,hfk,⟨U,rfl⟩,rfl⟩ hnext2;refine D2 ?_;refine rs8 ?_;refine Z3 ?_;refine D29 ?_;refine Zs ?_;refine D34 ?_
       rw [←hx];refine Zs ?_
       refine jan rfl zq (fun hc=>?_) (fun hc=>?_)
       ·refine D190 ?_
        have rdf:=rdf0 zO
        obtain ⟨fb,fo,hfp⟩:=rdf.ptr zO
        have rdg:=rdf
        rw [hfp] at rdg
        have hsk:(x.ln.figs.getD k []).length≤100000:=hfs _ (jak (l:=x.ln.figs) zO)
        refine rr10 ?_;refine Z2 ?_;refine D29 ?_;refine Zs ?_;refine D34 ?_;rw [←hx];refine Zs ?_;refine D66 ?_;refine D126 ?_;refine jaj (Post:=fun v=>IsB _ v) rfl zq zK (fun H' hH=>f173_c m H' _ hsk) ?_
        rintro v (⟨hc,rfl⟩|⟨hc,rfl⟩)
        ·refine D189 ?_;refine D149 ?_;refine D12 ?_
         skip
         refine D164 ?_
         exact m.weak jaa (hnext2 _ _ _ zO ⟨k+1,rfl,by omega,fun j hj=>by
          by_cases e:j<k
          ·exact hfk j e
          ·obtain rfl:j=k:=by omega
           assumption,exU rfl,rfl⟩)
        ·refine D192 ?_;refine D166 ?_;refine D84 ?_;refine D5 ?_
         refine ⟨rfl,congrArg (Value.int .i64) ?_⟩
         first
          |(rw [jat,if_pos zI];done)
          |(rw [jat,if_neg zI,hlm];first
            |(rw [List.drop_eq_nil_of_le zI];rfl)
            |(rw [hdr];first
              |exact (jbF zO).symm
              |exact E15
              |exact E16
              |exact E33))
       ·refine D172 ?_;refine D12 ?_
        have hall: ∀f∈x.ln.figs,ja7 f=true:=fun f hf=>by
         obtain ⟨j,hj,e⟩:=List.mem_iff_getElem.1 hf
         have:=hfk j zO
         rw [List.getD_eq_getElem?_getD,List.getElem?_eq_getElem hj] at this
         exact e▸this
        refine D164 ?_
        exact E18
    ·refine Z13 ?_;refine D10 ?_;refine D165 ?_;refine D2 ?_
     have hnu: ¬jgp (jk0 (lps.map (·.ln)) i) x.ln.lat:=by
      rintro ⟨y,e1,e2⟩;first
       |(have hi0:i=0:=by omega
         subst hi0
         cases e1)
       |(rw [jaG zO,jaR _ _ zO] at e1;have e3:=Option.some.inj e1;omega)
     refine D86 ?_;refine Z2 ?_;refine D29 ?_;refine Z2 ?_;refine D34 ?_
     rw [←hx];refine Z3 ?_
     refine ja4 rfl zq (fun hc=>?_) (fun hc=>?_)
     ·refine D166 ?_;refine D84 ?_;refine D5 ?_
      refine ⟨rfl,congrArg (Value.int .i64) ?_⟩
      first
       |(rw [jat,if_pos zI];done)
       |(rw [jat,if_neg zI,hlm];first
         |(rw [List.drop_eq_nil_of_le zI];rfl)
         |(rw [hdr];first
           |exact (jbF zO).symm
           |exact E15
           |exact E16
           |exact E33))
     ·refine D149 ?_;refine D180 ?_
      refine jai (fun nn l h'=> ∃(k:Nat),nn=x.ln.figs.length-k∧(k≤x.ln.figs.length)∧(∀j,j<k→ja7 (x.ln.figs.getD j [])=true)∧(∃U:Nat→Value,l=((tbV b ps ns ks pw nw cw pb nb cb)::(.slice (some ⟨rl_b,rl_o,none⟩) nl cl)::(.pointer (some ⟨q2,0,none⟩))::(U 3)::(U 4)::(.int .i64 (i:Int))::(.int .i64 (k:Int))::vw62 U 7 []))∧h++[⟨true,q2,.cells (tbL b ps ns ks pw nw cw pb nb cb).toArray 25 (0,0)⟩]=h') _ ⟨0,rfl,by omega,fun j hj=>absurd hj zO,exU rfl,rfl⟩ ?_;rintro nn l h' ⟨k,rfl,hk,hfk,⟨U,rfl⟩,rfl⟩ hnext2;refine D2 ?_;refine rs8 ?_;refine Z3 ?_;refine D29 ?_;refine Zs ?_;refine D34 ?_
      rw [←hx];refine Zs ?_
      refine jan rfl zq (fun hc=>?_) (fun hc=>?_)
      ·refine D190 ?_
       have rdf:=rdf0 zO
       obtain ⟨fb,fo,hfp⟩:=rdf.ptr zO
       have rdg:=rdf
       rw [hfp] at rdg
       have hsk:(x.ln.figs.getD k []).length≤100000:=hfs _ (jak (l:=x.ln.figs) zO)
       refine rr10 ?_;refine Z2 ?_;refine D29 ?_;refine Zs ?_;refine D34 ?_;rw [←hx];refine Zs ?_;refine D66 ?_;refine D126 ?_;refine jaj (Post:=fun v=>IsB _ v) rfl zq zK (fun H' hH=>f173_c m H' _ hsk) ?_
       rintro v (⟨hc,rfl⟩|⟨hc,rfl⟩)
       ·refine D189 ?_;refine D149 ?_;refine D12 ?_
        skip
        refine D164 ?_
        exact m.weak jaa (hnext2 _ _ _ zO ⟨k+1,rfl,by omega,fun j hj=>by
         by_cases e:j<k
         ·exact hfk j e
         ·obtain rfl:j=k:=by omega
          assumption,exU rfl,rfl⟩)
       ·refine D192 ?_;refine D166 ?_;refine D84 ?_;refine D5 ?_
        refine ⟨rfl,congrArg (Value.int .i64) ?_⟩
        first
         |(rw [jat,if_pos zI];done)
         |(rw [jat,if_neg zI,hlm];first
           |(rw [List.drop_eq_nil_of_le zI];rfl)
           |(rw [hdr];first
             |exact (jbF zO).symm
             |exact E15
             |exact E16
             |exact E33))
      ·refine D172 ?_;refine D12 ?_
       have hall: ∀f∈x.ln.figs,ja7 f=true:=fun f hf=>by
        obtain ⟨j,hj,e⟩:=List.mem_iff_getElem.1 hf
        have:=hfk j zO
        rw [List.getD_eq_getElem?_getD,List.getElem?_eq_getElem hj] at this
        exact e▸this
       refine D164 ?_
       exact E18
   ·refine D192 ?_;refine D166 ?_;refine D84 ?_;refine D5 ?_
    refine ⟨rfl,congrArg (Value.int .i64) ?_⟩
    first
     |(rw [jat,if_pos zI];done)
     |(rw [jat,if_neg zI,hlm];first
       |(rw [List.drop_eq_nil_of_le zI];rfl)
       |(rw [hdr];first
         |exact (jbF zO).symm
         |exact E15
         |exact E16
         |exact E33))
  ·refine D172 ?_;refine D153 ?_;refine D84 ?_;refine D5 ?_
   refine ⟨rfl,congrArg (Value.int .i64) ?_⟩
   first
    |(rw [jat,if_pos zI];done)
    |(rw [jat,if_neg zI,hlm];first
      |(rw [List.drop_eq_nil_of_le zI];rfl)
      |(rw [hdr];first
        |exact (jbF zO).symm
        |exact E15
        |exact E16
        |exact E33))
end Go.Proofs
namespace Go.Proofs
open Go.Lo
theorem jgU (x:UInt8) (r:Str):smuC (x::r)=smuC r+if x.toNat=63 then 1 else 0:=by
 rw [smuC,List.countP_cons];simp [smuC]
theorem jjC: ∀s:Str,smuC s=((spl 45 s).map smuC).sum
 |[]=>rfl
 |x::r=>by
  have ih:=jjC r
  by_cases hx:x=45
  ·subst hx
   rw [spl,if_pos rfl,jgU,ih];simp [smuC]
  ·obtain ⟨p,q,hpq⟩: ∃p q,spl 45 r=p::q:=by
    cases e:spl 45 r with
    |nil=>exact absurd e (jjB 45 r)
    |cons p q=>exact ⟨p,q,rfl⟩
   rw [spl,if_neg hx,hpq,jgU,ih,hpq];simp only [List.map_cons,List.sum_cons,jgU]
   omega
theorem jgv: ∀(s:Str),∀p∈spl 45 s,∀c∈p,c≠45
 |[],p,h,c,hc=>by
  simp [spl] at h
  subst h
  simp at hc
 |x::r,p,h,c,hc=>by
  by_cases hx:x=45
  ·rw [spl,if_pos hx] at h
   rcases List.mem_cons.1 h with rfl|h
   ·simp at hc
   ·exact jgv r p h c hc
  ·obtain ⟨p',q,hpq⟩: ∃p q,spl 45 r=p::q:=by
    cases e:spl 45 r with
    |nil=>exact absurd e (jjB 45 r)
    |cons p q=>exact ⟨p,q,rfl⟩
   rw [spl,if_neg hx,hpq] at h
   simp only at h
   rcases List.mem_cons.1 h with rfl|h
   ·rcases List.mem_cons.1 hc with rfl|hc
    ·exact hx
    ·exact jgv r p' (by rw [hpq];simp) c hc
   ·exact jgv r p (by rw [hpq];simp [h]) c hc
theorem part_smu {p:Str} {k:Nat} (h:jex p k) (hd: ∀c∈p,c≠45):smuC p=if jbW p= -1 then 1 else 0:=by
 by_cases hq:p=[63]
 ·subst hq
  rw [jbW,if_pos rfl];rfl
 ·rcases h with e|⟨e1,e2,e3⟩
  ·exact absurd e hq
  ·rw [jbW,if_neg hq,if_neg zO,smuC,List.countP_eq_zero];intro c hc e
   have h1:=((jk4 hd).1 e1).2.2 c hc
   have h2:=of_decide_eq_true e
   unfold digP at h1
   omega
theorem jjG: ∀(l:List Str),(∀p∈l,(∃k,jex p k)∧ ∀c∈p,c≠45)→(l.map jbW).countP (fun x=>decide (x= -1))=(l.map smuC).sum
 |[],_=>rfl
 |p::l,h=>by
  have ih:=jjG l fun q hq=>h q (by simp [hq])
  obtain ⟨⟨k,hp⟩,hd⟩:=h p zS
  rw [List.map_cons,List.countP_cons,ih,List.map_cons,List.sum_cons,part_smu hp hd,Nat.add_comm];simp
theorem jnN {s:Str} (h:ja7 s=true):smuC s=smuF s:=by
 rw [ja7,Bool.or_eq_true] at h
 rcases h with h|h
 ·have hok:=(jhe s).2 h
  have hv:jar s=(spl 45 s).map jbW:=by
   have:=jl1 s
   rw [jh1,if_pos hok,if_pos h,valR,List.take_of_length_le (by have:=hok.1;omega),jkC] at this
   exact this.symm
  have hok2:=hok
  rw [okR,jkC] at hok2
  rw [smuF,hv,jjG,jjC];intro p hp
  refine ⟨?_,jgv s p hp⟩
  obtain ⟨j,hj,e⟩:=List.mem_iff_getElem.1 hp
  have:=hok2.2 j zO
  rw [List.getD_eq_getElem?_getD,List.getElem?_eq_getElem hj] at this
  exact ⟨j,e▸this⟩
 ·obtain rfl:s=dash:=of_decide_eq_true h
  decide
theorem jj9 {n:Nat}: ∀(ls:List Ln) (p:Option Int),jbB n p ls=0→ ∀l∈ls,l.figs.length=n∧ ∀f∈l.figs,ja7 f=true
 |[],_,_,l,hl=>by simp at hl
 |x::r,p,h,l,hl=>by
  unfold jbB at h
  split at h
  ·omega
  ·split at h
   ·omega
   ·split at h
    ·omega
    ·split at h
     ·omega
     ·rename_i h3 h4
      rcases List.mem_cons.1 hl with rfl|hl
      ·exact ⟨Decidable.not_not.1 h3,Decidable.not_not.1 h4⟩
      ·exact jj9 r _ h l hl
theorem jfe {n:Nat} {ls:List Ln} (h:jat n ls=0):ls.length≤2∧ ∀l∈ls,l.figs.length=n∧ ∀f∈l.figs,ja7 f=true:=by
 unfold jat at h
 split at h
 ·omega
 ·exact ⟨by omega,jj9 ls _ h⟩
def jiR (l:Ln):Nat:=(l.figs.map smuC).sum
theorem jiQ {l:Ln} (h: ∀f∈l.figs,ja7 f=true):jiR l=smuN l:=by
 rw [jiR,smuN,List.map_congr_left fun f hf=>jnN (h f hf)]
theorem jlz {n:Nat} {ls:List Ln} (h:jat n ls=0):(ls.map jiR).sum=smuL ls:=by
 rw [smuL,List.map_congr_left fun l hl=>jiQ ((jfe h).2 l hl).2]
end Go.Proofs
namespace Go.Proofs
open Go.Lo
open Go.Conc (G)
set_option maxRecDepth 100000
set_option synthInstance.maxSize 100000
set_option synthInstance.maxHeartbeats 1000000
set_option maxHeartbeats 4000000
variable {B:Array Obj}
variable [LaidO B]
theorem jaH {b:Tb} {v:Int} (h:jdJ b=v) (h0:v≠0):tbS b=v:=by rw [tbS,h,if_pos h0]
theorem jeK {b:Tb} (h:jdJ b=0) (h0:jat b.sts.length b.waters≠0):tbS b=jat b.sts.length b.waters:=by rw [tbS,if_neg (fun e=>e h),jhJ,if_pos h0]
theorem jeL {b:Tb} (h:jdJ b=0) (h0:jat b.sts.length b.waters=0) (h1:jat b.sts.length b.butts≠0):tbS b=jat b.sts.length b.butts:=by rw [tbS,if_neg (fun e=>e h),jhJ,if_neg (fun e=>e h0),if_pos h1]
theorem jbn {b:Tb} (h:jdJ b=0) (h0:jat b.sts.length b.waters=0) (h1:jat b.sts.length b.butts=0):tbS b=if smuL b.waters+smuL b.butts>2 then 2 else 0:=by rw [tbS,if_neg (fun e=>e h),jhJ,if_neg (fun e=>e h0),if_neg (fun e=>e h1)]
def cntA (L:List Ln) (k:Nat):Nat:=((L.take k).map jiR).sum
theorem jpr {L:List Ln} {k:Nat} (h:k<L.length):cntA L (k+1)=cntA L k+jiR (L.getD k default):=je2 jiR L k h
theorem jbo {b:Tb} {n:Nat} (h0:jat n b.waters=0) (h1:jat n b.butts=0) {k:Nat} (hk:b.waters.length+b.butts.length≤k):cntA (b.waters++b.butts) k=smuL b.waters+smuL b.butts:=by
 rw [cntA,List.take_of_length_le (by simpa using hk),List.map_append,List.sum_append,jlz h0,jlz h1]
theorem f66_c (m:Md Tryz.prog B) (h:Hp) {b:Tb} {ps:Option Addr} {ns ks:Nat} {pw:Option Addr} {nw cw:Nat} {pb:Option Addr} {nb cb:Nat} (rds:RdS B h 1 (.slice ps ns ks) ns (encs b.sts)) (hcs:ns≤ks) (hns:ns≤1000) (hsl: ∀s∈b.sts,s.length≤100000) (rdw:RdLn B h (.slice pw nw cw) nw b.waters) (hnw:nw≤1000) (rdb:RdLn B h (.slice pb nb cb) nb b.butts) (hnb:nb≤1000) (hsm:TbSm b):FnC m 66 #[tbV b ps ns ks pw nw cw pb nb cb] h fun v h'=>h'=h∧v= .int .i64 (tbS b):=by
 have hml:=rds.elen zA
 refine jae Tryz.func66 rfl rfl (l:=(tbV b ps ns ks pw nw cw pb nb cb)::uu93) rfl ?_
 intro cf cs K hK
 refine rs2 ?_;refine jaQ rfl zq (fun q1=>k_hp (jad ?_));refine D150 ?_;refine D212 ?_;refine D59 ?_
 rintro v (⟨hc,rfl⟩|⟨hc,rfl⟩)
 ·refine D189 ?_;refine D165 ?_;refine rs5 ?_;refine Z3 ?_;refine D59 ?_
  rintro v (⟨hc,rfl⟩|⟨hc,rfl⟩)
  ·refine D189 ?_;refine D165 ?_;refine D180 ?_
   refine jai (fun nn l h'=> ∃(i:Nat),nn=ns-i∧(i≤ns)∧(jcS [] b.sts=jcS (b.sts.take i) (b.sts.drop i))∧(∃U:Nat→Value,l=((tbV b ps ns ks pw nw cw pb nb cb)::(.pointer (some ⟨q1,0,none⟩))::(U 2)::(.int .i64 (i:Int))::vw90 U 4 []))∧h++[⟨true,q1,.cells (tbL b ps ns ks pw nw cw pb nb cb).toArray 25 (0,0)⟩]=h') _ ⟨0,rfl,by omega,by simp,exU rfl,rfl⟩ ?_;rintro nn l h' ⟨i,rfl,hi,hnm,⟨U,rfl⟩,rfl⟩ hnext1;refine D2 ?_;refine rs5 ?_;refine Z4 ?_
   refine jan rfl zq (fun hc=>?_) (fun hc=>?_)
   ·refine D190 ?_;refine D2 ?_
    have hdr:b.sts.drop i=b.sts.getD i []::b.sts.drop (i+1):=jjf zO
    have hsi:(b.sts.getD i []).length≤100000:=hsl _ (jak (l:=b.sts) zO)
    have rdt:=rds.pre (m:=i) zO
    rw [Nat.mul_one,←jiv] at rdt
    obtain ⟨s_b,s_o,hps⟩:=rds.ptr zO
    have rdsg:=rds
    rw [hps] at rdsg
    refine rr7 ?_;refine Z3 ?_;refine jdl rfl zq hps zO zO ?_;refine k_ld rfl zq (rdsg.sat i zO zO) ?_;refine jaj (Post:=fun v=>IsB _ v) rfl zq zK (fun H' hH=>f123_c m H' _ hsi) ?_;rintro v (⟨hc,rfl⟩|⟨hc,rfl⟩)
    ·refine D189 ?_;refine D165 ?_;refine jaq [(0,.pure),(2,.pure),(4,.pure),(6,.pure),(1,.read),(3,.pure),(5,.read),(7,.pure),(8,.read),(9,.keep),(10,.pure)] zK zK (List.Sublist.refl _) ?_;refine Z5 ?_;refine jl6 (b:=i) rfl zq rds.okp rfl zO ?_;refine Zs ?_;refine jdl rfl zq hps zO zO ?_;refine k_ld rfl zq (rdsg.sat i zO zO) ?_;refine jaj (Post:=fun v=> ∃x:Int,v= .int .i64 x∧In64 x∧(0≤x↔b.sts.getD i []∈b.sts.take i)) rfl zq zK (fun H' hH=>f124_c m H' (rdt.keeps (sq hH)) zO _) ?_
     rintro v ⟨fx,rfl,hx64,hxi⟩;refine D9 ?_
     refine jho rfl zq (fun hc=>?_) (fun hc=>?_)
     ·refine D166 ?_;refine D103 ?_;refine D5 ?_
      refine ⟨rfl,congrArg (Value.int .i64) ?_⟩
      first
       |exact E34
       |exact E35
       |(refine (jaH (v:=4) ?_ zA).symm;rw [ja1 zO zO,hnm,hdr];exact jcv zD)
       |(refine (jaH (v:=5) ?_ zA).symm;rw [ja1 zO zO,hnm,hdr];exact jcu zD (hxi.1 zO))
       |exact (jeK hh0 zD).symm
       |exact E36
       |(rw [jbn hh0 hw0 hb0,←jbo hw0 hb0 (k:=k) zO,if_pos zO];done)
       |(rw [jbn hh0 hw0 hb0,←jbo hw0 hb0 (k:=k) zO,if_neg zO];done)
     ·refine D231 ?_
      exact m.weak jaa (hnext1 _ _ _ zO ⟨i+1,rfl,by omega,by rw [hnm,hdr,jlX zD (fun e=>by have:=hxi.2 e;omega),←jh9 b.sts i zO],exU rfl,rfl⟩)
    ·refine D192 ?_;refine D166 ?_;refine D103 ?_;refine D5 ?_
     refine ⟨rfl,congrArg (Value.int .i64) ?_⟩
     first
      |exact E34
      |exact E35
      |(refine (jaH (v:=4) ?_ zA).symm;rw [ja1 zO zO,hnm,hdr];exact jcv zD)
      |(refine (jaH (v:=5) ?_ zA).symm;rw [ja1 zO zO,hnm,hdr];exact jcu zD (hxi.1 zO))
      |exact (jeK hh0 zD).symm
      |exact E36
      |(rw [jbn hh0 hw0 hb0,←jbo hw0 hb0 (k:=k) zO,if_pos zO];done)
      |(rw [jbn hh0 hw0 hb0,←jbo hw0 hb0 (k:=k) zO,if_neg zO];done)
   ·refine D172 ?_;refine D2 ?_;refine D2 ?_
    have hh0:jdJ b=0:=by
     rw [ja1 zO zO,hnm,List.drop_eq_nil_of_le zO];rfl
    refine rr5 ?_;refine Z3 ?_;refine jaj (Post:=fun v=>v= .int .i64 (jat b.sts.length b.waters)) rfl zq zK (fun H' hH=>f125_c m H' (rds.keeps (sq hH)) hcs hns hsl (rdw.keeps (sq hH)) hnw hsm.wat) ?_;rintro v rfl;refine D235 ?_
    refine ja4 rfl zq (fun hc=>?_) (fun hc=>?_)
    ·refine D178 ?_;refine D103 ?_;refine D5 ?_
     refine ⟨rfl,congrArg (Value.int .i64) ?_⟩
     first
      |exact E34
      |exact E35
      |(refine (jaH (v:=4) ?_ zA).symm;rw [ja1 zO zO,hnm,hdr];exact jcv zD)
      |(refine (jaH (v:=5) ?_ zA).symm;rw [ja1 zO zO,hnm,hdr];exact jcu zD (hxi.1 zO))
      |exact (jeK hh0 zD).symm
      |exact E36
      |(rw [jbn hh0 hw0 hb0,←jbo hw0 hb0 (k:=k) zO,if_pos zO];done)
      |(rw [jbn hh0 hw0 hb0,←jbo hw0 hb0 (k:=k) zO,if_neg zO];done)
    ·refine D165 ?_;refine rs5 ?_;refine Z3 ?_;refine jaj (Post:=fun v=>v= .int .i64 (jat b.sts.length b.butts)) rfl zq zK (fun H' hH=>f125_c m H' (rds.keeps (sq hH)) hcs hns hsl (rdb.keeps (sq hH)) hnb hsm.but) ?_
     rintro v rfl;refine D235 ?_
     refine ja4 rfl zq (fun hc=>?_) (fun hc=>?_)
     ·refine D178 ?_;refine D103 ?_;refine D5 ?_
      refine ⟨rfl,congrArg (Value.int .i64) ?_⟩
      first
       |exact E34
       |exact E35
       |(refine (jaH (v:=4) ?_ zA).symm;rw [ja1 zO zO,hnm,hdr];exact jcv zD)
       |(refine (jaH (v:=5) ?_ zA).symm;rw [ja1 zO zO,hnm,hdr];exact jcu zD (hxi.1 zO))
       |exact (jeK hh0 zD).symm
       |exact E36
       |(rw [jbn hh0 hw0 hb0,←jbo hw0 hb0 (k:=k) zO,if_pos zO];done)
       |(rw [jbn hh0 hw0 hb0,←jbo hw0 hb0 (k:=k) zO,if_neg zO];done)
     ·refine D149 ?_;refine D161 ?_
      have hw0:jat b.sts.length b.waters=0:=by omega
      have hb0:jat b.sts.length b.butts=0:=by omega
      obtain ⟨lw,hlw,rw_,hfw⟩:=rdw
      obtain ⟨lb,hlb,rb_,hfb⟩:=rdb
      have hlwl:=rw_.elen zA
      have hlbl:=rb_.elen zA
      have hbw:b.waters.length=nw:=by rw [←hlw,List.length_map,hlwl]
      have hbb:b.butts.length=nb:=by rw [←hlb,List.length_map,hlbl]
      refine jaq [(1,.pure),(4,.pure),(2,.read),(5,.read),(0,.keep),(3,.keep),(6,.keep),(7,.pure)] zK zK (List.Sublist.refl _) ?_;refine Z4 ?_;refine joQ kdq rfl zq (fun q58=>k_hp (jad ?_));refine jmc rfl zq (OwnS.zero (q:=q58)) rw_.up (jdO _) kdq zO zO (fun w61 n61 o61=>jad ?_);refine jmc rfl zq o61 rb_.up (jdO _) kdq zO zO (fun w64 n64 o64=>jad ?_);replace o64:OwnS 121 2 w64 (nw+nb) (encs (lw++lb)) n64:=by rw [jav];simpa using o64
      obtain ⟨p64,c64,rfl,hc64,r64⟩:=jap (B:=B) o64
      refine D150 ?_;refine D2 ?_
      have hall: ∀l∈b.waters++b.butts,jiR l≤3000:=fun l hl=>by
       rcases List.mem_append.1 hl with hl|hl
       ·rw [jiQ ((jfe hw0).2 l hl).2];exact jiP (hsm.wat l hl).1
       ·rw [jiQ ((jfe hb0).2 l hl).2];exact jiP (hsm.but l hl).1
      have hlen:(lw++lb).length=nw+nb:=by rw [List.length_append,hlwl,hlbl]
      have hln:(lw++lb).map (·.ln)=b.waters++b.butts:=by rw [List.map_append,hlw,hlb]
      refine rr1 ?_;refine D0 ?_;refine D11 ?_;refine jai (fun nn l h'=> ∃(k:Nat),nn=nw+nb-k∧(k≤nw+nb)∧(∃U:Nat→Value,l=((tbV b ps ns ks pw nw cw pb nb cb)::vw5 U 1 ((.int .i64 (cntA (b.waters++b.butts) k:Int))::(.slice p64 (nw+nb) c64)::(.int .i64 (k:Int))::vw85 U 9 [])))∧h++[⟨true,q1,.cells (tbL b ps ns ks pw nw cw pb nb cb).toArray 25 (0,0)⟩]++n64=h') _ ⟨0,rfl,by omega,exU rfl,rfl⟩ ?_;rintro nn l h' ⟨k,rfl,hk,⟨U,rfl⟩,rfl⟩ hnext2;have hck:cntA (b.waters++b.butts) k≤k*3000:=Nat.le_trans (jgP jiR 3000 _ fun l hl=>hall l (List.mem_of_mem_take hl)) (Nat.mul_le_mul_right _ zN)
      refine D2 ?_;refine D196 ?_
      refine jan rfl zq (fun hc=>?_) (fun hc=>?_)
      ·refine D190 ?_
       have hxm0:(lw++lb).getD k default∈lw++lb:=jak zO
       obtain ⟨x,hx⟩: ∃x,x=(lw++lb).getD k default:=⟨_,rfl⟩
       rw [←hx] at hxm0
       have hxl:(b.waters++b.butts).getD k default=x.ln:=by rw [←hln,jaR _ _ zO,←hx]
       have rdf0:0<x.ln.figs.length→RdS B h 1 (.slice x.p x.ln.figs.length x.c) x.ln.figs.length (encs x.ln.figs):=by
        rcases List.mem_append.1 hxm0 with e|e
        ·exact (hfw x e).2
        ·exact (hfb x e).2
       have hxb:x.ln∈b.waters++b.butts:=hxl▸jak zN
       have hxs: ∀f∈x.ln.figs,smuC f≤3∧f.length≤100000:=fun f hf=>by
        rcases List.mem_append.1 hxb with e|e
        ·exact ⟨by rw [jnN (((jfe hw0).2 _ e).2 f hf)];exact jgT f,(hsm.wat _ e).2 f hf⟩
        ·exact ⟨by rw [jnN (((jfe hb0).2 _ e).2 f hf)];exact jgT f,(hsm.but _ e).2 f hf⟩
       have hxf:x.ln.figs.length≤1000:=by
        rcases List.mem_append.1 hxb with e|e
        ·exact (hsm.wat _ e).1
        ·exact (hsm.but _ e).1
       obtain ⟨b64,o64_,rfl⟩:=r64.ptr zO
       refine rr1 ?_;refine D0 ?_;refine D11 ?_;rw [show cntA (b.waters++b.butts) k=cntA (b.waters++b.butts) k+((x.ln.figs.take 0).map smuC).sum by simp];refine jai (fun nn l h'=> ∃(j:Nat),nn=x.ln.figs.length-j∧(j≤x.ln.figs.length)∧(∃U:Nat→Value,l=((tbV b ps ns ks pw nw cw pb nb cb)::vw5 U 1 ((.int .i64 ((cntA (b.waters++b.butts) k+((x.ln.figs.take j).map smuC).sum:Nat):Int))::(.slice (some ⟨b64,o64_,none⟩) (nw+nb) c64)::(.int .i64 (k:Int))::(.int .i64 (j:Int))::vw84 U 10 [])))∧h++[⟨true,q1,.cells (tbL b ps ns ks pw nw cw pb nb cb).toArray 25 (0,0)⟩]++n64=h') _ ⟨0,rfl,by omega,exU rfl,rfl⟩ ?_;rintro nn l h' ⟨j,rfl,hj,⟨U,rfl⟩,rfl⟩ hnext3;have hcj:((x.ln.figs.take j).map smuC).sum≤j*3:=Nat.le_trans (jgP smuC 3 _ fun f hf=>(hxs f (List.mem_of_mem_take hf)).1) (Nat.mul_le_mul_right _ zN)
       refine D2 ?_;refine rs8 ?_;refine Z3 ?_;refine D29 ?_;refine Zs ?_;refine D96 ?_
       rw [←hx];refine Zs ?_
       refine jan rfl zq (fun hc=>?_) (fun hc=>?_)
       ·refine D232 ?_
        have rdf:=rdf0 zO
        obtain ⟨fb,fo,hfp⟩:=rdf.ptr zO
        have rdg:=rdf
        rw [hfp] at rdg
        have hsk2:=hxs (x.ln.figs.getD j []) (jak (l:=x.ln.figs) zO)
        have hk3:k*3000≤2000*3000:=Nat.mul_le_mul_right _ zO
        refine D81 ?_;refine Z3 ?_;refine D29 ?_;refine Zs ?_;refine D96 ?_
        rw [←hx];refine Zs ?_;refine D66 ?_;refine k_ld rfl zq (rdg.sat j zO zO) ?_;refine jaj (Post:=fun v=>v=_) rfl zq zK (fun H' hH=>f126_c m H' _ hsk2.2) ?_
        rintro v rfl;refine D9 ?_;refine Zs ?_;refine D0 ?_;refine D171 ?_
        rw [show ((cntA (b.waters++b.butts) k+((x.ln.figs.take j).map smuC).sum:Nat):Int)+(smuC (x.ln.figs.getD j []):Int)=((cntA (b.waters++b.butts) k+((x.ln.figs.take (j+1)).map smuC).sum:Nat):Int) by rw [je2 smuC _ _ zO];show _+((smuC (x.ln.figs.getD j default):Nat):Int)=_;omega];exact m.weak jaa (hnext3 _ _ _ zO ⟨j+1,rfl,by omega,exU rfl,rfl⟩)
       ·refine D172 ?_;refine D171 ?_
        rw [show (cntA (b.waters++b.butts) k+((x.ln.figs.take j).map smuC).sum:Nat)=cntA (b.waters++b.butts) (k+1) by rw [jpr zN,hxl,jiR,List.take_of_length_le zO]];exact m.weak jaa (hnext2 _ _ _ zO ⟨k+1,rfl,by omega,exU rfl,rfl⟩)
      ·refine D172 ?_;refine D2 ?_;refine D152 ?_
       refine jaF rfl zq (fun hc=>?_) (fun hc=>?_);refine D148 ?_
       rotate_left
       refine D149 ?_
       all_goals
        refine D153 ?_;refine D103 ?_;refine D5 ?_
        refine ⟨rfl,congrArg (Value.int .i64) ?_⟩
        first
         |exact E34
         |exact E35
         |(refine (jaH (v:=4) ?_ zA).symm;rw [ja1 zO zO,hnm,hdr];exact jcv zD)
         |(refine (jaH (v:=5) ?_ zA).symm;rw [ja1 zO zO,hnm,hdr];exact jcu zD (hxi.1 zO))
         |exact (jeK hh0 zD).symm
         |exact E36
         |(rw [jbn hh0 hw0 hb0,←jbo hw0 hb0 (k:=k) zO,if_pos zO];done)
         |(rw [jbn hh0 hw0 hb0,←jbo hw0 hb0 (k:=k) zO,if_neg zO];done)
  ·refine D192 ?_;refine D166 ?_;refine D103 ?_;refine D5 ?_
   refine ⟨rfl,congrArg (Value.int .i64) ?_⟩
   first
    |exact E34
    |exact E35
    |(refine (jaH (v:=4) ?_ zA).symm;rw [ja1 zO zO,hnm,hdr];exact jcv zD)
    |(refine (jaH (v:=5) ?_ zA).symm;rw [ja1 zO zO,hnm,hdr];exact jcu zD (hxi.1 zO))
    |exact (jeK hh0 zD).symm
    |exact E36
    |(rw [jbn hh0 hw0 hb0,←jbo hw0 hb0 (k:=k) zO,if_pos zO];done)
    |(rw [jbn hh0 hw0 hb0,←jbo hw0 hb0 (k:=k) zO,if_neg zO];done)
 ·refine D192 ?_;refine D166 ?_;refine D103 ?_;refine D5 ?_
  refine ⟨rfl,congrArg (Value.int .i64) ?_⟩
  first
   |exact E34
   |exact E35
   |(refine (jaH (v:=4) ?_ zA).symm;rw [ja1 zO zO,hnm,hdr];exact jcv zD)
   |(refine (jaH (v:=5) ?_ zA).symm;rw [ja1 zO zO,hnm,hdr];exact jcu zD (hxi.1 zO))
   |exact (jeK hh0 zD).symm
   |exact E36
   |(rw [jbn hh0 hw0 hb0,←jbo hw0 hb0 (k:=k) zO,if_pos zO];done)
   |(rw [jbn hh0 hw0 hb0,←jbo hw0 hb0 (k:=k) zO,if_neg zO];done)
structure RdTb (B:Array Obj) (h:Hp) (b:Tb) (ps:Option Addr) (ns ks:Nat) (pw:Option Addr) (nw cw:Nat) (pb:Option Addr) (nb cb:Nat):Prop where
 s:RdS B h 1 (.slice ps ns ks) ns (encs b.sts)
 sc:ns≤ks
 w:RdLn B h (.slice pw nw cw) nw b.waters
 u:RdLn B h (.slice pb nb cb) nb b.butts
 sm:TbSm b
 n1:1≤ns
 n3:ns≤3
 w2:nw≤2
 b2:nb≤2
 wf: ∀l∈b.waters,l.figs.length=ns∧ ∀f∈l.figs,ja7 f=true
 bf: ∀l∈b.butts,l.figs.length=ns∧ ∀f∈l.figs,ja7 f=true
section
variable {h H:Hp} {b:Tb} {ps:Option Addr} {ns ks:Nat} {pw:Option Addr} {nw cw:Nat} {pb:Option Addr} {nb cb:Nat}
theorem RdTb.keeps (r:RdTb B h b ps ns ks pw nw cw pb nb cb) (s:h.Sublist H):RdTb B H b ps ns ks pw nw cw pb nb cb:=
 ⟨r.s.keeps s,r.sc,r.w.keeps s,r.u.keeps s,r.sm,r.n1,r.n3,r.w2,r.b2,r.wf,r.bf⟩
theorem RdTb.sl (r:RdTb B h b ps ns ks pw nw cw pb nb cb):b.sts.length=ns:=r.s.elen zA
theorem RdTb.wl (r:RdTb B h b ps ns ks pw nw cw pb nb cb):b.waters.length=nw:=jbv r.w
theorem RdTb.bl (r:RdTb B h b ps ns ks pw nw cw pb nb cb):b.butts.length=nb:=jbv r.u
end
abbrev cV (bt:Bool) (li st:Int):Value:= .agg [.bool bt,.int .i64 li,.int .i64 st].toArray
theorem f94_c (m:Md Tryz.prog B) {h H:Hp} (hs:h.Sublist H) {b:Tb} {ps:Option Addr} {ns ks:Nat} {pw:Option Addr} {nw cw:Nat} {pb:Option Addr} {nb cb:Nat} (rd:RdTb B h b ps ns ks pw nw cw pb nb cb) {bt:Bool} {li st:Int} (h0:0≤li) (h1:li<(jay b bt).length):FnC m 94 #[tbV b ps ns ks pw nw cw pb nb cb,cV bt li st] H fun v h'=>h'=H∧ ∃x:Lp,v=lpV x∧x.ln=jbs b ⟨bt,li,st⟩∧x.ln.figs.length≤x.c∧(0<x.ln.figs.length→RdS B h 1 (.slice x.p x.ln.figs.length x.c) x.ln.figs.length (encs x.ln.figs)):=by
 refine jae Tryz.func94 rfl rfl (l:=(tbV b ps ns ks pw nw cw pb nb cb)::(cV bt li st)::uu17) rfl ?_
 intro cf cs K hK
 refine rs3 ?_;refine jaQ rfl zq (fun q2=>k_hp (jad ?_));refine jaQ rfl zq (fun q3=>k_hp (jad ?_));refine jau rfl zq (fun q4=>k_hp (jad ?_));refine D151 ?_;refine rs2 ?_;refine D155 ?_
 refine jde (fun hc=>?_) (fun hc=>?_);first|replace hc:=of_decide_eq_true hc|replace hc:=of_decide_eq_false hc|skip
 refine D2 ?_
 subst hc
 have hlt:li<b.butts.length:=h1
 obtain ⟨lps,hle,rl,hfig⟩:=rd.u
 have hll:=rl.elen zA
 have hln:b.butts.length=lps.length:=by rw [←hle,List.length_map]
 rotate_left
 first|replace hc:=of_decide_eq_true hc|replace hc:=of_decide_eq_false hc|skip
 refine D7 ?_;refine D2 ?_
 subst hc
 have hlt:li<b.waters.length:=h1
 obtain ⟨lps,hle,rl,hfig⟩:=rd.w
 have hll:=rl.elen zA
 have hln:b.waters.length=lps.length:=by rw [←hle,List.length_map]
 all_goals
  obtain ⟨z_b,z_o,hzp⟩:=rl.ptr zO
  have rlg:=rl.keeps hs
  rw [hzp] at rlg
  refine rr7 ?_
 ·refine Z4 ?_;refine D89 ?_;refine D70 ?_;refine D194 ?_;refine D4 ?_;refine D144 ?_;refine D5 ?_
  refine ⟨rfl,lps.getD li.toNat default,rfl,?_,hfig _ (jak zO)⟩
  rw [jbs,jay];show _=List.getD b.waters li.toNat default
  rw [←hle,jaR _ _ zO]
 ·refine Z4 ?_;refine D89 ?_;refine D70 ?_;refine D194 ?_;refine D4 ?_;refine D144 ?_;refine D5 ?_
  refine ⟨rfl,lps.getD li.toNat default,rfl,?_,hfig _ (jak zO)⟩
  rw [jbs,jay];show _=List.getD b.butts li.toNat default
  rw [←hle,jaR _ _ zO]
theorem jc2 {b:Tb} {bt:Bool} {li st:Int}:hasT b ⟨bt,li,st⟩=true↔(0≤li∧li≤(jay b bt).length-1)∧(0≤st∧st≤(b.sts.length:Int)-1):=by
 unfold hasT
 simp only [Bool.and_eq_true,decide_eq_true_iff]
 omega
theorem jmk {h:Hp} {b:Tb} {ps:Option Addr} {ns ks:Nat} {pw:Option Addr} {nw cw:Nat} {pb:Option Addr} {nb cb:Nat} (rd:RdTb B h b ps ns ks pw nw cw pb nb cb) {c:Ce} (h0:hasT b c=true):jbs b c∈jay b c.butt∧(jbs b c).figs.length=ns:=by
 have hm:jbs b c∈jay b c.butt:=by
  unfold hasT at h0
  simp only [Bool.and_eq_true,decide_eq_true_iff] at h0
  exact jak (l:=jay b c.butt) zO
 refine ⟨hm,?_⟩
 unfold jay at hm
 split at hm
 ·exact (rd.bf _ hm).1
 ·exact (rd.wf _ hm).1
theorem f27_c (m:Md Tryz.prog B) (h:Hp) {b:Tb} {ps:Option Addr} {ns ks:Nat} {pw:Option Addr} {nw cw:Nat} {pb:Option Addr} {nb cb:Nat} (rd:RdTb B h b ps ns ks pw nw cw pb nb cb) {bt:Bool} {li st:Int}:FnC m 27 #[tbV b ps ns ks pw nw cw pb nb cb,cV bt li st] h fun v h'=>h'=h∧v= .tuple [str (if hasT b ⟨bt,li,st⟩ then figT b ⟨bt,li,st⟩ else []),.bool (hasT b ⟨bt,li,st⟩)].toArray:=by
 have hsl:=rd.sl
 have hwl:=rd.wl
 have hbl:=rd.bl
 have rds:=rd.s
 have hn1:=rd.n1
 have hn3:=rd.n3
 have hw2:=rd.w2
 have hb2:=rd.b2
 refine jae Tryz.func27 rfl rfl (l:=(tbV b ps ns ks pw nw cw pb nb cb)::(cV bt li st)::uu37) rfl ?_
 intro cf cs K hK
 refine rs4 ?_;refine jaQ rfl zq (fun q2=>k_hp (jad ?_));refine jaQ rfl zq (fun q3=>k_hp (jad ?_));refine Zs ?_;refine D0 ?_;refine D196 ?_;refine D150 ?_;refine rs2 ?_;refine D155 ?_
 refine jde (fun hc=>?_) (fun hc=>?_)
 ·first|replace hc:=of_decide_eq_true hc|replace hc:=of_decide_eq_false hc|skip
  refine rr4 ?_;refine Z3 ?_;refine D150 ?_;refine D2 ?_;have hbt:=hc
  first
   |(have hnl:(jay b bt).length=nb:=by rw [hbt];exact hbl)
   |(have hnl:(jay b bt).length=nw:=by rw [hbt];exact hwl)
  refine rr16 ?_;refine Z4 ?_;refine D59 ?_;rintro v (⟨hc,rfl⟩|⟨hc,rfl⟩)
  ·refine D189 ?_;refine Z7 ?_;refine D118 ?_
   rintro v (⟨hc,rfl⟩|⟨hc,rfl⟩)
   ·refine D229 ?_;refine D10 ?_;refine D165 ?_
    have hyes:hasT b ⟨bt,li,st⟩=true:=jc2.2 ⟨by omega,by omega⟩
    refine D87 ?_;refine Z4 ?_;refine D54 ?_
    rintro v ⟨x,rfl,hxl,hxc,rdf0⟩;refine D9 ?_
    have hfl:x.ln.figs.length=ns:=by rw [hxl];exact (jmk rd hyes).2
    have rdf:=rdf0 (by have:=rd.n1;omega)
    obtain ⟨f_b,f_o,hfp⟩:=rdf.ptr zO
    have rdg:=rdf
    rw [hfp] at rdg
    refine Zs ?_;refine D66 ?_;refine k_ld (v:=str (x.ln.figs.getD st.toNat [])) rfl zq (rdg.sat st.toNat zO zO) ?_;refine D195 ?_;refine D121 ?_;refine D5 ?_
    first
     |(have hno:hasT b ⟨bt,li,st⟩=false:=Bool.eq_false_iff.2 fun e=>by
        have:=jc2.1 e
        omega
       rw [hno];exact ⟨rfl,rfl⟩)
     |(rw [hyes];exact E37)
   ·refine D9 ?_;refine jea rfl rfl ?_;refine D10 ?_;refine D178 ?_;refine D121 ?_;refine D5 ?_
    first
     |(have hno:hasT b ⟨bt,li,st⟩=false:=Bool.eq_false_iff.2 fun e=>by
        have:=jc2.1 e
        omega
       rw [hno];exact ⟨rfl,rfl⟩)
     |(rw [hyes];exact E37)
  ·refine D192 ?_;refine Z9 ?_;refine D13 ?_;refine D178 ?_;refine D121 ?_;refine D5 ?_
   first
    |(have hno:hasT b ⟨bt,li,st⟩=false:=Bool.eq_false_iff.2 fun e=>by
       have:=jc2.1 e
       omega
      rw [hno];exact ⟨rfl,rfl⟩)
    |(rw [hyes];exact E37)
 ·first|replace hc:=of_decide_eq_true hc|replace hc:=of_decide_eq_false hc|skip
  refine D7 ?_;refine D2 ?_;refine D2 ?_
  have hbt:=hc
  first
   |(have hnl:(jay b bt).length=nb:=by rw [hbt];exact hbl)
   |(have hnl:(jay b bt).length=nw:=by rw [hbt];exact hwl)
  refine rr16 ?_;refine Z4 ?_;refine D59 ?_;rintro v (⟨hc,rfl⟩|⟨hc,rfl⟩)
  ·refine D189 ?_;refine Z7 ?_;refine D118 ?_
   rintro v (⟨hc,rfl⟩|⟨hc,rfl⟩)
   ·refine D229 ?_;refine D10 ?_;refine D165 ?_
    have hyes:hasT b ⟨bt,li,st⟩=true:=jc2.2 ⟨by omega,by omega⟩
    refine D87 ?_;refine Z4 ?_;refine D54 ?_
    rintro v ⟨x,rfl,hxl,hxc,rdf0⟩;refine D9 ?_
    have hfl:x.ln.figs.length=ns:=by rw [hxl];exact (jmk rd hyes).2
    have rdf:=rdf0 (by have:=rd.n1;omega)
    obtain ⟨f_b,f_o,hfp⟩:=rdf.ptr zO
    have rdg:=rdf
    rw [hfp] at rdg
    refine Zs ?_;refine D66 ?_;refine k_ld (v:=str (x.ln.figs.getD st.toNat [])) rfl zq (rdg.sat st.toNat zO zO) ?_;refine D195 ?_;refine D121 ?_;refine D5 ?_
    first
     |(have hno:hasT b ⟨bt,li,st⟩=false:=Bool.eq_false_iff.2 fun e=>by
        have:=jc2.1 e
        omega
       rw [hno];exact ⟨rfl,rfl⟩)
     |(rw [hyes];exact E37)
   ·refine D9 ?_;refine jea rfl rfl ?_;refine D10 ?_;refine D178 ?_;refine D121 ?_;refine D5 ?_
    first
     |(have hno:hasT b ⟨bt,li,st⟩=false:=Bool.eq_false_iff.2 fun e=>by
        have:=jc2.1 e
        omega
       rw [hno];exact ⟨rfl,rfl⟩)
     |(rw [hyes];exact E37)
  ·refine D192 ?_;refine Z9 ?_;refine D13 ?_;refine D178 ?_;refine D121 ?_;refine D5 ?_
   first
    |(have hno:hasT b ⟨bt,li,st⟩=false:=Bool.eq_false_iff.2 fun e=>by
       have:=jc2.1 e
       omega
      rw [hno];exact ⟨rfl,rfl⟩)
    |(rw [hyes];exact E37)
def jd8 (b:Tb) (c:Ce):Bool:=hasT b c&&decide (figT b c≠dash)
def rowK (b:Tb) (bt:Bool) (j k:Nat):List Ce:=((List.range k).map fun (s:Nat)=>(⟨bt,(j:Int),(s:Int)⟩:Ce)).filter (jd8 b)
def accJ (b:Tb) (bt:Bool) (j:Nat):List Ce:=(List.range j).flatMap fun j'=>rowK b bt j' b.sts.length
def accI (b:Tb) (i:Nat):List Ce:=(List.range i).flatMap fun i'=>accJ b (decide (i'=1)) 2
def accC (b:Tb) (i j k:Nat):List Ce:=accI b i++accJ b (decide (i=1)) j++rowK b (decide (i=1)) j k
theorem rowK_yes {b:Tb} {bt:Bool} {j k:Nat} (h:jd8 b ⟨bt,(j:Int),(k:Int)⟩=true):rowK b bt j (k+1)=rowK b bt j k++[⟨bt,(j:Int),(k:Int)⟩]:=by
 rw [rowK,List.range_succ,List.map_append,List.filter_append];simp [h,rowK]
theorem rowK_no {b:Tb} {bt:Bool} {j k:Nat} (h:jd8 b ⟨bt,(j:Int),(k:Int)⟩=false):rowK b bt j (k+1)=rowK b bt j k:=by
 rw [rowK,List.range_succ,List.map_append,List.filter_append];simp [h,rowK]
theorem jb6 {b:Tb} {i j k:Nat} (h:jd8 b ⟨decide (i=1),(j:Int),(k:Int)⟩=true):accC b i j (k+1)=accC b i j k++[⟨decide (i=1),(j:Int),(k:Int)⟩]:=by
 rw [accC,rowK_yes h,accC];simp only [List.append_assoc]
theorem jln {b:Tb} {i j k:Nat} (h:jd8 b ⟨decide (i=1),(j:Int),(k:Int)⟩=false):accC b i j (k+1)=accC b i j k:=by
 rw [accC,rowK_no h,accC]
theorem jfx (b:Tb) (i j:Nat):accC b i j b.sts.length=accC b i (j+1) 0:=by
 rw [accC,accC,accJ,accJ,List.range_succ,List.flatMap_append];simp [rowK]
theorem jhR (b:Tb) (i:Nat):accC b i 2 0=accC b (i+1) 0 0:=by
 rw [accC,accC,accI,accI,List.range_succ,List.flatMap_append];simp [rowK,accJ]
theorem jjm (b:Tb):accC b 2 0 0=jab b:=by
 have e (bt:Bool) (j:Nat):rowT b bt j=rowK b bt j b.sts.length:=rfl
 have z (bt:Bool) (j:Nat):rowK b bt j 0=[]:=rfl
 rw [jab,e,e,e,e];simp [accC,accI,accJ,z,List.range_succ]
theorem jg2 (b:Tb) (bt:Bool) (j k:Nat):(rowK b bt j k).length≤k:=by
 have:=List.length_filter_le (jd8 b) ((List.range k).map fun (s:Nat)=>(⟨bt,(j:Int),(s:Int)⟩:Ce))
 simpa [rowK] using this
theorem jf1 (b:Tb) (bt:Bool) {j:Nat} (hj:j≤2):(accJ b bt j).length≤j*b.sts.length:=by
 rcases (by omega:j=0∨j=1∨j=2) with rfl|rfl|rfl
 ·simp [accJ]
 ·have:=jg2 b bt 0 b.sts.length
  simp [accJ,List.range_succ]
  omega
 ·have:=jg2 b bt 0 b.sts.length
  have:=jg2 b bt 1 b.sts.length
  simp [accJ,List.range_succ]
  omega
theorem accC_le (b:Tb) {i j k:Nat} (hi:i≤2) (hj:j≤2) (h3:b.sts.length≤3) (hk:k≤3):(accC b i j k).length≤21:=by
 have h1:=jf1 b (decide (i=1)) hj
 have h2:=jg2 b (decide (i=1)) j k
 have h4:(accI b i).length≤12:=by
  have a0:=jf1 b (decide (0=1)) (Nat.le_refl 2)
  have a1:=jf1 b (decide (1=1)) (Nat.le_refl 2)
  rcases (by omega:i=0∨i=1∨i=2) with rfl|rfl|rfl<;>simp [accI,List.range_succ] at* <;>omega
 have h5:j*b.sts.length≤2*3:=Nat.mul_le_mul hj h3
 rw [accC,List.length_append,List.length_append];omega
theorem f26_c (m:Md Tryz.prog B) (h:Hp) {b:Tb} {ps:Option Addr} {ns ks:Nat} {pw:Option Addr} {nw cw:Nat} {pb:Option Addr} {nb cb:Nat} (rd:RdTb B h b ps ns ks pw nw cw pb nb cb):FnC m 26 #[tbV b ps ns ks pw nw cw pb nb cb] h fun v h'=> ∃new,h'=h++new∧OwnS 37 3 v (jab b).length (encs (jab b)) new:=by
 have hsl:=rd.sl
 have rds:=rd.s
 have hn1:=rd.n1
 have hn3:=rd.n3
 refine jae Tryz.func26 rfl rfl (l:=(tbV b ps ns ks pw nw cw pb nb cb)::uu45) rfl ?_
 intro cf cs K hK
 refine rs2 ?_;refine jaQ rfl zq (fun q1=>k_hp (jad ?_));refine D0 ?_;refine D217 ?_
 refine jai (fun nn l h'=> ∃(i:Nat) (wpi:Option Addr) (wci:Nat) (Mi:Hp),nn=2-i∧(i≤2)∧(OwnS 37 3 (.slice wpi (accC b i 0 0).length wci) (accC b i 0 0).length (encs (accC b i 0 0)) Mi)∧(∃U:Nat→Value,l=((tbV b ps ns ks pw nw cw pb nb cb)::(.pointer (some ⟨q1,0,none⟩))::(U 2)::(.slice wpi (accC b i 0 0).length wci)::(.int .i64 (i:Int))::vw41 U 5 []))∧h++[⟨true,q1,.cells (tbL b ps ns ks pw nw cw pb nb cb).toArray 25 (0,0)⟩]++Mi=h') _ ⟨0,none,0,[],rfl,by omega,OwnS.nil,exU rfl,zS⟩ ?_;rintro nn l h' ⟨i,wpi,wci,Mi,rfl,hi,howi,⟨U,rfl⟩,rfl⟩ hnext1;refine D2 ?_;refine D152 ?_
 refine jan rfl zq (fun hc=>?_) (fun hc=>?_)
 ·refine D232 ?_;refine D180 ?_
  refine jai (fun nn l h'=> ∃(j:Nat) (wpj:Option Addr) (wcj:Nat) (Mj:Hp),nn=2-j∧(j≤2)∧(OwnS 37 3 (.slice wpj (accC b i j 0).length wcj) (accC b i j 0).length (encs (accC b i j 0)) Mj)∧(∃U:Nat→Value,l=((tbV b ps ns ks pw nw cw pb nb cb)::(.pointer (some ⟨q1,0,none⟩))::(U 2)::(.slice wpj (accC b i j 0).length wcj)::(.int .i64 (i:Int))::(.int .i64 (j:Int))::vw40 U 6 []))∧h++[⟨true,q1,.cells (tbL b ps ns ks pw nw cw pb nb cb).toArray 25 (0,0)⟩]++Mj=h') _ ⟨0,wpi,wci,Mi,rfl,by omega,howi,exU rfl,rfl⟩ ?_;rintro nn l h' ⟨j,wpj,wcj,Mj,rfl,hj,howj,⟨U,rfl⟩,rfl⟩ hnext2;refine D2 ?_;refine D152 ?_
  refine jan rfl zq (fun hc=>?_) (fun hc=>?_)
  ·refine D232 ?_;refine D180 ?_
   refine jai (fun nn l h'=> ∃(k:Nat) (wpk:Option Addr) (wck:Nat) (Mk:Hp),nn=ns-k∧(k≤ns)∧(OwnS 37 3 (.slice wpk (accC b i j k).length wck) (accC b i j k).length (encs (accC b i j k)) Mk)∧(∃U:Nat→Value,l=((tbV b ps ns ks pw nw cw pb nb cb)::(.pointer (some ⟨q1,0,none⟩))::(U 2)::(.slice wpk (accC b i j k).length wck)::(.int .i64 (i:Int))::(.int .i64 (j:Int))::(.int .i64 (k:Int))::vw39 U 7 []))∧h++[⟨true,q1,.cells (tbL b ps ns ks pw nw cw pb nb cb).toArray 25 (0,0)⟩]++Mk=h') _ ⟨0,wpj,wcj,Mj,rfl,by omega,howj,exU rfl,rfl⟩ ?_;rintro nn l h' ⟨k,wpk,wck,Mk,rfl,hk,howk,⟨U,rfl⟩,rfl⟩ hnext3;have hal:=accC_le b (i:=i) (j:=j) (k:=k) zO zO zO zO
   refine D2 ?_;refine rs5 ?_;refine Z4 ?_
   refine jan rfl zq (fun hc=>?_) (fun hc=>?_)
   ·refine D232 ?_;refine D197 ?_;refine k_eqlV (decide (i=1)) rfl zq (decide_eq_decide.2 zO) ?_;refine Z2 ?_;refine D58 ?_
    refine jau rfl zq (fun q7=>k_hp (jad ?_));refine D194 ?_;refine rs8 ?_;refine Z2 ?_;refine jaj (Post:=fun v=>v= .tuple [str (if hasT b ⟨decide (i=1),(j:Int),(k:Int)⟩ then figT b ⟨decide (i=1),(j:Int),(k:Int)⟩ else []),.bool (hasT b ⟨decide (i=1),(j:Int),(k:Int)⟩)].toArray) rfl zq zK (fun H' hH=>f27_c m H' (rd.keeps (sq hH))) ?_
    rintro v rfl;refine D207 ?_;refine D150 ?_
    cases hht:hasT b ⟨decide (i=1),(j:Int),(k:Int)⟩
    have hkc:jd8 b ⟨decide (i=1),(j:Int),(k:Int)⟩=false:=by rw [jd8,hht];rfl
    rotate_left
    rw [if_pos rfl];all_goals
     refine rr5 ?_;refine Z2 ?_
    ·refine Zs ?_
     by_cases hda:figT b ⟨decide (i=1),(j:Int),(k:Int)⟩=[45]
     refine jfN rfl rfl hda ?_;have hkc:jd8 b ⟨decide (i=1),(j:Int),(k:Int)⟩=false:=by rw [jd8,hht,decide_eq_false (fun e=>e hda)];rfl
     refine D13 ?_;refine D149 ?_
     rotate_left
     refine jhl rfl rfl hda ?_;have hkc:jd8 b ⟨decide (i=1),(j:Int),(k:Int)⟩=true:=by rw [jd8,hht,decide_eq_true (show figT b ⟨decide (i=1),(j:Int),(k:Int)⟩≠dash from hda)];rfl
     refine D223 ?_;refine rr5 ?_;refine Z2 ?_
     refine k_bs kdq rfl zq zA zA rfl (fun q43=>k_hp (jad ?_));refine ja3 rfl zq rfl howk kdq zO zO (fun w9 n9 o9=>jad ?_);obtain ⟨p9,c9,rfl,hc9,r9⟩:=jap (B:=B) o9
     refine D0 ?_
     all_goals
      refine D171 ?_
     ·have hks:=jb6 hkc
      have hkl:(accC b i j (k+1)).length=(accC b i j k).length+1:=by rw [hks];simp
      rw [←hkl];exact m.weak jaa (hnext3 _ _ _ zO ⟨k+1,p9,c9,n9,rfl,by omega,by rw [hkl,hks,jav];exact o9,exU rfl,rfl⟩)
     ·have hks:=jln hkc
      rw [←hks];exact E38
    ·refine Z2 ?_;refine D187 ?_;refine D171 ?_
     have hks:=jln hkc
     rw [←hks];exact E38
   ·refine D172 ?_;refine D171 ?_
    have hk2:k=b.sts.length:=by omega
    rw [show accC b i j k=accC b i (j+1) 0 by rw [hk2];exact jfx b i j];exact m.weak jaa (hnext2 _ _ _ zO ⟨j+1,wpk,wck,Mk,rfl,by omega,by rw [←jfx,←hk2];exact howk,exU rfl,rfl⟩)
  ·refine D172 ?_;refine D171 ?_
   have hj2:j=2:=by omega
   rw [show accC b i j 0=accC b (i+1) 0 0 by rw [hj2];exact jhR b i];exact m.weak jaa (hnext1 _ _ _ zO ⟨i+1,wpj,wcj,Mj,rfl,by omega,by rw [←jhR,←hj2];exact howj,exU rfl,rfl⟩)
 ·refine D172 ?_;refine D167 ?_;refine jac (h++Mi) rfl Tryz.func26 rfl jaa ?_;refine D5 ?_
  obtain rfl:i=2:=by omega
  rw [jjm] at howi⊢
  exact ⟨Mi,rfl,howi⟩
instance:KeyCT Tryz.prog 37:=⟨by kernel_rfl⟩
end Go.Proofs
