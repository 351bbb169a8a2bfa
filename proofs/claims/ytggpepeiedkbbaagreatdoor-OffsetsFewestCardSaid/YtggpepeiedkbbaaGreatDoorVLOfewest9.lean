/- A part of the proof of a law: my own separation logic over the machine, and walks of the program. Condition of each theorem: as its statement says. -/
import Derived.Test.YtggpepeiedkbbaaGreatDoorVLOfewest8
set_option linter.all false
namespace Go.Proofs
open Go.Lo
open Go.Conc (G)
set_option maxRecDepth 100000
set_option synthInstance.maxSize 100000
set_option synthInstance.maxHeartbeats 1000000
set_option maxHeartbeats 4000000
variable {B:Array Obj}
variable [LaidO B]
section
variable {bt:Bool} {st p v lo hi:Int} {d:Cd} {o:Option Int} {s:Int×Int}
theorem jb3 (h:d.st≠st):jfv bt st p d o s=s:=by cases o with|none=>rfl|some v=>rw [jfv,if_pos h]
theorem jda:jfv bt st p d none s=s:=rfl
theorem jcX (h:d.st=st) (hb:d.butt=bt):jfv bt st p d (some v) (lo,hi)=(if d.lat≤p then max lo v else lo,if p≤d.lat then min hi v else hi):=by
 rw [jfv,if_neg (fun e=>e h),if_pos hb]
theorem jb4 (h:d.st=st) (hb:d.butt≠bt):jfv bt st p d (some v) (lo,hi)=(if v<p then max lo d.lat else lo,if p<v then min hi d.lat else hi):=by
 rw [jfv,if_neg (fun e=>e h),if_neg hb]
end
theorem jah {a c:Prop} [Decidable a] [Decidable c] {x y z w:Int}:(a→c→((if a then x else y,if c then z else w):Int×Int)=(x,z))∧(a→ ¬c→((if a then x else y,if c then z else w):Int×Int)=(x,w))∧(¬a→c→((if a then x else y,if c then z else w):Int×Int)=(y,z))∧(¬a→ ¬c→((if a then x else y,if c then z else w):Int×Int)=(y,w)):=
 ⟨fun h k=>by rw [if_pos h,if_pos k],fun h k=>by rw [if_pos h,if_neg k],fun h k=>by rw [if_neg h,if_pos k],fun h k=>by rw [if_neg h,if_neg k]⟩
theorem bdK_in {D:List Cd} {x:Bo} {bt:Bool} {st p:Int} (hd: ∀i,0≤(dA D i).lat∧(dA D i).lat≤959) (hx: ∀i v,xA x i=some v→0≤v∧v≤959): ∀k,(0≤(bdK D x bt st p k).1∧(bdK D x bt st p k).1≤959)∧(0≤(bdK D x bt st p k).2∧(bdK D x bt st p k).2≤959)
 |0=>⟨⟨Int.le_refl 0,by show (0:Int)≤959;decide⟩,⟨by show (0:Int)≤959;decide,Int.le_refl 959⟩⟩
 |k+1=>by
  have ih:=bdK_in (bt:=bt) (st:=st) (p:=p) hd hx k
  rw [jb5];generalize bdK D x bt st p k=s at ih⊢
  obtain ⟨lo,hi⟩:=s
  simp only at ih
  have h1:=hd k
  cases hv:xA x k with
  |none=>exact ih
  |some v=>
   have h2:=hx k v hv
   by_cases e:(dA D k).st=st
   ·by_cases e2:(dA D k).butt=bt
    ·rw [jcX e e2];simp only
     constructor<;>split<;>omega
    ·rw [jb4 e e2];simp only
     constructor<;>split<;>omega
   ·rw [jb3 e];exact ih
theorem meaS_in {s:Str} {z:Int} (h:z∈meaS s):0≤z∧z≤959:=by
 rw [meaS] at h
 split at h
 ·rw [meaP,List.mem_map] at h
  obtain ⟨n,hn,rfl⟩:=h
  rw [List.mem_filter,List.mem_range] at hn
  omega
 ·cases h
theorem cd_lat {b:Tb} (k:TbOk b) (i:Nat):0≤(dA (cdT b) i).lat∧(dA (cdT b) i).lat≤959:=by
 by_cases h:i<(jab b).length
 ·rw [jas b h];have hm:(jab b).getD i default∈jab b:=jak h
  exact ((k.lines _).ok _ (jeq (jdp hm).1)).lat
 ·rw [dA,List.getD_eq_getElem?_getD,List.getElem?_eq_none (by rw [jaB];omega)];decide
theorem boat_in {b:Tb} {x:Bo} (h:x∈jaf b) {i:Nat} {v:Int} (hv:xA x i=some v):0≤v∧v≤959:=by
 have h1:=(jhf.1 (jhK x h)).2.1 i v hv
 have hi:i<(jab b).length:=Classical.byContradiction fun e=>by
  rw [xA,List.getD_eq_getElem?_getD,List.getElem?_eq_none (by rw [jcd h];omega)] at hv
  cases hv
 rw [jas b hi] at h1
 exact meaS_in h1
theorem bdA_in {b:Tb} (k:TbOk b) {x:Bo} (h:x∈jaf b) (bt:Bool) (st p:Int):(0≤(bdA (cdT b) x bt st p).1∧(bdA (cdT b) x bt st p).1≤959)∧(0≤(bdA (cdT b) x bt st p).2∧(bdA (cdT b) x bt st p).2≤959):=bdK_in (cd_lat k) (fun i v hv=>boat_in h hv) _
def jnL (b:Tb) (bt:Bool) (st p:Int):Int×Int:=spB (fun x=>bdA (cdT b) x bt st p) (jaf b)
def ownP (b:Tb) (st p:Int):Int:=if¬(0≤st∧st≤(b.sts.length:Int)-1) then 6 else if¬(0≤p∧p≤959) then 1 else 0
def jeC (b:Tb) (bt:Bool) (st p:Int):Int×Int:=if jaZ b (ownP b st p)=0 then jnL b bt st p else (0,0)
theorem spBK_one {f:Bo→Int×Int} {L:List Bo} (h:0<L.length) (h1:(f (L.getD 0 [])).1≤959) (h2:0≤(f (L.getD 0 [])).2):spBK f L 1=f (L.getD 0 []):=by
 rw [jjD f L 0 h];have:spBK f L 0=(959,0):=by rw [spBK,List.take_zero];rfl
 rw [this];refine Prod.ext ?_ ?_
 ·show min 959 _=_
  omega
 ·show max 0 _=_
  omega
theorem f146_c (m:Md Tryz.prog B) (h:Hp) {b:Tb} {q:Nat} {tv:List Value} (sh:Sheet B h b q tv) {x:Bo} (hx:x.length=(jab b).length) (bt:Bool) (st p:Int):FnC m 146 #[.pointer (some ⟨q,0,none⟩),boV x,.bool bt,.int .i64 st,.int .i64 p] h fun v h'=>h'=h∧v= .tuple [.int .i64 (bdA (cdT b) x bt st p).1,.int .i64 (bdA (cdT b) x bt st p).2].toArray:=by
 have h12:=sh.twelve
 obtain ⟨pc,cc,hcv,hcc,hcr⟩:=sh.cells
 refine jae Tryz.func146 rfl rfl (l:=(.pointer (some ⟨q,0,none⟩))::(boV x)::(.bool bt)::(.int .i64 st)::(.int .i64 p)::uu81) rfl ?_
 intro cf cs K hK
 refine rs3 ?_;refine jaQ rfl zq (fun q6=>k_hp (jad ?_));refine Zs ?_;refine D0 ?_;refine D161 ?_;refine rs6 ?_;refine Zs ?_
 refine jal rfl zq ?_;refine Zs ?_;refine D91 ?_;refine D155 ?_;refine D11 ?_
 refine jai (fun nn l h'=> ∃(i:Nat) (lo hi:Int),nn=(jab b).length-i∧(i≤(jab b).length)∧(bdK (cdT b) x bt st p i=(lo,hi))∧(∃U:Nat→Value,l=((.pointer (some ⟨q,0,none⟩))::(boV x)::(.bool bt)::(.int .i64 st)::(.int .i64 p)::(U 5)::(.pointer (some ⟨q6,0,none⟩))::(U 7)::(U 8)::(U 9)::(.int .i64 lo)::(.int .i64 hi)::vw8 U 12 ((.slice pc (jab b).length cc)::(.int .i64 ((jab b).length:Int))::(.int .i64 (i:Int))::vw63 U 23 [])))∧h++[⟨true,q6,.cells (boL x).toArray 136 (0,0)⟩]=h') _ ⟨0,0,959,rfl,by omega,rfl,exU rfl,rfl⟩ ?_;rintro nn l h' ⟨i,lo,hi,rfl,hi9,hbd,⟨U,rfl⟩,rfl⟩ hnext;refine rs1 ?_;refine jan rfl zq (fun hc=>?_) (fun hc=>?_)
 ·refine D191 ?_
  obtain ⟨pcb,pco,hpc⟩:=hcr.ptr zO
  have hcr':=hcr
  rw [hpc] at hcr'
  refine rr6 ?_;refine Zs ?_;refine D122 ?_;refine jcU (vs:=[.bool (cdOf b ((jab b).getD i default)).butt,.int .i64 ((jab b).getD i default).line,.int .i64 (cdOf b ((jab b).getD i default)).st]) rfl zq rfl (hcr'.eat i zO zO) ?_;refine jau rfl zq (fun q13=>k_hp (jad ?_));refine Zs ?_;refine D22 ?_;refine D151 ?_;refine rs10 ?_;refine Z3 ?_
  refine ja4 rfl zq (fun hc=>?_) (fun hc=>?_)
  ·refine Z5 ?_;refine D223 ?_;refine D23 ?_;refine D156 ?_
   exact m.weak jaa (hnext _ _ _ zO ⟨i+1,_,_,rfl,by omega,by
    rw [jb5,hbd,jas b zO];first
     |exact jb3 zD
     |(rw [hv];first
       |exact jda
       |(rw [jcX zD hbt];exact E48)
       |(rw [jb4 zD hbt];exact E48)),exU rfl,rfl⟩)
  ·refine Z4 ?_;refine jaj (Post:=fun v=>IsB _ v) rfl rfl zK (fun H' hH=>f98_b m H' (jbA x) i (jce zO) zO) ?_
   rintro v (⟨hc,rfl⟩|⟨hc,rfl⟩)
   ·refine D9 ?_
    have hv:xA x i=none:=by
     rw [jgi zO] at hc
     exact Option.isNone_iff_eq_none.1 hc
    refine D10 ?_;refine D148 ?_;refine D23 ?_;refine D156 ?_
    exact m.weak jaa (hnext _ _ _ zO ⟨i+1,_,_,rfl,by omega,by
     rw [jb5,hbd,jas b zO];first
      |exact jb3 zD
      |(rw [hv];first
        |exact jda
        |(rw [jcX zD hbt];exact E48)
        |(rw [jb4 zD hbt];exact E48)),exU rfl,rfl⟩)
   ·refine D9 ?_
    obtain ⟨v,hv⟩: ∃v,xA x i=some v:=by
     cases e:xA x i with
     |none=>exact absurd (by rw [jgi zO,e];rfl) hc
     |some v=>exact ⟨v,rfl⟩
    refine D10 ?_;refine D165 ?_;refine jaq [(0,.pure),(1,.pure),(2,.pure),(3,.pure),(4,.pure),(6,.pure),(7,.pure),(8,.pure),(5,.read),(10,.pure),(9,.read),(11,.pure)] zK zK (List.Sublist.refl _) ?_;refine Z2 ?_
    refine jal rfl zq ?_;refine Z5 ?_;refine D102 ?_;refine Zs ?_;refine k_ld rfl zq (bo_at i zO) ?_
    rw [hv,Option.getD_some];refine D0 ?_;refine rs5 ?_;refine Z3 ?_
    refine jkf rfl zq zK (fun hbt=>?_) (fun hbt=>?_);refine D218 ?_;refine D38 ?_;refine D149 ?_
    rotate_left
    refine D218 ?_;refine D40 ?_;refine D148 ?_;refine rr4 ?_;refine Z3 ?_;refine D0 ?_
    all_goals
     refine D2 ?_;refine rs11 ?_;refine Z2 ?_
    ·refine jan rfl zq (fun hc=>?_) (fun hc=>?_)
     ·refine Z7 ?_;refine D223 ?_;refine rr4 ?_;refine Z2 ?_;refine joH rfl zq ?_;refine D0 ?_;refine rs11 ?_;refine Z2 ?_
      refine jaF rfl zq (fun hc=>?_) (fun hc=>?_)
      ·refine Z7 ?_;refine D223 ?_;refine rr4 ?_;refine Z2 ?_;refine jk7 rfl zq ?_;refine D0 ?_;refine D159 ?_
       exact m.weak jaa (hnext _ _ _ zO ⟨i+1,_,_,rfl,by omega,by
        rw [jb5,hbd,jas b zO];first
         |exact jb3 zD
         |(rw [hv];first
           |exact jda
           |(rw [jcX zD hbt];exact E48)
           |(rw [jb4 zD hbt];exact E48)),exU rfl,rfl⟩)
      ·refine Z3 ?_
       refine jaM rfl rfl (fun hc=>?_) (fun hc=>?_);refine Z2 ?_;refine D61 ?_
       rotate_left
       refine Z2 ?_;refine D45 ?_
       all_goals
        refine D187 ?_;refine D159 ?_
        exact m.weak jaa (hnext _ _ _ zO ⟨i+1,_,_,rfl,by omega,by
         rw [jb5,hbd,jas b zO];first
          |exact jb3 zD
          |(rw [hv];first
            |exact jda
            |(rw [jcX zD hbt];exact E48)
            |(rw [jb4 zD hbt];exact E48)),exU rfl,rfl⟩)
     ·refine Z3 ?_
      refine jaM rfl rfl (fun hc=>?_) (fun hc=>?_);refine Z2 ?_;refine D61 ?_
      rotate_left
      refine Z2 ?_;refine D45 ?_
      all_goals
       refine D187 ?_;refine rs11 ?_;refine Z2 ?_
       refine jaF rfl zq (fun hc=>?_) (fun hc=>?_)
       ·refine Z7 ?_;refine D223 ?_;refine rr4 ?_;refine Z2 ?_;refine jk7 rfl zq ?_;refine D0 ?_;refine D159 ?_
        exact m.weak jaa (hnext _ _ _ zO ⟨i+1,_,_,rfl,by omega,by
         rw [jb5,hbd,jas b zO];first
          |exact jb3 zD
          |(rw [hv];first
            |exact jda
            |(rw [jcX zD hbt];exact E48)
            |(rw [jb4 zD hbt];exact E48)),exU rfl,rfl⟩)
       ·refine Z3 ?_
        refine jaM rfl rfl (fun hc=>?_) (fun hc=>?_);refine Z2 ?_;refine D61 ?_
        rotate_left
        refine Z2 ?_;refine D45 ?_
        all_goals
         refine D187 ?_;refine D159 ?_
         exact m.weak jaa (hnext _ _ _ zO ⟨i+1,_,_,rfl,by omega,by
          rw [jb5,hbd,jas b zO];first
           |exact jb3 zD
           |(rw [hv];first
             |exact jda
             |(rw [jcX zD hbt];exact E48)
             |(rw [jb4 zD hbt];exact E48)),exU rfl,rfl⟩)
    ·refine jan rfl zq (fun hc=>?_) (fun hc=>?_)
     ·refine Z7 ?_;refine D223 ?_;refine rr4 ?_;refine Z2 ?_;refine joH rfl zq ?_;refine D0 ?_;refine rs11 ?_;refine Z2 ?_
      refine jaF rfl zq (fun hc=>?_) (fun hc=>?_)
      ·refine Z7 ?_;refine D223 ?_;refine rr4 ?_;refine Z2 ?_;refine jk7 rfl zq ?_;refine D0 ?_;refine D159 ?_
       exact m.weak jaa (hnext _ _ _ zO ⟨i+1,_,_,rfl,by omega,by
        rw [jb5,hbd,jas b zO];first
         |exact jb3 zD
         |(rw [hv];first
           |exact jda
           |(rw [jcX zD hbt];exact E48)
           |(rw [jb4 zD hbt];exact E48)),exU rfl,rfl⟩)
      ·refine Z3 ?_
       refine jaM rfl rfl (fun hc=>?_) (fun hc=>?_);refine Z2 ?_;refine D61 ?_;refine D10 ?_;refine D148 ?_;refine rr4 ?_;refine Z2 ?_;refine jk7 rfl zq ?_;refine D0 ?_
       rotate_left
       refine Z2 ?_;refine D45 ?_;refine D187 ?_
       all_goals
        refine D159 ?_
        exact m.weak jaa (hnext _ _ _ zO ⟨i+1,_,_,rfl,by omega,by
         rw [jb5,hbd,jas b zO];first
          |exact jb3 zD
          |(rw [hv];first
            |exact jda
            |(rw [jcX zD hbt];exact E48)
            |(rw [jb4 zD hbt];exact E48)),exU rfl,rfl⟩)
     ·refine Z3 ?_
      refine jaM rfl rfl (fun hc=>?_) (fun hc=>?_);refine Z2 ?_;refine D61 ?_;refine D10 ?_;refine D148 ?_;refine rr4 ?_;refine Z2 ?_;refine joH rfl zq ?_;refine D0 ?_
      rotate_left
      refine Z2 ?_;refine D45 ?_;refine D187 ?_
      all_goals
       refine rs11 ?_;refine Z2 ?_;refine jaF rfl zq (fun hc=>?_) (fun hc=>?_)
       ·refine Z7 ?_;refine D223 ?_;refine rr4 ?_;refine Z2 ?_;refine jk7 rfl zq ?_;refine D0 ?_;refine D159 ?_
        exact m.weak jaa (hnext _ _ _ zO ⟨i+1,_,_,rfl,by omega,by
         rw [jb5,hbd,jas b zO];first
          |exact jb3 zD
          |(rw [hv];first
            |exact jda
            |(rw [jcX zD hbt];exact E48)
            |(rw [jb4 zD hbt];exact E48)),exU rfl,rfl⟩)
       ·refine Z3 ?_
        refine jaM rfl rfl (fun hc=>?_) (fun hc=>?_);refine Z2 ?_;refine D61 ?_;refine D10 ?_;refine D148 ?_;refine rr4 ?_;refine Z2 ?_;refine jk7 rfl zq ?_;refine D0 ?_
        rotate_left
        refine Z2 ?_;refine D45 ?_;refine D187 ?_
        all_goals
         refine D159 ?_
         exact m.weak jaa (hnext _ _ _ zO ⟨i+1,_,_,rfl,by omega,by
          rw [jb5,hbd,jas b zO];first
           |exact jb3 zD
           |(rw [hv];first
             |exact jda
             |(rw [jcX zD hbt];exact E48)
             |(rw [jb4 zD hbt];exact E48)),exU rfl,rfl⟩)
 ·refine D175 ?_;refine D196 ?_;refine D146 ?_;refine jac (h) rfl Tryz.func146 rfl jaa ?_;refine D5 ?_
  obtain rfl:i=(jab b).length:=by omega
  exact ⟨rfl,by rw [bdA,jaB,hbd]⟩
theorem f91_c (m:Md Tryz.prog B) (h:Hp) {b:Tb} {q:Nat} {tv:List Value} (sh:Sheet B h b q tv) {x:Bo} (hx:x.length=(jab b).length) (st p:Int):FnC m 91 #[.pointer (some ⟨q,0,none⟩),boV x,.int .i64 st,.int .i64 p] h fun v h'=>h'=h∧v= .tuple [.int .i64 (bdA (cdT b) x false st p).1,.int .i64 (bdA (cdT b) x false st p).2].toArray:=by
 refine jae Tryz.func91 rfl rfl (l:=(.pointer (some ⟨q,0,none⟩))::(boV x)::(.int .i64 st)::(.int .i64 p)::uu13) rfl ?_
 intro cf cs K hK
 refine rs3 ?_;refine jaQ rfl zq (fun q5=>k_hp (jad ?_));refine Zs ?_;refine D0 ?_;refine rs9 ?_;refine Zs ?_;refine jcU (vs:=boL x) rfl zq (jaC x) (jj2 (Has.mem (b:=q5)) (seg_all (jaC x)).eq) ?_;refine Z2 ?_;refine jaj (Post:=fun v=>v=_) rfl zq zK (fun H' hH=>f146_c m H' (sh.keeps (sq hH)) hx false st p) ?_
 rintro v rfl;refine D9 ?_;refine Z3 ?_;refine D146 ?_;refine jac (h) rfl Tryz.func91 rfl jaa ?_;refine D5 ?_
 exact ⟨rfl,rfl⟩
theorem f93_c (m:Md Tryz.prog B) (h:Hp) {b:Tb} {q:Nat} {tv:List Value} (sh:Sheet B h b q tv) {x:Bo} (hx:x.length=(jab b).length) (st p:Int):FnC m 93 #[.pointer (some ⟨q,0,none⟩),boV x,.int .i64 st,.int .i64 p] h fun v h'=>h'=h∧v= .tuple [.int .i64 (bdA (cdT b) x true st p).1,.int .i64 (bdA (cdT b) x true st p).2].toArray:=by
 refine jae Tryz.func93 rfl rfl (l:=(.pointer (some ⟨q,0,none⟩))::(boV x)::(.int .i64 st)::(.int .i64 p)::uu13) rfl ?_
 intro cf cs K hK
 refine rs3 ?_;refine jaQ rfl zq (fun q5=>k_hp (jad ?_));refine Zs ?_;refine D0 ?_;refine rs9 ?_;refine Zs ?_;refine jcU (vs:=boL x) rfl zq (jaC x) (jj2 (Has.mem (b:=q5)) (seg_all (jaC x)).eq) ?_;refine Z2 ?_;refine jaj (Post:=fun v=>v=_) rfl zq zK (fun H' hH=>f146_c m H' (sh.keeps (sq hH)) hx true st p) ?_
 rintro v rfl;refine D9 ?_;refine Z3 ?_;refine D146 ?_;refine jac (h) rfl Tryz.func93 rfl jaa ?_;refine D5 ?_
 exact ⟨rfl,rfl⟩
theorem f90_c (m:Md Tryz.prog B) (h:Hp) {L:List Bo} {p:Option Addr} {n c:Nat} (rd:RdS B h 13 (.slice p n c) n (encs L)) (hc0:n≤c) (hn:0<n∧n≤100000) {qv:Option Addr} {fid:Nat} {gc gp:Array Value} {f:Bo→Int×Int} {st x:Int} (hcall:jbz Tryz.prog fid=true) (hf: ∀i,i<n→ ∀H':Hp,h.Sublist H'→FnC m fid (gc++[boV (L.getD i []),.int .i64 st,.int .i64 x].toArray++gp) H' fun v h'=>h'=H'∧v= .tuple [.int .i64 (f (L.getD i [])).1,.int .i64 (f (L.getD i [])).2].toArray) (h1:(f (L.getD 0 [])).1≤959) (h2:0≤(f (L.getD 0 [])).2):FnC m 90 #[.agg [.pointer qv,.slice p n c].toArray,.func (.func fid) gc gp,.int .i64 st,.int .i64 x] h fun v h'=>h'=h∧v= .agg [.int .i64 (spB f L).1,.int .i64 (spB f L).2].toArray:=by
 refine jae Tryz.func90 rfl rfl (l:=(.agg [.pointer qv,.slice p n c].toArray)::(.func (.func fid) gc gp)::(.int .i64 st)::(.int .i64 x)::uu51) rfl ?_
 intro cf cs K hK
 refine rs2 ?_;refine jaQ rfl zq (fun q4=>k_hp (jad ?_));refine jau rfl zq (fun q8=>k_hp (jad ?_));refine D151 ?_
 obtain ⟨rb,ro,hrp⟩:=rd.ptr zO
 have rd':=rd
 rw [hrp] at rd'
 have hll:=rd.elen zA
 have rdc:=rd.cut (lo:=1) zO hc0
 rw [←jhE] at rdc
 refine rr13 ?_;refine Z3 ?_;refine D90 ?_;refine jcU (vs:=boL (L.getD 0 [])) rfl zq (jaC _) (rd'.eat 0 zO zO) ?_;refine Z2 ?_;refine jfi (Post:=fun v=>v=_) rfl zq hcall (fun H' hH=>hf 0 zO H' (sq hH)) ?_;rintro v rfl;refine D207 ?_;refine D0 ?_;refine D241 ?_;refine D58 ?_
 refine jau rfl zq (fun q11=>k_hp (jad ?_));refine D22 ?_;refine D151 ?_;refine D241 ?_;refine jgD (a:=1) rfl zq rfl zO ?_;refine D155 ?_;refine D11 ?_
 refine jai (fun nn l h'=> ∃(k:Nat),nn=n-k∧(k+1≤n)∧(∃U:Nat→Value,l=((.agg [.pointer qv,.slice p n c].toArray)::(.func (.func fid) gc gp)::(.int .i64 st)::(.int .i64 x)::(.pointer (some ⟨q4,0,none⟩))::(U 5)::(U 6)::(U 7)::(.pointer (some ⟨q8,0,none⟩))::(U 9)::(U 10)::(.pointer (some ⟨q11,0,none⟩))::vw18 U 12 ((.slice (cutP 13 p c 1) (n-1) (c-1))::(.int .i64 ((n-1:Nat):Int))::(.int .i64 (k:Int))::vw22 U 33 [])))∧h++[⟨true,q4,.cells [.pointer qv,.slice p n c].toArray 112 (0,0)⟩,⟨true,q8,.cells [.int .i64 0,.int .i64 0].toArray 29 (0,0)⟩,⟨true,q11,.cells [.int .i64 (spBK f L (k+1)).1,.int .i64 (spBK f L (k+1)).2].toArray 29 (0,0)⟩]=h') _ ⟨0,rfl,by omega,exU rfl,(by rw [spBK_one zO h1 h2])⟩ ?_;rintro nn l h' ⟨k,rfl,hk,⟨U,rfl⟩,rfl⟩ hnext;refine rs1 ?_;refine jan rfl zq (fun hc=>?_) (fun hc=>?_)
 ·refine D191 ?_
  obtain ⟨cb,co,hcp⟩:=rdc.ptr zO
  have rdc':=rdc
  rw [hcp] at rdc'
  have hge:(L.drop 1).getD k default=L.getD (k+1) []:=by rw [List.getD_eq_getElem?_getD,List.getElem?_drop,Nat.add_comm 1 k,List.getD_eq_getElem?_getD];rfl
  refine rr4 ?_;refine jdl rfl zq hcp zO zO ?_;refine jcU (vs:=boL (L.getD (k+1) [])) rfl zq (jaC _) (hge▸rdc'.eat k zO zO) ?_;refine jau rfl zq (fun q13=>k_hp (jad ?_));refine jkb rfl zq (jaC _) ?_;refine D1 ?_;refine rs10 ?_;refine Zs ?_;refine jcU (vs:=boL (L.getD (k+1) [])) rfl zq (jaC _) (jj2 (Has.mem (b:=q13)) (seg_all (jaC _)).eq) ?_;refine Z2 ?_;refine jfi (Post:=fun v=>v=_) rfl zq hcall (fun H' hH=>hf (k+1) zO H' (sq hH)) ?_;rintro v rfl;refine D207 ?_;refine D0 ?_;refine rr10 ?_;refine Z3 ?_;refine jk7 rfl zq ?_;refine Z3 ?_;refine joH rfl zq ?_;refine D58 ?_;refine D194 ?_;refine D159 ?_
  exact m.weak jaa (hnext _ _ _ zO ⟨k+1,rfl,by omega,exU rfl,(by rw [jjD f L (k+1) zO])⟩)
 ·refine D175 ?_;refine D152 ?_;refine D194 ?_;refine D4 ?_;refine jac (h) rfl Tryz.func90 rfl jaa ?_;refine D5 ?_
  obtain rfl:n=k+1:=by omega
  rw [show k+1=L.length by omega,spBK_all];exact ⟨rfl,rfl⟩
theorem callB91:jbz Tryz.prog 91=true:=by kernel_rfl
theorem callB145:jbz Tryz.prog 145=true:=by kernel_rfl
theorem f21_c (m:Md Tryz.prog B) (h:Hp) {b:Tb} {ps:Option Addr} {ns ks:Nat} {pw:Option Addr} {nw cw:Nat} {pb:Option Addr} {nb cb:Nat} (ra:RawTb B h b ps ns ks pw nw cw pb nb cb) (st x:Int):FnC m 21 #[tbV b ps ns ks pw nw cw pb nb cb,.int .i64 st,.int .i64 x] h fun v h'=>h'=h∧v= .tuple [.agg [.int .i64 (jeC b false st x).1,.int .i64 (jeC b false st x).2].toArray,.int .i64 (jaZ b (ownP b st x))].toArray:=by
 have hsl:b.sts.length=ns:=ra.s.elen zA
 have hns:=ra.sn
 refine jae Tryz.func21 rfl rfl (l:=(tbV b ps ns ks pw nw cw pb nb cb)::(.int .i64 st)::(.int .i64 x)::uu26) rfl ?_
 intro cf cs K hK
 refine rs3 ?_;refine jaQ rfl zq (fun q3=>k_hp (jad ?_));refine jau rfl zq (fun q6=>k_hp (jad ?_));refine D150 ?_;refine jcj [0,1,2,3,4,5,6,7,8,9,10] zK zK (List.Sublist.refl _) ?_
 refine DrawT.split 3 8 zA (DrawT.split 4 8 zA ?_ ?_) ?_
 refine D99 ?_;refine Z3 ?_;refine D18 ?_
 rintro v nz ⟨qs,qa,rfl,rfl⟩;refine jaI (jad ?_);refine D16 ?_
 rintro v n8 ⟨qp,p8,m8,c8,rfl,hz⟩;refine jaI (jad ?_);refine Z3 ?_
 refine jau rfl zq (fun q8=>k_hp (jad ?_));rotate_left
 refine D100 ?_;refine Z3 ?_;refine D18 ?_
 rintro v nz ⟨qs,qa,rfl,rfl⟩;refine jaI (jad ?_);refine jau rfl zq (fun q8=>k_hp (jad ?_));refine D16 ?_
 rintro v n8 ⟨qp,p8,m8,c8,rfl,hz⟩;refine jaI (jad ?_);refine Z3 ?_
 rotate_left
 refine D101 ?_;refine Z3 ?_
 refine jau rfl zq (fun q8=>k_hp (jad ?_));refine D18 ?_
 rintro v nz ⟨qs,qa,rfl,rfl⟩;refine jaI (jad ?_);refine D16 ?_
 rintro v n8 ⟨qp,p8,m8,c8,rfl,hz⟩;refine jaI (jad ?_);refine Z3 ?_
 all_goals
  refine D22 ?_;refine D218 ?_
  refine ja4 rfl zq (fun hc=>?_) (fun hc=>?_)
  ·refine D148 ?_;refine rs4 ?_;refine D58 ?_;refine Zs ?_;refine D201 ?_;refine jac (h) rfl Tryz.func21 rfl jaa ?_;refine D5 ?_
   exact ⟨rfl,by rw [jeC,if_neg zD]⟩
  ·refine D165 ?_
   have hz0:jaZ b (ownP b st x)=0:=by first|assumption|omega
   obtain ⟨q9,rfl,sh,rfl,hc8,rdB⟩:=hz hz0
   obtain ⟨hzb,hzo,hzn⟩:=jdh hz0
   have hk:=ja6.1 hzb
   have hbl:=jbL hk
   have hpos:0<(jaf b).length:=List.length_pos_iff.2 hzn
   have hxm: ∀i,i<(jaf b).length→(jaf b).getD i []∈jaf b:=fun i hi=>by rw [List.getD_eq_getElem?_getD,List.getElem?_eq_getElem hi];exact List.getElem_mem _
   have hin0:=bdA_in hk (hxm 0 hpos) false st x
   refine rr9 ?_;refine Z3 ?_;refine jgq rfl zq ?_;refine Z2 ?_;refine jaj (Post:=fun v=>v= .agg [.int .i64 (jnL b false st x).1,.int .i64 (jnL b false st x).2].toArray) rfl zq zK (fun H' hH=>f90_c m H' (rdB.keeps (sq hH)) hc8 ⟨hpos,by omega⟩ (f:=fun y=>bdA (cdT b) y false st x) callB91 (fun i hi K hK=>by simpa using f91_c m K (sh.keeps (SubH.sub.trans (hH.trans hK))) (jcd (hxm i hi)) st x) hin0.1.2 hin0.2.1) ?_;rintro v rfl;refine D9 ?_;refine D201 ?_;refine jac (h) rfl Tryz.func21 rfl jaa ?_;refine D5 ?_
   exact ⟨rfl,by rw [jeC,if_pos hz0,hz0]⟩
theorem callB93:jbz Tryz.prog 93=true:=by kernel_rfl
theorem f23_c (m:Md Tryz.prog B) (h:Hp) {b:Tb} {ps:Option Addr} {ns ks:Nat} {pw:Option Addr} {nw cw:Nat} {pb:Option Addr} {nb cb:Nat} (ra:RawTb B h b ps ns ks pw nw cw pb nb cb) (st x:Int):FnC m 23 #[tbV b ps ns ks pw nw cw pb nb cb,.int .i64 st,.int .i64 x] h fun v h'=>h'=h∧v= .tuple [.agg [.int .i64 (jeC b true st x).1,.int .i64 (jeC b true st x).2].toArray,.int .i64 (jaZ b (ownP b st x))].toArray:=by
 have hsl:b.sts.length=ns:=ra.s.elen zA
 have hns:=ra.sn
 refine jae Tryz.func23 rfl rfl (l:=(tbV b ps ns ks pw nw cw pb nb cb)::(.int .i64 st)::(.int .i64 x)::uu26) rfl ?_
 intro cf cs K hK
 refine rs3 ?_;refine jaQ rfl zq (fun q3=>k_hp (jad ?_));refine jau rfl zq (fun q6=>k_hp (jad ?_));refine D150 ?_;refine jcj [0,1,2,3,4,5,6,7,8,9,10] zK zK (List.Sublist.refl _) ?_
 refine DrawT.split 3 8 zA (DrawT.split 4 8 zA ?_ ?_) ?_
 refine D99 ?_;refine Z3 ?_;refine D18 ?_
 rintro v nz ⟨qs,qa,rfl,rfl⟩;refine jaI (jad ?_);refine D16 ?_
 rintro v n8 ⟨qp,p8,m8,c8,rfl,hz⟩;refine jaI (jad ?_);refine Z3 ?_
 refine jau rfl zq (fun q8=>k_hp (jad ?_));rotate_left
 refine D100 ?_;refine Z3 ?_;refine D18 ?_
 rintro v nz ⟨qs,qa,rfl,rfl⟩;refine jaI (jad ?_);refine jau rfl zq (fun q8=>k_hp (jad ?_));refine D16 ?_
 rintro v n8 ⟨qp,p8,m8,c8,rfl,hz⟩;refine jaI (jad ?_);refine Z3 ?_
 rotate_left
 refine D101 ?_;refine Z3 ?_
 refine jau rfl zq (fun q8=>k_hp (jad ?_));refine D18 ?_
 rintro v nz ⟨qs,qa,rfl,rfl⟩;refine jaI (jad ?_);refine D16 ?_
 rintro v n8 ⟨qp,p8,m8,c8,rfl,hz⟩;refine jaI (jad ?_);refine Z3 ?_
 all_goals
  refine D22 ?_;refine D218 ?_
  refine ja4 rfl zq (fun hc=>?_) (fun hc=>?_)
  ·refine D148 ?_;refine rs4 ?_;refine D58 ?_;refine Zs ?_;refine D201 ?_;refine jac (h) rfl Tryz.func23 rfl jaa ?_;refine D5 ?_
   exact ⟨rfl,by rw [jeC,if_neg zD]⟩
  ·refine D165 ?_
   have hz0:jaZ b (ownP b st x)=0:=by first|assumption|omega
   obtain ⟨q9,rfl,sh,rfl,hc8,rdB⟩:=hz hz0
   obtain ⟨hzb,hzo,hzn⟩:=jdh hz0
   have hk:=ja6.1 hzb
   have hbl:=jbL hk
   have hpos:0<(jaf b).length:=List.length_pos_iff.2 hzn
   have hxm: ∀i,i<(jaf b).length→(jaf b).getD i []∈jaf b:=fun i hi=>by rw [List.getD_eq_getElem?_getD,List.getElem?_eq_getElem hi];exact List.getElem_mem _
   have hin0:=bdA_in hk (hxm 0 hpos) true st x
   refine rr9 ?_;refine Z3 ?_;refine jgq rfl zq ?_;refine Z2 ?_;refine jaj (Post:=fun v=>v= .agg [.int .i64 (jnL b true st x).1,.int .i64 (jnL b true st x).2].toArray) rfl zq zK (fun H' hH=>f90_c m H' (rdB.keeps (sq hH)) hc8 ⟨hpos,by omega⟩ (f:=fun y=>bdA (cdT b) y true st x) callB93 (fun i hi K hK=>by simpa using f93_c m K (sh.keeps (SubH.sub.trans (hH.trans hK))) (jcd (hxm i hi)) st x) hin0.1.2 hin0.2.1) ?_;rintro v rfl;refine D9 ?_;refine D201 ?_;refine jac (h) rfl Tryz.func23 rfl jaa ?_;refine D5 ?_
   exact ⟨rfl,by rw [jeC,if_pos hz0,hz0]⟩
theorem jfg (L:List Bo) (i:Nat): ∀(l:List Bo) (s:Nat),s≤(l.foldl (fun s x=>match xA x i with|some v=>max s (cntV L i v)|none=>s) s)∧(∀x∈l,∀v,xA x i=some v→cntV L i v≤(l.foldl (fun s x=>match xA x i with|some v=>max s (cntV L i v)|none=>s) s))∧((l.foldl (fun s x=>match xA x i with|some v=>max s (cntV L i v)|none=>s) s)=s∨ ∃x∈l,∃v,xA x i=some v∧(l.foldl (fun s x=>match xA x i with|some v=>max s (cntV L i v)|none=>s) s)=cntV L i v)
 |[],s=>⟨Nat.le_refl _,by simp,.inl rfl⟩
 |x::l,s=>by
  rw [List.foldl_cons];cases hx:xA x i with
  |none=>
   obtain ⟨h1,h2,h3⟩:=jfg L i l s
   refine ⟨h1,fun y hy v hv=>?_,h3.imp id fun ⟨y,hy,h⟩=>⟨y,List.mem_cons_of_mem _ hy,h⟩⟩
   rcases List.mem_cons.1 hy with rfl|hy
   ·rw [hx] at hv
    cases hv
   ·exact h2 y hy v hv
  |some u=>
   obtain ⟨h1,h2,h3⟩:=jfg L i l (max s (cntV L i u))
   simp only
   refine ⟨by omega,fun y hy v hv=>?_,?_⟩
   ·rcases List.mem_cons.1 hy with rfl|hy
    ·rw [hx] at hv
     cases hv
     omega
    ·exact h2 y hy v hv
   ·rcases h3 with h3|⟨y,hy,h⟩
    ·rcases (by omega:max s (cntV L i u)=s∨max s (cntV L i u)=cntV L i u) with e|e
     ·exact .inl (h3.trans e)
     ·exact .inr ⟨x,by simp,u,hx,h3.trans e⟩
    ·exact .inr ⟨y,List.mem_cons_of_mem _ hy,h⟩
theorem leftA_ge {L:List Bo} {i:Nat} {x:Bo} {v:Int} (hx:x∈L) (hv:xA x i=some v):cntV L i v≤jcT L i:=(jfg L i L 0).2.1 x hx v hv
theorem jff (L:List Bo) (i:Nat):jcT L i=0∨ ∃x∈L,∃v,xA x i=some v∧jcT L i=cntV L i v:=(jfg L i L 0).2.2
theorem jd6 (L:List Bo) (i:Nat) (v:Int):cntV L i v≤jcT L i:=by
 by_cases h: ∃x∈L,xA x i=some v
 ·obtain ⟨x,hx,hv⟩:=h
  exact leftA_ge hx hv
 ·have:cntV L i v=0:=by
   rw [cntV,List.countP_eq_zero];intro x hx hh
   exact h ⟨x,hx,of_decide_eq_true hh⟩
  omega
theorem jft (L:List Bo) (i:Nat) (x:Bo) (v:Int):cntV (L++[x]) i v=cntV L i v+if xA x i=some v then 1 else 0:=by
 rw [cntV,List.countP_append,List.countP_singleton];simp [cntV]
theorem jhj {L:List Bo} {i:Nat} {x:Bo} (h:xA x i=none):jcT (L++[x]) i=jcT L i:=by
 have e: ∀v,cntV (L++[x]) i v=cntV L i v:=fun v=>by rw [jft,h];simp
 refine Nat.le_antisymm ?_ ?_
 ·rcases jff (L++[x]) i with h1|⟨y,_,v,_,h1⟩
  ·omega
  ·rw [h1,e];exact jd6 L i v
 ·rcases jff L i with h1|⟨y,_,v,_,h1⟩
  ·omega
  ·rw [h1,←e];exact jd6 _ i v
theorem jhi {L:List Bo} {i:Nat} {x:Bo} {u:Int} (h:xA x i=some u):jcT (L++[x]) i=max (jcT L i) (cntV L i u+1):=by
 have e: ∀v,cntV (L++[x]) i v=cntV L i v+if u=v then 1 else 0:=fun v=>by rw [jft,h];simp
 refine Nat.le_antisymm ?_ ?_
 ·rcases jff (L++[x]) i with h1|⟨y,_,v,_,h1⟩
  ·omega
  ·rw [h1,e];have:=jd6 L i v
   split
   ·rename_i e2
    subst e2
    omega
   ·omega
 ·have h1:=jd6 (L++[x]) i u
  rw [e,if_pos rfl] at h1
  have h2:jcT L i≤jcT (L++[x]) i:=by
   rcases jff L i with h1|⟨y,_,v,_,h1⟩
   ·omega
   ·have:=jd6 (L++[x]) i v
    rw [e] at this
    omega
  omega
theorem jmC {L:List Bo} {j:Nat} (h:j<L.length):L.take (j+1)=L.take j++[L.getD j []]:=by
 rw [List.take_add_one,List.getElem?_eq_getElem h,List.getD_eq_getElem?_getD,List.getElem?_eq_getElem h];rfl
theorem leftA_le (L:List Bo) (i:Nat):jcT L i≤L.length:=by
 rcases jff L i with h|⟨x,_,v,_,h⟩
 ·omega
 ·rw [h];exact List.countP_le_length
theorem jpz (L:List Bo): ∀k,(askK L k).2≤L.length
 |0=>Nat.le_refl _
 |k+1=>by
  have:=jpz L k
  rw [jfw,jf0];split
  ·simp only
   omega
  ·exact this
def cOfA (b:Tb) (o:Option Nat):Ce:=match o with|some j=>(jab b).getD j default|none=>default
def askR (b:Tb):Option Nat×Nat:=if jaZ b 0=0 then askK (jaf b) (jab b).length else (none,0)
theorem callB108:jbz Tryz.prog 108=true:=by kernel_rfl
instance {c:Ce}:At (ceL c) 0 (.bool c.butt):=⟨rfl⟩
theorem f50_c (m:Md Tryz.prog B) (h:Hp) {b:Tb} {ps:Option Addr} {ns ks:Nat} {pw:Option Addr} {nw cw:Nat} {pb:Option Addr} {nb cb:Nat} (ra:RawTb B h b ps ns ks pw nw cw pb nb cb):FnC m 50 #[tbV b ps ns ks pw nw cw pb nb cb] h fun v h'=>h'=h∧v= .tuple [ceV (cOfA b (askR b).1),.int .i64 ((askR b).2:Int),.bool (askR b).1.isSome,.int .i64 (jaZ b 0)].toArray:=by
 refine jae Tryz.func50 rfl rfl (l:=(tbV b ps ns ks pw nw cw pb nb cb)::uu77) rfl ?_
 intro cf cs K hK
 refine rs5 ?_;refine jaQ rfl zq (fun q1=>k_hp (jad ?_));refine jau rfl zq (fun q2=>k_hp (jad ?_));refine D163 ?_;refine rs8 ?_;refine Zs ?_;refine jaS rfl zq zK (Post:=fun v nz=>jf2 B b (tbL b ps ns ks pw nw cw pb nb cb) (jaZ b 0) nz v) (fun H' hH=>f88_c m H' (ra.keeps (sq hH)) callB108 (fun hk K q hKs hs=>by simpa using f108_c m K _)) ?_
 rintro v n8 ⟨qp,p8,m8,c8,rfl,hz⟩;refine jaI (jad ?_);refine Z3 ?_
 refine jau rfl zq (fun q6=>k_hp (jad ?_));refine D22 ?_;refine D218 ?_
 refine ja4 rfl zq (fun hc=>?_) (fun hc=>?_)
 ·refine D148 ?_;refine rs6 ?_;refine D58 ?_;refine Zs ?_;refine D22 ?_;refine Z2 ?_;refine D146 ?_;refine jac (h) rfl Tryz.func50 rfl jaa ?_;refine D5 ?_
  exact ⟨rfl,by rw [askR,if_neg zD];rfl⟩
 ·refine D165 ?_
  have hz0:jaZ b 0=0:=by first|assumption|omega
  obtain ⟨q9,rfl,sh,rfl,hc8,rdB⟩:=hz hz0
  obtain ⟨hzb,hzo,hzn⟩:=jdh hz0
  have hk:=ja6.1 hzb
  have hbl:=jbL hk
  have h12:=jbj hk
  obtain ⟨pc,cc,hcv,hcc,hcr⟩:=sh.cells
  refine rr4 ?_;refine Z3 ?_;refine D150 ?_;refine rs7 ?_;refine Z2 ?_;refine jal rfl zq ?_;refine Zs ?_;refine D91 ?_;refine D155 ?_;refine D11 ?_
  refine jai (fun nn l h'=> ∃(i:Nat) (fd:Bool),nn=(jab b).length-i∧(i≤(jab b).length)∧(fd=(askK (jaf b) i).1.isSome)∧(∃U:Nat→Value,l=((tbV b ps ns ks pw nw cw pb nb cb)::(U 1)::(.pointer (some ⟨q2,0,none⟩))::(.int .i64 ((askK (jaf b) i).2:Int))::(.bool fd)::(U 5)::(.pointer (some ⟨q6,0,none⟩))::vw22 U 7 ((.slice pc (jab b).length cc)::(.int .i64 ((jab b).length:Int))::(.int .i64 (i:Int))::vw46 U 32 [])))∧h++[⟨true,q1,.cells (tbL b ps ns ks pw nw cw pb nb cb).toArray 25 (0,0)⟩,⟨true,q2,.cells (ceL (cOfA b (askK (jaf b) i).1)).toArray 37 (0,0)⟩]++n8++[⟨true,q6,.cells [.pointer (some ⟨q9,0,none⟩),.slice p8 (jaf b).length c8].toArray 112 (0,0)⟩]=h') _ ⟨0,false,rfl,by omega,rfl,exU rfl,rfl⟩ ?_;rintro nn l h' ⟨i,fd,rfl,hi,hfd,⟨U,rfl⟩,rfl⟩ hnext1;have hal:=jpz (jaf b) i
  refine rs1 ?_;refine jan rfl zq (fun hc=>?_) (fun hc=>?_)
  ·refine D191 ?_
   obtain ⟨pcb,pco,hpc⟩:=hcr.ptr zO
   have hcr':=hcr
   rw [hpc] at hcr'
   refine rr6 ?_;refine Zs ?_;refine D122 ?_;refine jcU (vs:=ceL ((jab b).getD i default)) rfl zq rfl (hcr'.eat i zO zO) ?_;refine jau rfl zq (fun q8=>k_hp (jad ?_));refine Zs ?_;refine D194 ?_;refine rs2 ?_
   refine k_mkmapI rfl zq (fun qm=>k_hp (jad ?_));refine D0 ?_;refine D161 ?_;refine rs4 ?_;refine Z4 ?_;refine D182 ?_
   refine jai (fun nn l h'=> ∃(j:Nat) (es:List (Int×Int)),nn=(jaf b).length-j∧(j≤(jaf b).length)∧(∀v,cntI es v=(cntV ((jaf b).take j) i v:Int))∧(∃U:Nat→Value,l=((tbV b ps ns ks pw nw cw pb nb cb)::(U 1)::(.pointer (some ⟨q2,0,none⟩))::(.int .i64 ((askK (jaf b) i).2:Int))::(.bool fd)::(U 5)::(.pointer (some ⟨q6,0,none⟩))::(.int .i64 (i:Int))::(.pointer (some ⟨q8,0,none⟩))::(.map (some qm))::(.int .i64 (jcT ((jaf b).take j) i:Int))::vw18 U 11 ((.slice pc (jab b).length cc)::(.int .i64 ((jab b).length:Int))::(.int .i64 (i:Int))::vw6 U 32 ((.slice p8 (jaf b).length c8)::(.int .i64 ((jaf b).length:Int))::(.int .i64 (j:Int))::vw37 U 41 []))))∧h++[⟨true,q1,.cells (tbL b ps ns ks pw nw cw pb nb cb).toArray 25 (0,0)⟩,⟨true,q2,.cells (ceL (cOfA b (askK (jaf b) i).1)).toArray 37 (0,0)⟩]++n8++[⟨true,q6,.cells [.pointer (some ⟨q9,0,none⟩),.slice p8 (jaf b).length c8].toArray 112 (0,0)⟩,⟨true,q8,.cells (ceL ((jab b).getD i default)).toArray 37 (0,0)⟩,⟨true,qm,mapI es⟩]=h') _ ⟨0,[],rfl,by omega,fun v=>rfl,exU rfl,rfl⟩ ?_;rintro nn l h' ⟨j,es,rfl,hj,hes,⟨U,rfl⟩,rfl⟩ hnext2;have hlt:=leftA_le ((jaf b).take j) i
   have hlj:=List.length_take_le j (jaf b)
   refine rs1 ?_;refine jan rfl zq (fun hc=>?_) (fun hc=>?_)
   ·refine D191 ?_
    obtain ⟨rb,ro,hrp⟩:=rdB.ptr zO
    have rdB':=rdB
    rw [hrp] at rdB'
    have hxm:(jaf b).getD j []∈jaf b:=by rw [List.getD_eq_getElem?_getD,List.getElem?_eq_getElem zO];exact List.getElem_mem _
    have hxl:=jcd hxm
    have htk:=jmC (L:=jaf b) (j:=j) zO
    refine rr4 ?_;refine D90 ?_;refine D110 ?_;obtain ⟨x,hx⟩: ∃x,x=(jaf b).getD j []:=⟨_,rfl⟩
    rw [←hx] at hxm hxl htk⊢
    have hxb:=jce (x:=x) zO
    refine jau rfl zq (fun q12=>k_hp (jad ?_));refine jkb rfl zq (jaC x) ?_;refine D1 ?_;refine rs5 ?_;refine Z3 ?_;refine jaj (Post:=fun v=>IsB _ v) rfl zq zK (fun H' hH=>f98_b m H' (jbA x) i hxb zO) ?_;rintro v (⟨hc,rfl⟩|⟨hc,rfl⟩)
    ·refine D189 ?_;refine D225 ?_
     have hxn:xA x i=none:=by
      have e:=hc
      rw [jgi zO] at e
      exact Option.isNone_iff_eq_none.1 e
     have hls:jcT ((jaf b).take (j+1)) i=jcT ((jaf b).take j) i:=by rw [htk];exact jhj hxn
     rw [←hls];exact m.weak jaa (hnext2 _ _ _ zO ⟨j+1,es,rfl,by omega,fun v=>by rw [hes v,htk,jft,hxn];simp,exU rfl,rfl⟩)
    ·refine D9 ?_
     obtain ⟨u,hxv⟩: ∃u,xA x i=some u:=by
      cases e:xA x i with
      |none=>exact absurd (by rw [jgi zO,e];rfl) hc
      |some v=>exact ⟨v,rfl⟩
     refine D40 ?_;refine D148 ?_;refine rs8 ?_;refine Z4 ?_;refine k_ld rfl zq (bo_at i zO) ?_
     rw [hxv,Option.getD_some];refine jkc (k:=3) (e:=3) zK zK rfl zq ?_;refine k_add rfl zq (by
      have h1:=hes u
      have h2:cntV ((jaf b).take j) i u≤_:=List.countP_le_length
      unfold In64
      omega) ?_
     refine joI (k:=3) (e:=3) zK zK rfl zq ?_;refine D1 ?_;refine rr9 ?_;refine Z5 ?_;refine k_ld rfl zq (bo_at i zO) ?_;rw [hxv,Option.getD_some];refine jkc (k:=3) (e:=3) zK zK rfl zq ?_;refine joH rfl zq ?_;refine D0 ?_;refine D159 ?_;have hls:jcT ((jaf b).take (j+1)) i=max (jcT ((jaf b).take j) i) (cntV ((jaf b).take j) i u+1):=by rw [htk];exact jhi hxv
     rw [jkF,if_pos rfl,show max (jcT ((jaf b).take j) i:Int) (cntI es u+1)=((jcT ((jaf b).take (j+1)) i:Nat):Int) by rw [hls,hes];omega];exact m.weak jaa (hnext2 _ _ _ zO ⟨j+1,jh4 es u (cntI es u+1),rfl,by omega,fun v=>by
      rw [jkF,htk,jft,hxv,hes,hes];by_cases e:v=u
      ·subst e
       simp
      ·rw [if_neg e,if_neg (by simp;exact fun a=>e a.symm)];simp,exU rfl,rfl⟩)
   ·refine D175 ?_;refine D2 ?_
    obtain rfl:j=(jaf b).length:=by omega
    rw [List.take_length] at hlt⊢
    refine rr7 ?_;refine Zs ?_;refine jaF rfl zq (fun hc=>?_) (fun hc=>?_)
    ·refine Z3 ?_
     refine jan rfl rfl (fun hc=>?_) (fun hc=>?_);refine D223 ?_;refine rr5 ?_;refine Z2 ?_;refine D22 ?_;refine Zs ?_;refine D0 ?_
     rotate_left
     refine D13 ?_;refine D149 ?_
     all_goals
      refine D159 ?_
     ·have hst:askK (jaf b) (i+1)=askK (jaf b) i:=by rw [jfw,jf0,if_neg zO]
      rw [←hst];exact E49
     ·have hst:askK (jaf b) (i+1)=(some i,jcT (jaf b) i):=by rw [jfw,jf0,if_pos ⟨by omega,by omega⟩]
      rw [show (jcT (jaf b) i:Int)=(((askK (jaf b) (i+1)).2:Nat):Int) by rw [hst],show (jab b).getD i default=cOfA b (askK (jaf b) (i+1)).1 by rw [hst];rfl];exact m.weak jaa (hnext1 _ _ _ zO ⟨i+1,true,rfl,by omega,by rw [hst];rfl,exU rfl,rfl⟩)
    ·refine Z4 ?_;refine D187 ?_;refine D159 ?_
     have hst:askK (jaf b) (i+1)=askK (jaf b) i:=by rw [jfw,jf0,if_neg zO]
     rw [←hst];exact E49
  ·refine D175 ?_;refine rs7 ?_;refine Z3 ?_;refine D22 ?_;refine Z2 ?_;refine D146 ?_;refine jac (h) rfl Tryz.func50 rfl jaa ?_;refine D5 ?_
   obtain rfl:i=(jab b).length:=by omega
   exact ⟨rfl,by rw [askR,if_pos hz0,hz0,hfd]⟩
section
variable {P:Program} {m:Md P B} {ops:Array Oper} {l l':List Value} {S h h' H:Hp} {C:List Value→Hp→Prop} {i:Nat} {kd:Kd} {r:List (Nat×Kd)} {d:Option Tmp} {ty:TypeId} {pos:String} {af:Array Edge} {g:Option (Nat×Bool)}
omit [LaidO B] in
theorem jmS {t e:TypeId} {dd:Nat} (ht:P.underlying t=some (.slice e)) (p:Option Addr) (n c:Nat):Reads P B (Op.equalIn (dd+1) t (.slice p n c) (.slice none 0 0)) h p.isNone:=by
 unfold Op.equalIn
 refine Reads.bind (jag ht).reads ?_
 cases p with
 |none=>exact Reads.pure _
 |some a=>exact Reads.pure _
omit [LaidO B] in
theorem jfj {t e u:TypeId} {x:Operand} {p:Option Addr} {n c:Nat} (ho:ops[i]?=some ⟨d,.binOp .eql t x (.const (.slice none 0 0)) u,ty,pos,af,g⟩) (hw:Wt ops l g) [KHeap kd S h H] [ex:OpV l x (.slice p n c)] (ht:P.underlying t=some (.slice e)) [PutV l d (.bool p.isNone) l'] (c:RegK m S ops r l' h C):RegK m S ops ((i,kd)::r) l h C:=
 RegK.rd (v:= .bool p.isNone) ho hw (by
  have ey:ev l (.const (.slice none 0 0))= .slice none 0 0:=rfl
  simp only [execOp,ex.eq,ey]
  refine Reads.value (Reads.bind (a:=()) ?_ ?_)
  ·exact Reads.pure _
  ·show Reads P B (Op.equal t (.slice p n _) (.slice none 0 0)>>=fun b=>pure (Value.bool b)) H _
   exact Reads.bind (jmS (dd:=9999) ht p n _) (Reads.pure _)) c
end
theorem jb8 {t k n:Nat} {v:Value} {cs:List Value} {new:Hp} (o:OwnS t k v n cs new) (h0:0<n): ∃q cap junk,v= .slice (some ⟨q,0,none⟩) n cap∧new=[⟨true,q,.cells (cs++junk).toArray t (0,0)⟩]∧cs.length=n*k∧cs.length+junk.length=cap*k∧n≤cap:=by
 cases o with
 |nil=>omega
 |blk hl hc hn=>exact ⟨_,_,_,rfl,by simp,hl,hc,hn⟩
theorem jlK {h:Hp} {k n c:Nat} {ys:List Value} (rd:RdS B h k (.slice none n c) n ys):ys=[]:=by
 obtain ⟨p',c',e,hl,hr⟩:=rd
 rcases hr with ⟨_,rfl⟩|⟨b,o,e2,_⟩
 ·exact List.length_eq_zero_iff.1 zO
 ·cases e
  cases e2
theorem jj3 (t k q:Nat):OwnS t k (.slice (some ⟨q,0,none⟩) 0 0) 0 [] [⟨true,q,.cells ([]:List Value).toArray t (0,0)⟩]:=OwnS.blk (cs:=[]) (junk:=[]) zS zS (Nat.le_refl 0)
inductive OwnF:List Lp→Hp→Prop
 |nil:OwnF [] []
 |snoc {xs:List Lp} {M F:Hp} {x:Lp} (o:OwnF xs M) (f:OwnS 9 1 (.slice x.p x.ln.figs.length x.c) x.ln.figs.length (encs x.ln.figs) F):OwnF (xs++[x]) (M++F)
theorem OwnF.at {xs:List Lp} {M:Hp} (o:OwnF xs M) {k:Nat} (hk:k<xs.length): ∃M1 F M2,M=M1++F++M2∧OwnS 9 1 (.slice (xs.getD k default).p (xs.getD k default).ln.figs.length (xs.getD k default).c) (xs.getD k default).ln.figs.length (encs (xs.getD k default).ln.figs) F∧ ∀x' F',OwnS 9 1 (.slice x'.p x'.ln.figs.length x'.c) x'.ln.figs.length (encs x'.ln.figs) F'→OwnF (xs.set k x') (M1++F'++M2):=by
 induction o with
 |nil=>simp at hk
 | @snoc xs M F x o f ih=>
  rw [List.length_append,List.length_singleton] at hk
  by_cases e:k<xs.length
  ·obtain ⟨M1,F1,M2,rfl,h1,h2⟩:=ih e
   refine ⟨M1,F1,M2++F,by simp only [List.append_assoc],?_,fun x' F' hf=>?_⟩
   ·rw [show (xs++[x]).getD k default=xs.getD k default by rw [jfl,if_pos e]];exact h1
   ·rw [List.set_append_left _ _ e,←List.append_assoc];exact .snoc (h2 x' F' hf) f
  ·obtain rfl:k=xs.length:=by omega
   refine ⟨M,F,[],by rw [List.append_nil],?_,fun x' F' hf=>?_⟩
   ·rw [show (xs++[x]).getD xs.length default=x by rw [jfl,if_neg zO,if_pos rfl]];exact f
   ·rw [List.set_append_right _ _ (Nat.le_refl _),Nat.sub_self,List.set_cons_zero,List.append_nil];exact .snoc o hf
theorem OwnF.rd {B:Array Obj} {xs:List Lp} {M:Hp} (o:OwnF xs M): ∀x∈xs,x.ln.figs.length≤x.c∧RdS B M 1 (.slice x.p x.ln.figs.length x.c) x.ln.figs.length (encs x.ln.figs):=by
 induction o with
 |nil=>simp
 | @snoc xs M F x o f ih=>
  intro y hy
  rcases List.mem_append.1 hy with hy|hy
  ·exact ⟨(ih y hy).1,(ih y hy).2.keeps (List.sublist_append_left _ _)⟩
  ·obtain rfl:y=x:=by simpa using hy
   exact ⟨f.cap,f.rd (List.sublist_append_right _ _)⟩
def HalfO (v:Value) (n:Nat) (lns:List Ln) (M:Hp):Prop:= ∃(lps:List Lp) (lp:Option Addr) (lc:Nat) (W FM:Hp),v= .slice lp n lc∧lps.map (·.ln)=lns∧OwnS 121 2 (.slice lp n lc) n (encs lps) W∧OwnF lps FM∧M=W++FM
theorem HalfO.rd {B:Array Obj} {v:Value} {n:Nat} {lns:List Ln} {M:Hp} (o:HalfO v n lns M): ∃p c,v= .slice p n c∧RdLn B M (.slice p n c) n lns:=by
 obtain ⟨lps,lp,lc,W,FM,rfl,e,ow,of',rfl⟩:=o
 exact ⟨lp,lc,rfl,lps,e,ow.rd (List.sublist_append_left _ _),fun x hx=>⟨(of'.rd (B:=B) x hx).1,fun _=>(of'.rd x hx).2.keeps (List.sublist_append_right _ _)⟩⟩
theorem jhD {α:Type} {k:Nat} [Enc α k] [Inhabited α] (xs:List α) (i:Nat) (h:i<xs.length) (x:α):encs (xs.set i x)=(encs xs).take (i*k)++Enc.enc x++(encs xs).drop ((i+1)*k):=by
 have e:xs.set i x=xs.take i++[x]++xs.drop (i+1):=by rw [List.set_eq_take_append_cons_drop,if_pos h];simp
 rw [e,jav,jav,jkz,jhE];simp [encs]
theorem jbc (xs:List Lp):(encs xs).length=xs.length*2:=jaL xs
theorem jox (xs:List Lp) (i:Nat) (h:i<xs.length) (j:Nat) (hj:j<2):(encs xs)[i*2+j]?=(lpL (xs.getD i default))[j]?:=by
 have e:xs=xs.take i++[xs.getD i default]++xs.drop (i+1):=by
  rw [List.append_assoc,List.singleton_append];rw [List.getD_eq_getElem?_getD,List.getElem?_eq_getElem h];simp
 have e2:encs xs=encs (xs.take i)++lpL (xs.getD i default)++encs (xs.drop (i+1)):=by
  conv=>lhs;rw [e]
  rw [jav,jav];simp only [encs,List.append_nil]
  rfl
 have hl:(encs (xs.take i)).length=i*2:=by rw [jbc,List.length_take];congr 1;omega
 rw [e2,List.append_assoc,List.getElem?_append_right zO,hl,show i*2+j-i*2=j by omega,List.getElem?_append_left zN]
theorem jjK {xs:List Lp} {junk:List Value} {i:Nat} (h:i<xs.length) {x:Lp} (hln:x.ln=(xs.getD i default).ln):SetSeg (encs xs++junk) (0+(i:Int).toNat*2+1) [.slice x.p x.ln.figs.length x.c] (encs (xs.set i x)++junk):=by
 have hl:=jbc xs
 refine jcL zN ?_
 rw [Int.toNat_natCast,Nat.zero_add,List.set_append_left _ _ zO];congr 1
 refine List.ext_getElem? fun a=>?_
 rw [jhD xs i h,List.getElem?_set];have h1:=jox xs i h 0 zO
 have hlt:((encs xs).take (i*2)).length=i*2:=by rw [List.length_take];omega
 by_cases e:i*2+1=a
 ·subst e
  rw [if_pos rfl,if_pos zO,List.append_assoc,List.getElem?_append_right zO,hlt,show i*2+1-i*2=1 by omega];rfl
 ·rw [if_neg e];by_cases e1:a<i*2
  ·rw [List.append_assoc,List.getElem?_append_left zO,List.getElem?_take,if_pos e1]
  ·by_cases e2:a=i*2
   ·subst e2
    rw [List.append_assoc,List.getElem?_append_right zO,hlt,Nat.sub_self,show i*2=i*2+0 by omega,h1];show some (Value.int .i64 x.ln.lat)=_
    rw [hln];rfl
   ·have hen:(Enc.enc x).length=2:=rfl
    rw [List.append_assoc,List.getElem?_append_right zO,hlt,List.getElem?_append_right (by rw [hen];omega),hen,List.getElem?_drop];congr 1
    omega
theorem jcI {xs:List Lp} {i:Nat} (h:i<xs.length) {x:Lp} (hx:lpL x=lpL (xs.getD i default)):encs (xs.set i x)=encs xs:=by
 rw [jhD xs i h];have e:=jhD xs i h (xs.getD i default)
 have hs:xs.set i (xs.getD i default)=xs:=by
  rw [List.getD_eq_getElem?_getD,List.getElem?_eq_getElem h];simp
 rw [hs] at e
 conv=>rhs;rw [e]
 show _++lpL x++_=_++lpL _++_
 rw [hx]
theorem f162_c (m:Md Tryz.prog B) (h:Hp) {p:Option Addr} {n c:Nat} {ss:List Str} (rd:RdS B h 1 (.slice p n c) n (encs ss)) (hn:n≤1000):FnC m 162 #[.slice p n c] h fun v h'=> ∃new,h'=h++new∧OwnS 9 1 v n (encs ss) new:=by
 refine jae Tryz.func162 rfl rfl (l:=(.slice p n c)::uu7) rfl ?_
 intro cf cs K hK
 refine D161 ?_;refine D152 ?_
 rcases (by cases p<;>simp:p=none∨ ∃pa,p=some pa) with rfl|⟨pa,rfl⟩
 ·refine jfj (e:=9) rfl zq zK ?_;refine D166 ?_;refine jac (h) rfl Tryz.func162 rfl jaa ?_;refine D5 ?_;have hys:=jlK rd
  have hn0:n=0:=by
   have h1:=rd.elen zA
   have h2:=congrArg List.length hys
   rw [jaL,h1] at h2
   simp at h2
   omega
  subst hn0
  rw [hys];exact ⟨[],by simp,OwnS.nil⟩
 ·refine jfj (e:=9) rfl zq zK ?_;refine D149 ?_;refine rs4 ?_;refine joQ kdq rfl zq (fun q5=>k_hp (jad ?_));refine Zs ?_
  refine k_app (F:=h) rfl zq (Weak.refl B _) (jj3 9 1 q5) (rd.keeps SubH.sub) (jdO ss) (.inl rfl) zO zO (fun v' new' o'=>jad ?_);rw [Nat.zero_add,List.nil_append] at o'
  refine D146 ?_;refine jac (h++new') rfl Tryz.func162 rfl jaa ?_;refine D5 ?_
  exact ⟨new',rfl,o'⟩
theorem f163_c (m:Md Tryz.prog B) (h:Hp) {p:Option Addr} {n c:Nat} {ss:List Lp} (rd:RdS B h 2 (.slice p n c) n (encs ss)) (hn:n≤1000):FnC m 163 #[.slice p n c] h fun v h'=> ∃new,h'=h++new∧OwnS 121 2 v n (encs ss) new:=by
 refine jae Tryz.func163 rfl rfl (l:=(.slice p n c)::uu7) rfl ?_
 intro cf cs K hK
 refine D161 ?_;refine D152 ?_
 rcases (by cases p<;>simp:p=none∨ ∃pa,p=some pa) with rfl|⟨pa,rfl⟩
 ·refine jfj (e:=121) rfl zq zK ?_;refine D166 ?_;refine jac (h) rfl Tryz.func163 rfl jaa ?_;refine D5 ?_;have hys:=jlK rd
  have hn0:n=0:=by
   have h1:=rd.elen zA
   have h2:=congrArg List.length hys
   rw [jaL,h1] at h2
   simp at h2
   omega
  subst hn0
  rw [hys];exact ⟨[],by simp,OwnS.nil⟩
 ·refine jfj (e:=121) rfl zq zK ?_;refine D149 ?_;refine rs4 ?_;refine joQ kdq rfl zq (fun q5=>k_hp (jad ?_));refine Zs ?_
  refine k_app (F:=h) rfl zq (Weak.refl B _) (jj3 121 2 q5) (rd.keeps SubH.sub) (jdO ss) (.inl rfl) zO zO (fun v' new' o'=>jad ?_);rw [Nat.zero_add,List.nil_append] at o'
  refine D146 ?_;refine jac (h++new') rfl Tryz.func163 rfl jaa ?_;refine D5 ?_
  exact ⟨new',rfl,o'⟩
theorem lp_rd {h:Hp} {q t:Nat} {rw:Bool} {fr:Nat×Nat} {xs:List Lp} {junk:List Value} [hh:Has h q rw (.cells (encs xs++junk).toArray t fr)] {j:Int} {i:Nat} (hj:j=i) (hi:i<xs.length):Rd B h ⟨q,0+j.toNat*2+1,none⟩ (.slice (xs.getD i default).p (xs.getD i default).ln.figs.length (xs.getD i default).c):=by
 subst hj
 refine Rd.held hh.mem ?_
 have:=jbc xs
 rw [List.getElem?_toArray,List.getElem?_append_left zO,show 0+(i:Int).toNat*2+1=i*2+1 by omega,jox xs i hi 1 zO];rfl
theorem jgg {xs:List Lp} {i:Nat} {y:Lp} (hy:y.ln=(xs.getD i default).ln):(xs.set i y).map (·.ln)=xs.map (·.ln):=by
 refine List.ext_getElem zS fun a h1 h2=>?_
 simp only [List.getElem_map,List.getElem_set]
 split
 ·rename_i e
  subst e
  rw [hy,List.getD_eq_getElem?_getD,List.getElem?_eq_getElem (by simpa using h2)];rfl
 ·rfl
theorem jjx {xs:List Lp} {i:Nat} (h:i<xs.length) (y:Lp):(xs.set i y).take (i+1)=xs.take i++[y]:=by
 rw [List.set_eq_take_append_cons_drop,if_pos h,List.take_append,List.length_take,show i+1-min i xs.length=1 by omega];simp [List.take_take]
theorem jkm {xs:List Lp} {i j:Nat} (h:i≠j) (y:Lp):(xs.set i y).getD j default=xs.getD j default:=by
 rw [List.getD_eq_getElem?_getD,List.getElem?_set_ne h,List.getD_eq_getElem?_getD]
theorem jfC {ss:List Str} {junk:List Value} {j:Int} {i:Nat} (hj:j=i) (h:i<ss.length) (s:Str):SetSeg (encs ss++junk) (0+j.toNat*1) [str s] (encs (ss.set i s)++junk):=by
 subst hj
 have hl:(encs ss).length=ss.length:=by rw [jaL,Nat.mul_one]
 refine jcL zN ?_
 rw [Int.toNat_natCast,Nat.zero_add,Nat.mul_one,List.set_append_left _ _ zO,jcH,jcH,List.map_set]
theorem jmh {b:Tb} {c:Ce} {f:Str} {i:Nat} (hi:i<2) (h:c.butt=decide (i=1)):hL (setF b c f) i=updL (hL b i) c.line.toNat c.st.toNat f:=by
 rw [ji8 _ hi,ji8 _ hi,jbS,if_pos h.symm]
theorem jo0 {b:Tb} {c:Ce} {f:Str} {i:Nat} (hi:i<2) (h:c.butt≠decide (i=1)):hL (setF b c f) i=hL b i:=by
 rw [ji8 _ hi,ji8 _ hi,jbS,if_neg (fun e=>h e.symm)]
theorem jny {ls:List Ln} (h: ∀l∈ls,l.figs.length≤1000∧ ∀f∈l.figs,f.length≤100000) {i k:Nat} {f:Str} (hf:f.length≤100000): ∀l∈updL ls i k f,l.figs.length≤1000∧ ∀f∈l.figs,f.length≤100000:=by
 intro l hl
 rcases List.mem_or_eq_of_mem_set hl with hl|rfl
 ·exact h l hl
 ·have hd:(ls.getD i default).figs.length≤1000∧ ∀f∈(ls.getD i default).figs,f.length≤100000:=by
   by_cases hi:i<ls.length
   ·exact h _ (jak hi)
   ·rw [List.getD_eq_getElem?_getD,List.getElem?_eq_none zO];exact ⟨Nat.zero_le _,fun f hf=>by cases hf⟩
  refine ⟨by simpa using hd.1,fun g hg=>?_⟩
  rcases List.mem_or_eq_of_mem_set hg with hg|rfl
  ·exact hd.2 g hg
  ·exact hf
theorem jnY {b:Tb} (h:TbSm b) {c:Ce} {f:Str} (hf:f.length≤100000):TbSm (setF b c f):=by
 unfold setF
 split
 ·exact ⟨h.sts,h.wat,jny h.but hf⟩
 ·exact ⟨h.sts,jny h.wat hf,h.but⟩
theorem jgt {B:Array Obj} (A W M:Hp) (x:Chunk):Weak B (A++[x]++W++M) (A++(W++M)):=by
 rw [List.append_assoc (A++[x])];exact (Weak.sub ((List.sublist_append_left A [x]).append_right _))
theorem jgz {xs:List Lp} {ls:List Ln} (e:xs.map (·.ln)=ls) {i k:Nat} (h:i<xs.length) (f:Str) (p:Option Addr) (c:Nat):(xs.set i ⟨⟨(xs.getD i default).ln.lat,(xs.getD i default).ln.figs.set k f⟩,p,c⟩).map (·.ln)=updL ls i k f:=by
 subst e
 rw [updL,List.map_set];congr 1
 have:(xs.map (·.ln)).getD i default=(xs.getD i default).ln:=by
  rw [List.getD_eq_getElem?_getD,List.getElem?_map,List.getElem?_eq_getElem h,List.getD_eq_getElem?_getD,List.getElem?_eq_getElem h];rfl
 rw [this]
theorem f112_c (m:Md Tryz.prog B) (h:Hp) {b:Tb} {ps:Option Addr} {ns ks:Nat} {pw:Option Addr} {nw cw:Nat} {pb:Option Addr} {nb cb:Nat} (rd:RdTb B h b ps ns ks pw nw cw pb nb cb) {c:Ce} (hc0:hasT b c=true) (f:Str) (hf:f.length≤100000):FnC m 112 #[tbV b ps ns ks pw nw cw pb nb cb,cV c.butt c.line c.st,str f] h fun v h'=> ∃new ps' ks' pw' cw' pb' cb',h'=h++new∧v=tbV (setF b c f) ps' ns ks' pw' nw cw' pb' nb cb'∧RawTb B new (setF b c f) ps' ns ks' pw' nw cw' pb' nb cb':=by
 have hsl0:=rd.sl
 have hn1:=rd.n1
 have hn3:=rd.n3
 have hw2:=rd.w2
 have hb2:=rd.b2
 refine jae Tryz.func112 rfl rfl (l:=(tbV b ps ns ks pw nw cw pb nb cb)::(cV c.butt c.line c.st)::(str f)::uu64) rfl ?_
 intro cf cs K hK
 refine rs3 ?_;refine jaQ rfl zq (fun q3=>k_hp (jad ?_));refine jaQ rfl zq (fun q4=>k_hp (jad ?_));refine jau rfl zq (fun q6=>k_hp (jad ?_));refine D1 ?_;refine D241 ?_;refine jaS rfl zq zK (Post:=fun v nz=>OwnS 9 1 v ns (encs b.sts) nz) (fun H' hH=>f162_c m H' (rd.s.keeps (sq hH)) zO) ?_
 rintro v n14 o14;refine jaI (jad ?_);obtain ⟨p14,c14,rfl,hc14,r14⟩:=jap (B:=B) o14
 refine D242 ?_;refine D151 ?_;refine rs2 ?_;refine jcU (vs:=halvesL) rfl zq rfl jeV ?_;refine D243 ?_
 refine jai (fun nn l h'=> ∃(i:Nat) (wp:Option Addr) (wc:Nat) (bp:Option Addr) (bc:Nat) (M0 M1:Hp),nn=2-i∧(i≤2)∧(i=0→pw=wp∧cw=wc∧M0=[])∧(i≤1→pb=bp∧cb=bc∧M1=[])∧(1≤i→HalfO (.slice wp nw wc) nw (hL (setF b c f) 0) M0)∧(2≤i→HalfO (.slice bp nb bc) nb (hL (setF b c f) 1) M1)∧(∃U:Nat→Value,l=((tbV b ps ns ks pw nw cw pb nb cb)::(cV c.butt c.line c.st)::(str f)::(.pointer (some ⟨q3,0,none⟩))::(.pointer (some ⟨q4,0,none⟩))::(U 5)::(.pointer (some ⟨q6,0,none⟩))::vw9 U 7 ((.agg halvesL.toArray)::(.int .i64 (i:Int))::vw49 U 18 [])))∧h++[⟨true,q3,.cells [.int .i64 b.wrong,.slice p14 ns c14,.slice wp nw wc,.slice bp nb bc].toArray 25 (0,0)⟩,⟨true,q4,.cells [.bool c.butt,.int .i64 c.line,.int .i64 c.st].toArray 37 (0,0)⟩,⟨true,q6,.cells [.int .i64 0,.slice none 0 0,.slice none 0 0,.slice none 0 0].toArray 25 (0,0)⟩]++n14++M0++M1=h') _ ⟨0,pw,cw,pb,cb,[],[],rfl,by omega,fun _=>⟨rfl,rfl,rfl⟩,fun _=>⟨rfl,rfl,rfl⟩,fun e=>by omega,fun e=>by omega,exU rfl,(by rw [List.append_nil,List.append_nil])⟩ ?_;rintro nn l h' ⟨i,wp,wc,bp,bc,M0,M1,rfl,hi,hz0,hz1,hz2,hz3,⟨U,rfl⟩,rfl⟩ hnext1;refine rs1 ?_;refine jan rfl zq (fun hc=>?_) (fun hc=>?_)
 ·refine D191 ?_
  rcases (by omega:i=0∨i=1) with rfl|rfl
  obtain ⟨rfl,rfl,rfl⟩:=hz0 rfl
  obtain ⟨rfl,rfl,rfl⟩:=hz1 zO
  obtain ⟨lps0,hle,rl,hfig⟩:=rd.w
  have hll:=rl.elen zA
  replace hle:lps0.map (·.ln)=hL b 0:=hle
  have hwf: ∀l∈hL b 0,l.figs.length=ns∧ ∀f∈l.figs,ja7 f=true:=rd.wf
  rw [List.append_nil,List.append_nil];refine rr3 ?_;refine jl9 rfl zq zO zO (jhs 0 zO) ?_;rotate_left
  obtain ⟨rfl,rfl,rfl⟩:=hz1 zO
  have hh0:=hz2 zO
  obtain ⟨lps0,hle,rl,hfig⟩:=rd.u
  have hll:=rl.elen zA
  replace hle:lps0.map (·.ln)=hL b 1:=hle
  have hwf: ∀l∈hL b 1,l.figs.length=ns∧ ∀f∈l.figs,ja7 f=true:=rd.bf
  rw [List.append_nil];refine rr3 ?_;refine jl9 rfl zq zO zO (jhs 1 zO) ?_;all_goals
   refine jau rfl zq (fun q8=>k_hp (jad ?_));refine D194 ?_;refine rs4 ?_
  ·refine Z2 ?_;refine jfi (Post:=fun v=>v= .pointer (some ⟨q3,3,none⟩)) rfl zq (jht 1 zO) (fun H' hH=>jo1 m H' q3 1 zO) ?_
   rintro v rfl;refine D9 ?_;refine D0 ?_;refine rs7 ?_;refine Z2 ?_
   refine jal rfl zq ?_;refine Zs ?_;refine jaS rfl zq zK (Post:=fun v nz=>OwnS 121 2 v nb (encs lps0) nz) (fun H' hH=>f163_c m H' (rl.keeps (sq hH)) zO) ?_
   rintro v n27 o27;refine jaI (jad ?_);obtain ⟨p27,c27,rfl,hc27,r27⟩:=jap (B:=B) o27
   refine jal rfl zq ?_;refine D27 ?_;refine D151 ?_;refine rs5 ?_;refine Zs ?_
   refine jal rfl zq ?_;refine Z3 ?_;refine D182 ?_
   refine jai (fun nn l h'=> ∃(k:Nat) (lps:List Lp) (W FM:Hp),nn=nb-k∧(k≤nb)∧(lps.length=nb)∧(lps.map (·.ln)=hL b 1)∧(∀j,k≤j→lps.getD j default=lps0.getD j default)∧(OwnS 121 2 (.slice p27 nb c27) nb (encs lps) W)∧(OwnF (lps.take k) FM)∧(∃U:Nat→Value,l=((tbV b ps ns ks pw nw cw pb nb cb)::(cV c.butt c.line c.st)::(str f)::(.pointer (some ⟨q3,0,none⟩))::(.pointer (some ⟨q4,0,none⟩))::(U 5)::(.pointer (some ⟨q6,0,none⟩))::(U 7)::(.pointer (some ⟨q8,0,none⟩))::(.pointer (some ⟨q3,3,none⟩))::vw6 U 10 ((.agg halvesL.toArray)::(.int .i64 1)::vw13 U 18 ((.slice p27 nb c27)::(.int .i64 (nb:Int))::(.int .i64 (k:Int))::vw33 U 34 []))))∧h++[⟨true,q3,.cells [.int .i64 b.wrong,.slice p14 ns c14,.slice wp nw wc,.slice p27 nb c27].toArray 25 (0,0)⟩,⟨true,q4,.cells [.bool c.butt,.int .i64 c.line,.int .i64 c.st].toArray 37 (0,0)⟩,⟨true,q6,.cells [.int .i64 0,.slice none 0 0,.slice none 0 0,.slice none 0 0].toArray 25 (0,0)⟩]++n14++M0++[⟨true,q8,.cells [str (hwS 1),.bool (decide (1=1)),.func (.func (261+1)) #[] #[]].toArray 184 (0,0)⟩]++W++FM=h') _ ⟨0,lps0,n27,[],rfl,by omega,hll,hle,fun j _=>rfl,o27,by rw [List.take_zero];exact .nil,exU rfl,(by rw [List.append_nil])⟩ ?_;rintro nn l h' ⟨k,lps,W,FM,rfl,hk,hlen,hmap,hsame,how,hof,⟨U,rfl⟩,rfl⟩ hnext2;refine rs1 ?_;refine jan rfl zq (fun hc=>?_) (fun hc=>?_)
   ·refine D191 ?_
    have rdW:=how.rd (B:=B) (List.Sublist.refl _)
    obtain ⟨bl,lc1,junk,hwv,rfl,hwl,hwc,hwn⟩:=jb8 how zO
    cases hwv
    have hxk:=hsame k (Nat.le_refl k)
    obtain ⟨x,hx⟩: ∃x,x=lps0.getD k default:=⟨_,rfl⟩
    rw [←hx] at hxk
    have hxm:x∈lps0:=hx▸jak zO
    obtain ⟨hxc,rdf0⟩:=hfig x hxm
    have hxf:x.ln.figs.length=ns:=(hwf x.ln (by rw [←hle];exact List.mem_map.2 ⟨x,hxm,rfl⟩)).1
    have rdf:=rdf0 (by have:=rd.n1;omega)
    refine rr6 ?_;refine Zs ?_;refine D29 ?_;refine jcU (vs:=lpL x) rfl zq rfl (hxk▸rdW.eat k zO zO) ?_;refine jau rfl zq (fun q11=>k_hp (jad ?_));refine Zs ?_;refine D194 ?_;refine D88 ?_;refine Zs ?_
    refine jal rfl zq ?_;refine Z4 ?_;refine D106 ?_
    rintro v n44 o44;refine jaI (jad ?_);obtain ⟨p44,c44,rfl,hc44,r44⟩:=jap (B:=B) o44
    refine D29 ?_;refine Zs ?_
    haveI hsl2:=jjK (xs:=lps) (junk:=junk) (i:=k) zO (x:=⟨x.ln,p44,c44⟩) (by rw [hxk])
    refine D210 ?_;refine m.weak (h':=h++[⟨true,q3,.cells [.int .i64 b.wrong,.slice p14 ns c14,.slice wp nw wc,.slice (some ⟨bl,0,none⟩) nb c27].toArray 25 (0,0)⟩,⟨true,q4,.cells [.bool c.butt,.int .i64 c.line,.int .i64 c.st].toArray 37 (0,0)⟩,⟨true,q6,.cells [.int .i64 0,.slice none 0 0,.slice none 0 0,.slice none 0 0].toArray 25 (0,0)⟩]++n14++M0++[⟨true,q8,.cells [str (hwS 1),.bool (decide (1=1)),.func (.func (261+1)) #[] #[]].toArray 184 (0,0)⟩]++[⟨true,bl,.cells (encs (lps.set k ⟨x.ln,p44,c44⟩)++junk).toArray 121 (0,0)⟩]++(FM++n44)) jdV ?_
    exact E50
   ·refine D175 ?_;refine rs5 ?_;refine Z4 ?_
    obtain rfl:nb=k:=by omega
    rw [List.take_of_length_le zO] at hof
    refine jkf rfl zq zK (fun hbt=>?_) (fun hbt=>?_)
    ·refine D148 ?_
     have hbe:c.butt=decide (1=1):=hbt.symm
     have hce:=jcV.1 hc0
     have hlL:c.line.toNat<lps.length:=by
      have h1:(jay b c.butt).length=nb:=by rw [hbe,←ji8 b zO,←hmap,List.length_map,hlen]
      omega
     obtain ⟨li,hli⟩:=Int.eq_ofNat_of_zero_le hce.1
     obtain ⟨sj,hsj⟩:=Int.eq_ofNat_of_zero_le hce.2.2.1
     obtain ⟨M1f,Fb,M2f,rfl,hofb,hset⟩:=hof.at hlL
     obtain ⟨bl,lc1,junk,hwv,rfl,hwl,hwc,hwn⟩:=jb8 how zO
     cases hwv
     rw [show c.line.toNat=li by omega] at hlL hofb hset
     obtain ⟨y,hy⟩: ∃y,y=lps.getD li default:=⟨_,rfl⟩
     rw [←hy] at hofb
     have hyl:y.ln∈hL b 1:=by rw [←hmap];exact List.mem_map.2 ⟨y,hy▸jak hlL,rfl⟩
     have hyf:y.ln.figs.length=ns:=(hwf y.ln hyl).1
     obtain ⟨bf,fc,junkf,hfv,rfl,hfl,hfc,hfn⟩:=jb8 hofb zO
     injection hfv with hyp _ hyc
     haveI hsf:=jfC (ss:=y.ln.figs) (junk:=junkf) (j:=c.st) (i:=sj) hsj zO f
     refine D72 ?_;refine Zs ?_
     refine jal rfl zq ?_;refine Z5 ?_;refine D29 ?_;refine Zs ?_;refine k_ld rfl zq (lp_rd (xs:=lps) (junk:=junk) hli hlL) ?_
     rw [←hy];refine Zs ?_;refine D145 ?_;refine D210 ?_
     have hy2:OwnS 9 1 (.slice y.p (y.ln.figs.set sj f).length y.c) (y.ln.figs.set sj f).length (encs (y.ln.figs.set sj f)) [⟨true,bf,.cells (encs (y.ln.figs.set sj f)++junkf).toArray 9 (0,0)⟩]:=by
      rw [hyp,hyc];exact E51
     have hnew:=hset ⟨⟨y.ln.lat,y.ln.figs.set sj f⟩,y.p,y.c⟩ _ hy2
     have hHalf:HalfO (.slice (some ⟨bl,0,none⟩) nb c27) nb (hL (setF b c f) 1) ([⟨true,bl,.cells (encs lps++junk).toArray 121 (0,0)⟩]++(M1f++[⟨true,bf,.cells (encs (y.ln.figs.set sj f)++junkf).toArray 9 (0,0)⟩]++M2f)):=by
      refine ⟨_,_,_,_,_,rfl,?_,?_,hnew,rfl⟩
      ·rw [jmh zO hbe,show c.line.toNat=li by omega,show c.st.toNat=sj by omega];have:=jgz hmap hlL (k:=sj) f y.p y.c
       rw [←hy] at this
       exact this
      ·rw [jcI hlL (by rw [←hy];simp [lpL])];exact how
     refine m.weak (h':=h++[⟨true,q3,.cells [.int .i64 b.wrong,.slice p14 ns c14,.slice wp nw wc,.slice (some ⟨bl,0,none⟩) nb c27].toArray 25 (0,0)⟩,⟨true,q4,.cells [.bool c.butt,.int .i64 c.line,.int .i64 c.st].toArray 37 (0,0)⟩,⟨true,q6,.cells [.int .i64 0,.slice none 0 0,.slice none 0 0,.slice none 0 0].toArray 25 (0,0)⟩]++n14++M0++([⟨true,bl,.cells (encs lps++junk).toArray 121 (0,0)⟩]++(M1f++[⟨true,bf,.cells (encs (y.ln.figs.set sj f)++junkf).toArray 9 (0,0)⟩]++M2f))) (jgt _ _ _ _) ?_
     exact E52
    ·refine D225 ?_
     have hHalf:HalfO (.slice p27 nb c27) nb (hL (setF b c f) 1) (W++FM):=⟨lps,p27,c27,W,FM,rfl,by rw [jo0 zO (fun e=>hbt e.symm)];exact hmap,how,hof,rfl⟩
     refine m.weak (h':=h++[⟨true,q3,.cells [.int .i64 b.wrong,.slice p14 ns c14,.slice wp nw wc,.slice p27 nb c27].toArray 25 (0,0)⟩,⟨true,q4,.cells [.bool c.butt,.int .i64 c.line,.int .i64 c.st].toArray 37 (0,0)⟩,⟨true,q6,.cells [.int .i64 0,.slice none 0 0,.slice none 0 0,.slice none 0 0].toArray 25 (0,0)⟩]++n14++M0++(W++FM)) (jgt _ _ _ _) ?_
     exact E52
  ·refine Z2 ?_;refine jfi (Post:=fun v=>v= .pointer (some ⟨q3,2,none⟩)) rfl zq (jht 0 zO) (fun H' hH=>jo1 m H' q3 0 zO) ?_
   rintro v rfl;refine D9 ?_;refine D0 ?_;refine rs7 ?_;refine Z2 ?_
   refine jal rfl zq ?_;refine Zs ?_;refine jaS rfl zq zK (Post:=fun v nz=>OwnS 121 2 v nw (encs lps0) nz) (fun H' hH=>f163_c m H' (rl.keeps (sq hH)) zO) ?_
   rintro v n27 o27;refine jaI (jad ?_);obtain ⟨p27,c27,rfl,hc27,r27⟩:=jap (B:=B) o27
   refine jal rfl zq ?_;refine D27 ?_;refine D151 ?_;refine rs5 ?_;refine Zs ?_
   refine jal rfl zq ?_;refine Z3 ?_;refine D182 ?_
   refine jai (fun nn l h'=> ∃(k:Nat) (lps:List Lp) (W FM:Hp),nn=nw-k∧(k≤nw)∧(lps.length=nw)∧(lps.map (·.ln)=hL b 0)∧(∀j,k≤j→lps.getD j default=lps0.getD j default)∧(OwnS 121 2 (.slice p27 nw c27) nw (encs lps) W)∧(OwnF (lps.take k) FM)∧(∃U:Nat→Value,l=((tbV b ps ns ks pw nw cw pb nb cb)::(cV c.butt c.line c.st)::(str f)::(.pointer (some ⟨q3,0,none⟩))::(.pointer (some ⟨q4,0,none⟩))::(U 5)::(.pointer (some ⟨q6,0,none⟩))::(U 7)::(.pointer (some ⟨q8,0,none⟩))::(.pointer (some ⟨q3,2,none⟩))::vw6 U 10 ((.agg halvesL.toArray)::(.int .i64 0)::vw13 U 18 ((.slice p27 nw c27)::(.int .i64 (nw:Int))::(.int .i64 (k:Int))::vw33 U 34 []))))∧h++[⟨true,q3,.cells [.int .i64 b.wrong,.slice p14 ns c14,.slice p27 nw c27,.slice pb nb cb].toArray 25 (0,0)⟩,⟨true,q4,.cells [.bool c.butt,.int .i64 c.line,.int .i64 c.st].toArray 37 (0,0)⟩,⟨true,q6,.cells [.int .i64 0,.slice none 0 0,.slice none 0 0,.slice none 0 0].toArray 25 (0,0)⟩]++n14++[⟨true,q8,.cells [str (hwS 0),.bool (decide (0=1)),.func (.func (261+0)) #[] #[]].toArray 184 (0,0)⟩]++W++FM=h') _ ⟨0,lps0,n27,[],rfl,by omega,hll,hle,fun j _=>rfl,o27,by rw [List.take_zero];exact .nil,exU rfl,(by rw [List.append_nil])⟩ ?_;rintro nn l h' ⟨k,lps,W,FM,rfl,hk,hlen,hmap,hsame,how,hof,⟨U,rfl⟩,rfl⟩ hnext2;refine rs1 ?_;refine jan rfl zq (fun hc=>?_) (fun hc=>?_)
   ·refine D191 ?_
    have rdW:=how.rd (B:=B) (List.Sublist.refl _)
    obtain ⟨bl,lc1,junk,hwv,rfl,hwl,hwc,hwn⟩:=jb8 how zO
    cases hwv
    have hxk:=hsame k (Nat.le_refl k)
    obtain ⟨x,hx⟩: ∃x,x=lps0.getD k default:=⟨_,rfl⟩
    rw [←hx] at hxk
    have hxm:x∈lps0:=hx▸jak zO
    obtain ⟨hxc,rdf0⟩:=hfig x hxm
    have hxf:x.ln.figs.length=ns:=(hwf x.ln (by rw [←hle];exact List.mem_map.2 ⟨x,hxm,rfl⟩)).1
    have rdf:=rdf0 (by have:=rd.n1;omega)
    refine rr6 ?_;refine Zs ?_;refine D29 ?_;refine jcU (vs:=lpL x) rfl zq rfl (hxk▸rdW.eat k zO zO) ?_;refine jau rfl zq (fun q11=>k_hp (jad ?_));refine Zs ?_;refine D194 ?_;refine D88 ?_;refine Zs ?_
    refine jal rfl zq ?_;refine Z4 ?_;refine D106 ?_
    rintro v n44 o44;refine jaI (jad ?_);obtain ⟨p44,c44,rfl,hc44,r44⟩:=jap (B:=B) o44
    refine D29 ?_;refine Zs ?_
    haveI hsl2:=jjK (xs:=lps) (junk:=junk) (i:=k) zO (x:=⟨x.ln,p44,c44⟩) (by rw [hxk])
    refine D210 ?_;refine m.weak (h':=h++[⟨true,q3,.cells [.int .i64 b.wrong,.slice p14 ns c14,.slice (some ⟨bl,0,none⟩) nw c27,.slice pb nb cb].toArray 25 (0,0)⟩,⟨true,q4,.cells [.bool c.butt,.int .i64 c.line,.int .i64 c.st].toArray 37 (0,0)⟩,⟨true,q6,.cells [.int .i64 0,.slice none 0 0,.slice none 0 0,.slice none 0 0].toArray 25 (0,0)⟩]++n14++[⟨true,q8,.cells [str (hwS 0),.bool (decide (0=1)),.func (.func (261+0)) #[] #[]].toArray 184 (0,0)⟩]++[⟨true,bl,.cells (encs (lps.set k ⟨x.ln,p44,c44⟩)++junk).toArray 121 (0,0)⟩]++(FM++n44)) jdV ?_
    exact E50
   ·refine D175 ?_;refine rs5 ?_;refine Z4 ?_
    obtain rfl:nw=k:=by omega
    rw [List.take_of_length_le zO] at hof
    refine jkf rfl zq zK (fun hbt=>?_) (fun hbt=>?_)
    ·refine D148 ?_
     have hbe:c.butt=decide (0=1):=hbt.symm
     have hce:=jcV.1 hc0
     have hlL:c.line.toNat<lps.length:=by
      have h1:(jay b c.butt).length=nw:=by rw [hbe,←ji8 b zO,←hmap,List.length_map,hlen]
      omega
     obtain ⟨li,hli⟩:=Int.eq_ofNat_of_zero_le hce.1
     obtain ⟨sj,hsj⟩:=Int.eq_ofNat_of_zero_le hce.2.2.1
     obtain ⟨M1f,Fb,M2f,rfl,hofb,hset⟩:=hof.at hlL
     obtain ⟨bl,lc1,junk,hwv,rfl,hwl,hwc,hwn⟩:=jb8 how zO
     cases hwv
     rw [show c.line.toNat=li by omega] at hlL hofb hset
     obtain ⟨y,hy⟩: ∃y,y=lps.getD li default:=⟨_,rfl⟩
     rw [←hy] at hofb
     have hyl:y.ln∈hL b 0:=by rw [←hmap];exact List.mem_map.2 ⟨y,hy▸jak hlL,rfl⟩
     have hyf:y.ln.figs.length=ns:=(hwf y.ln hyl).1
     obtain ⟨bf,fc,junkf,hfv,rfl,hfl,hfc,hfn⟩:=jb8 hofb zO
     injection hfv with hyp _ hyc
     haveI hsf:=jfC (ss:=y.ln.figs) (junk:=junkf) (j:=c.st) (i:=sj) hsj zO f
     refine D72 ?_;refine Zs ?_
     refine jal rfl zq ?_;refine Z5 ?_;refine D29 ?_;refine Zs ?_;refine k_ld rfl zq (lp_rd (xs:=lps) (junk:=junk) hli hlL) ?_
     rw [←hy];refine Zs ?_;refine D145 ?_;refine D210 ?_
     have hy2:OwnS 9 1 (.slice y.p (y.ln.figs.set sj f).length y.c) (y.ln.figs.set sj f).length (encs (y.ln.figs.set sj f)) [⟨true,bf,.cells (encs (y.ln.figs.set sj f)++junkf).toArray 9 (0,0)⟩]:=by
      rw [hyp,hyc];exact E51
     have hnew:=hset ⟨⟨y.ln.lat,y.ln.figs.set sj f⟩,y.p,y.c⟩ _ hy2
     have hHalf:HalfO (.slice (some ⟨bl,0,none⟩) nw c27) nw (hL (setF b c f) 0) ([⟨true,bl,.cells (encs lps++junk).toArray 121 (0,0)⟩]++(M1f++[⟨true,bf,.cells (encs (y.ln.figs.set sj f)++junkf).toArray 9 (0,0)⟩]++M2f)):=by
      refine ⟨_,_,_,_,_,rfl,?_,?_,hnew,rfl⟩
      ·rw [jmh zO hbe,show c.line.toNat=li by omega,show c.st.toNat=sj by omega];have:=jgz hmap hlL (k:=sj) f y.p y.c
       rw [←hy] at this
       exact this
      ·rw [jcI hlL (by rw [←hy];simp [lpL])];exact how
     refine m.weak (h':=h++[⟨true,q3,.cells [.int .i64 b.wrong,.slice p14 ns c14,.slice (some ⟨bl,0,none⟩) nw c27,.slice pb nb cb].toArray 25 (0,0)⟩,⟨true,q4,.cells [.bool c.butt,.int .i64 c.line,.int .i64 c.st].toArray 37 (0,0)⟩,⟨true,q6,.cells [.int .i64 0,.slice none 0 0,.slice none 0 0,.slice none 0 0].toArray 25 (0,0)⟩]++n14++([⟨true,bl,.cells (encs lps++junk).toArray 121 (0,0)⟩]++(M1f++[⟨true,bf,.cells (encs (y.ln.figs.set sj f)++junkf).toArray 9 (0,0)⟩]++M2f))) (jgt _ _ _ _) ?_
     exact E53
    ·refine D225 ?_
     have hHalf:HalfO (.slice p27 nw c27) nw (hL (setF b c f) 0) (W++FM):=⟨lps,p27,c27,W,FM,rfl,by rw [jo0 zO (fun e=>hbt e.symm)];exact hmap,how,hof,rfl⟩
     refine m.weak (h':=h++[⟨true,q3,.cells [.int .i64 b.wrong,.slice p14 ns c14,.slice p27 nw c27,.slice pb nb cb].toArray 25 (0,0)⟩,⟨true,q4,.cells [.bool c.butt,.int .i64 c.line,.int .i64 c.st].toArray 37 (0,0)⟩,⟨true,q6,.cells [.int .i64 0,.slice none 0 0,.slice none 0 0,.slice none 0 0].toArray 25 (0,0)⟩]++n14++(W++FM)) (jgt _ _ _ _) ?_
     exact E53
 ·refine D175 ?_;refine D2 ?_
  obtain rfl:i=2:=by omega
  obtain ⟨_,_,hw1,hwr⟩:=(hz2 zO).rd (B:=B)
  cases hw1
  obtain ⟨_,_,hb1,hbr⟩:=(hz3 zO).rd (B:=B)
  cases hb1
  refine D206 ?_;refine D194 ?_;refine D4 ?_;refine jac (h++n14++M0++M1) rfl Tryz.func112 rfl jaa ?_;refine D5 ?_
  exact ⟨n14++M0++M1,p14,c14,wp,wc,bp,bc,by simp only [List.append_assoc],by rw [tbV,tbL,setF_wrong],⟨by rw [jcE];exact r14.keeps (List.Sublist.trans (List.sublist_append_left _ _) (List.sublist_append_left _ _)),hc14,by omega,hwr.keeps (List.Sublist.trans (List.sublist_append_right _ _) (List.sublist_append_left _ _)),by omega,hbr.keeps (List.sublist_append_right _ _),by omega,jnY rd.sm hf⟩⟩
def figS (b:Tb) (c:Ce) (f:Str):Int:=if tbS b≠0 then tbS b else if c∉jab b then 6 else if jaY f=false then 3 else 0
def wasP (b:Tb) (c:Ce) (f:Str):List Int:=if figS b c f=0 then jar (figT b c) else [0,0,0]
def nowP (b:Tb) (c:Ce) (f:Str):List Int:=if figS b c f=0 then jar f else [0,0,0]
theorem jkt {b:Tb} {c:Ce} {f:Str} (h:figS b c f=0):tbS b=0∧c∈jab b∧jaY f=true:=by
 unfold figS at h
 split at h
 ·contradiction
 ·rename_i h1
  split at h
  ·cases h
  ·rename_i h2
   split at h
   ·cases h
   ·rename_i h3
    exact ⟨Classical.not_not.1 h1,Classical.not_not.1 h2,by simpa using h3⟩
abbrev zeroL:List Value:=[.int .i64 0,.slice none 0 0,.slice none 0 0,.slice none 0 0]
def TabO (B:Array Obj) (s:Int) (b:Tb) (new:Hp) (v:Value):Prop:= ∃x0 y1 z1 w1 y2 z2 w2 y3 z3 w3,v= .tuple [.agg [Value.int .i64 x0,.slice y1 z1 w1,.slice y2 z2 w2,.slice y3 z3 w3].toArray,.int .i64 s].toArray∧(s≠0→[Value.int .i64 x0,.slice y1 z1 w1,.slice y2 z2 w2,.slice y3 z3 w3]=zeroL)∧(s=0→ ∃ps ns ks pw nw cw pb nb cb,[Value.int .i64 x0,.slice y1 z1 w1,.slice y2 z2 w2,.slice y3 z3 w3]=tbL b ps ns ks pw nw cw pb nb cb∧RawTb B new b ps ns ks pw nw cw pb nb cb)
theorem jkP {s:Int} {b:Tb} (h:s≠0):TabO B s b [] (.tuple [.agg zeroL.toArray,.int .i64 s].toArray):=⟨_,_,_,_,_,_,_,_,_,_,rfl,fun _=>rfl,fun e=>absurd e h⟩
theorem jls {p o:List Int} (hp:PtOk p) (ho:PtOk o):PtOk (jdU p o):=by
 have e: ∀j,j<3→(jdU p o).getD j 0=if p.getD j 0= -1 then o.getD j 0 else p.getD j 0:=fun j hj=>by
  rw [jdU,List.getD_eq_getElem?_getD,List.getElem?_map,List.getElem?_range hj];rfl
 refine ⟨by simp [jdU],fun j=>?_,fun j hj=>?_⟩
 ·by_cases hj:j<3
  ·rw [e j hj];split
   ·exact ho.lo j
   ·exact hp.lo j
  ·rw [List.getD_eq_getElem?_getD,List.getElem?_eq_none (by simp [jdU];omega)];decide
 ·rw [e j hj];split
  ·exact ho.hi j hj
  ·exact hp.hi j hj
theorem digS_le (n:Nat):(digS n).length≤2:=by unfold digS;split<;>simp
theorem jg7 (x:Int):(jdR x).length≤2:=by unfold jdR;split;simp;exact digS_le _
theorem textS_le {v:List Int} (h:v.length=3):(jdZ v).length≤8:=by
 match v,h with
 |[a,b,c],_=>
  have h1:=jg7 a
  have h2:=jg7 b
  have h3:=jg7 c
  simp [jdZ,jnc]
  omega
def jeX (b:Tb) (c:Ce) (f:Str):List Int:=jdU (wasP b c f) (nowP b c f)
def jiU (b:Tb) (c:Ce) (f:Str):Int:=if figS b c f≠0 then figS b c f else if jdU (nowP b c f) (wasP b c f)≠jeX b c f then 9 else jaZ (setF b c (jdZ (jeX b c f))) 0
def putS (b:Tb) (c:Ce) (f:Str):Int:=if figS b c f≠0 then figS b c f else jaZ (setF b c f) 0
theorem callB161:jbz Tryz.prog 161=true:=by kernel_rfl
theorem joy {lps:List Lp} {ls:List Ln} (h:lps.map (·.ln)=ls) (k:Nat):(lps.getD k default).ln=ls.getD k default:=by
 subst h
 rw [List.getD_eq_getElem?_getD,List.getD_eq_getElem?_getD,List.getElem?_map];cases lps[k]?<;>rfl
theorem figT_sm {b:Tb} (h:TbSm b) (c:Ce):(figT b c).length≤100000:=by
 have gen: ∀ls:List Ln,(∀l∈ls,l.figs.length≤1000∧ ∀f∈l.figs,f.length≤100000)→ ∀i j,((ls.getD i default).figs.getD j []).length≤100000:=fun ls hl i j=>by
  by_cases hi:i<ls.length
  ·by_cases hj:j<(ls.getD i default).figs.length
   ·exact (hl _ (jak hi)).2 _ (jak (l:=(ls.getD i default).figs) hj)
   ·rw [List.getD_eq_getElem?_getD (l:=(ls.getD i default).figs),List.getElem?_eq_none zO];simp
  ·rw [List.getD_eq_getElem?_getD (l:=ls),List.getElem?_eq_none zO];simp [default,instInhabitedLn.default]
 unfold figT jbs jay
 split
 ·exact gen _ h.but _ _
 ·exact gen _ h.wat _ _
theorem f109_c (m:Md Tryz.prog B) (h:Hp) {b:Tb} {ps:Option Addr} {ns ks:Nat} {pw:Option Addr} {nw cw:Nat} {pb:Option Addr} {nb cb:Nat} (ra:RawTb B h b ps ns ks pw nw cw pb nb cb) (c:Ce) (f:Str) (hf:f.length≤100000):FnC m 109 #[tbV b ps ns ks pw nw cw pb nb cb,cV c.butt c.line c.st,str f] h fun v h'=>h'=h∧v= .tuple [.agg (ints (wasP b c f)).toArray,.agg (ints (nowP b c f)).toArray,.int .i64 (figS b c f)].toArray:=by
 refine jae Tryz.func109 rfl rfl (l:=(tbV b ps ns ks pw nw cw pb nb cb)::(cV c.butt c.line c.st)::(str f)::uu58) rfl ?_
 intro cf cs K hK
 refine rs5 ?_;refine jaQ rfl zq (fun q3=>k_hp (jad ?_));refine jaQ rfl zq (fun q4=>k_hp (jad ?_));refine jau rfl zq (fun q6=>k_hp (jad ?_));refine jau rfl zq (fun q7=>k_hp (jad ?_));refine D150 ?_;refine D186 ?_;refine D78 ?_
 rintro v rfl;refine D235 ?_
 refine ja4 rfl zq (fun hc=>?_) (fun hc=>?_)
 ·refine D148 ?_;refine rs6 ?_;refine D74 ?_;refine D74 ?_;refine Zs ?_;refine D22 ?_;refine D201 ?_;refine D133 ?_;refine D5 ?_
  have eb:figS b c f=tbS b:=by rw [figS,if_pos hc]
  exact ⟨rfl,by rw [wasP,nowP,eb,if_neg hc,if_neg hc];rfl⟩
 ·refine D165 ?_;refine D2 ?_
  have hz0:tbS b=0:=by omega
  have hk:=ja6.1 hz0
  refine jcj [0,1,2,3,4,5] zK zK (List.Sublist.refl _) ?_;refine DrawT.leaf [(0,.read),(2,.read),(1,.keep),(3,.keep),(4,.keep),(5,.pure)] zK ?_;refine Z2 ?_;refine D25 ?_;rintro v nz ⟨qs,rfl,rfl⟩;refine jaI (jad ?_);refine D36 ?_
  rintro v n9 ⟨q9,rfl,sh⟩;refine jaI (jad ?_);refine jfi (Post:=fun v=>v= .int .i64 (ownC b c)) rfl zq jmr (fun H' hH=>by
   have hs9:n9.Sublist H':=List.Sublist.trans zX hH
   simpa [ownC] using f149_c m H' (sh.keeps hs9) (c:=c) (RdN.keepsN (jlL (q:=qs)) hH)) ?_
  rintro v rfl;refine D235 ?_
  refine ja4 rfl zq (fun hc=>?_) (fun hc=>?_)
  ·refine D148 ?_;refine rs6 ?_;refine D74 ?_;refine D74 ?_;refine Zs ?_;refine D22 ?_;refine D201 ?_;refine D133 ?_;refine D5 ?_
   have hno:c∉jab b:=fun e=>by
    have hcc:=hc
    rw [ownC,if_pos e] at hcc
    exact hcc rfl
   have e6:figS b c f=6:=by rw [figS,if_neg (fun e=>e hz0),if_pos hno]
   exact ⟨rfl,by rw [wasP,nowP,e6,ownC,if_neg hno];rfl⟩
  ·refine D149 ?_;refine D197 ?_;refine jaj (Post:=fun v=>v=_) rfl zq zK (fun H' hH=>f119_c m H' _ hf) ?_
   rintro v rfl;refine D9 ?_;refine Z3 ?_;refine D64 ?_;refine D150 ?_;refine D2 ?_
   cases hfo:jaY f
   refine D206 ?_;refine D40 ?_;refine D148 ?_;refine rs5 ?_;refine D74 ?_;refine D74 ?_;refine D22 ?_
   haveI hsz:SetSeg (ints (jar f)) 0 [.int .i64 0,.int .i64 0,.int .i64 0] [.int .i64 0,.int .i64 0,.int .i64 0]:=jic (by rw [List.length_map,(jaW f).len];rfl)
   refine D201 ?_;refine D133 ?_;refine D5 ?_
   rotate_left
   refine D206 ?_;refine D38 ?_;refine D165 ?_
   all_goals
    have hin:c∈jab b:=Classical.byContradiction fun e=>by
     have hcc:=hc
     rw [ownC,if_neg e] at hcc
     omega
    have hht:=(jdp hin).1
   ·have hce:=jcV.1 hht
    obtain ⟨li,hli⟩:=Int.eq_ofNat_of_zero_le hce.1
    obtain ⟨sj,hsj⟩:=Int.eq_ofNat_of_zero_le hce.2.2.1
    have hf2:(figT b c).length≤100000:=figT_sm ra.sm c
    have rd:=ra.rd hk
    have hsl:=rd.sl
    have e0:figS b c f=0:=by rw [figS,if_neg (fun e=>e hz0),if_neg (fun e=>e hin),if_neg (by rw [hfo];simp)]
    refine rr3 ?_;refine Z2 ?_;refine D150 ?_;refine rs2 ?_;refine D155 ?_;refine jde (fun hc=>?_) (fun hc=>?_)
    ·first|replace hc:=of_decide_eq_true hc|replace hc:=of_decide_eq_false hc|skip
     refine rr3 ?_;refine Z2 ?_;refine D150 ?_;refine D63 ?_;have hlines: ∃p n c',RdLn B h (.slice p n c') n (jay b c.butt)∧n≤1000∧(c.butt=true→p=pb∧n=nb∧c'=cb)∧(c.butt=false→p=pw∧n=nw∧c'=cw):=by
      cases hcb:c.butt with
      |true=>exact ⟨pb,nb,cb,ra.u,ra.un,fun _=>⟨rfl,rfl,rfl⟩,by intro e;cases e⟩
      |false=>exact ⟨pw,nw,cw,ra.w,ra.wn,(by intro e;cases e),fun _=>⟨rfl,rfl,rfl⟩⟩
     obtain ⟨pl,nl,cl,hln,hnl,hl1,hl2⟩:=hlines
     obtain ⟨lps,hle,rl,hfig⟩:=hln
     have hll:=rl.elen zA
     have hlen:(jay b c.butt).length=nl:=by rw [←hle,List.length_map,hll]
     have hlx:li<nl:=by omega
     obtain ⟨x,hx⟩: ∃x,x=lps.getD li default:=⟨_,rfl⟩
     have hxm:x∈lps:=hx▸jak zO
     obtain ⟨hxc,rdf0⟩:=hfig x hxm
     have hxl:x.ln=jbs b c:=by rw [hx,joy hle,jbs,show c.line.toNat=li by omega]
     have hxf:x.ln.figs.length=ns:=by rw [hxl,((hk.lines c.butt).ok _ (jeq hht)).len,hsl]
     have hfg:figT b c=x.ln.figs.getD sj []:=by rw [figT,←hxl,show c.st.toNat=sj by omega]
     obtain ⟨rlb,rlo,hrlp⟩:=rl.ptr zO
     have rdf:=rdf0 zO
     obtain ⟨rfb,rfo,hrfp⟩:=rdf.ptr zO
     have rl':=rl
     rw [hrlp] at rl'
     have rdf':=rdf
     rw [hrfp] at rdf'
     first
      |(have hq:=hl1 hc;obtain ⟨rfl,rfl,rfl⟩:=hq)
      |(have hq:=hl2 hc;obtain ⟨rfl,rfl,rfl⟩:=hq)
     refine Z4 ?_;refine jdl rfl zq hrlp zO zO ?_;refine Zs ?_;refine k_ld (v:= .slice x.p x.ln.figs.length x.c) rfl zq (hx▸rl'.fat li 1 zO zO rfl) ?_;refine Zs ?_;refine jdl rfl zq hrfp zO zO ?_;refine k_ld rfl zq (rdf'.sat sj zO zO) ?_
     rw [←hfg];refine D97 ?_
     rintro v rfl;refine D9 ?_;refine Z3 ?_;refine D64 ?_;refine D151 ?_
     haveI hs1:Seg (ints (jar f)) 0 3 (ints (jar f)):=seg_all (by rw [List.length_map,(jaW f).len])
     haveI hs2:Seg (ints (jar (figT b c))) 0 3 (ints (jar (figT b c))):=seg_all (by rw [List.length_map,(jaW (figT b c)).len])
     refine D92 ?_;refine D55 ?_;refine D55 ?_;refine D105 ?_;refine D105 ?_;refine D146 ?_;refine D133 ?_;refine D5 ?_
     exact ⟨rfl,by rw [wasP,nowP,e0];rfl⟩
    ·first|replace hc:=of_decide_eq_true hc|replace hc:=of_decide_eq_false hc|skip
     refine D7 ?_;refine D2 ?_;refine D63 ?_
     have hlines: ∃p n c',RdLn B h (.slice p n c') n (jay b c.butt)∧n≤1000∧(c.butt=true→p=pb∧n=nb∧c'=cb)∧(c.butt=false→p=pw∧n=nw∧c'=cw):=by
      cases hcb:c.butt with
      |true=>exact ⟨pb,nb,cb,ra.u,ra.un,fun _=>⟨rfl,rfl,rfl⟩,by intro e;cases e⟩
      |false=>exact ⟨pw,nw,cw,ra.w,ra.wn,(by intro e;cases e),fun _=>⟨rfl,rfl,rfl⟩⟩
     obtain ⟨pl,nl,cl,hln,hnl,hl1,hl2⟩:=hlines
     obtain ⟨lps,hle,rl,hfig⟩:=hln
     have hll:=rl.elen zA
     have hlen:(jay b c.butt).length=nl:=by rw [←hle,List.length_map,hll]
     have hlx:li<nl:=by omega
     obtain ⟨x,hx⟩: ∃x,x=lps.getD li default:=⟨_,rfl⟩
     have hxm:x∈lps:=hx▸jak zO
     obtain ⟨hxc,rdf0⟩:=hfig x hxm
     have hxl:x.ln=jbs b c:=by rw [hx,joy hle,jbs,show c.line.toNat=li by omega]
     have hxf:x.ln.figs.length=ns:=by rw [hxl,((hk.lines c.butt).ok _ (jeq hht)).len,hsl]
     have hfg:figT b c=x.ln.figs.getD sj []:=by rw [figT,←hxl,show c.st.toNat=sj by omega]
     obtain ⟨rlb,rlo,hrlp⟩:=rl.ptr zO
     have rdf:=rdf0 zO
     obtain ⟨rfb,rfo,hrfp⟩:=rdf.ptr zO
     have rl':=rl
     rw [hrlp] at rl'
     have rdf':=rdf
     rw [hrfp] at rdf'
     first
      |(have hq:=hl1 hc;obtain ⟨rfl,rfl,rfl⟩:=hq)
      |(have hq:=hl2 hc;obtain ⟨rfl,rfl,rfl⟩:=hq)
     refine Z4 ?_;refine jdl rfl zq hrlp zO zO ?_;refine Zs ?_;refine k_ld (v:= .slice x.p x.ln.figs.length x.c) rfl zq (hx▸rl'.fat li 1 zO zO rfl) ?_;refine Zs ?_;refine jdl rfl zq hrfp zO zO ?_;refine k_ld rfl zq (rdf'.sat sj zO zO) ?_
     rw [←hfg];refine D97 ?_
     rintro v rfl;refine D9 ?_;refine Z3 ?_;refine D64 ?_;refine D151 ?_
     haveI hs1:Seg (ints (jar f)) 0 3 (ints (jar f)):=seg_all (by rw [List.length_map,(jaW f).len])
     haveI hs2:Seg (ints (jar (figT b c))) 0 3 (ints (jar (figT b c))):=seg_all (by rw [List.length_map,(jaW (figT b c)).len])
     refine D92 ?_;refine D55 ?_;refine D55 ?_;refine D105 ?_;refine D105 ?_;refine D146 ?_;refine D133 ?_;refine D5 ?_
     exact ⟨rfl,by rw [wasP,nowP,e0];rfl⟩
   ·have e3:figS b c f=3:=by rw [figS,if_neg (fun e=>e hz0),if_neg (fun e=>e hin),if_pos hfo]
    exact ⟨rfl,by rw [wasP,nowP,e3];rfl⟩
theorem jdW (b:Tb) (c:Ce) (f:Str):PtOk (wasP b c f):=by unfold wasP;split;exact jaW _;exact PtOk.zero
theorem jd5 (b:Tb) (c:Ce) (f:Str):PtOk (nowP b c f):=by unfold nowP;split;exact jaW _;exact PtOk.zero
theorem f111_c (m:Md Tryz.prog B) (h:Hp) {b:Tb} {ps:Option Addr} {ns ks:Nat} {pw:Option Addr} {nw cw:Nat} {pb:Option Addr} {nb cb:Nat} (ra:RawTb B h b ps ns ks pw nw cw pb nb cb):FnC m 111 #[tbV b ps ns ks pw nw cw pb nb cb] h fun v h'=>h'=h∧ ∃x0 y1 z1 w1 y2 z2 w2 y3 z3 w3,v= .tuple [.agg [Value.int .i64 x0,.slice y1 z1 w1,.slice y2 z2 w2,.slice y3 z3 w3].toArray,.int .i64 (jaZ b 0)].toArray∧(jaZ b 0≠0→[Value.int .i64 x0,.slice y1 z1 w1,.slice y2 z2 w2,.slice y3 z3 w3]=zeroL)∧(jaZ b 0=0→[Value.int .i64 x0,.slice y1 z1 w1,.slice y2 z2 w2,.slice y3 z3 w3]=(tbL b ps ns ks pw nw cw pb nb cb)):=by
 refine jae Tryz.func111 rfl rfl (l:=(tbV b ps ns ks pw nw cw pb nb cb)::uu15) rfl ?_
 intro cf cs K hK
 refine rs3 ?_;refine jaQ rfl zq (fun q1=>k_hp (jad ?_));refine jau rfl zq (fun q2=>k_hp (jad ?_));refine D150 ?_;refine rs8 ?_;refine Zs ?_;refine jaS rfl zq zK (Post:=fun v nz=>jf2 B b (tbL b ps ns ks pw nw cw pb nb cb) (jaZ b 0) nz v) (fun H' hH=>f88_c m H' (ra.keeps (sq hH)) callB161 (fun hk K q hKs hs=>by simpa using f161_c m K _)) ?_
 rintro v n8 ⟨qp,p8,m8,c8,rfl,hz⟩;refine jaI (jad ?_);refine Z3 ?_
 refine jau rfl zq (fun q4=>k_hp (jad ?_));refine D22 ?_;refine D199 ?_
 refine ja4 rfl zq (fun hc=>?_) (fun hc=>?_);refine D148 ?_;refine rs4 ?_;refine D58 ?_;refine Zs ?_
 rotate_left
 refine D149 ?_;refine D186 ?_
 all_goals
  refine D201 ?_;refine jac (h) rfl Tryz.func111 rfl jaa ?_;refine D5 ?_
 ·have hz0:jaZ b 0=0:=by omega
  exact ⟨rfl,_,_,_,_,_,_,_,_,_,_,by rw [hz0],fun e=>absurd hz0 e,fun _=>rfl⟩
 ·exact ⟨rfl,_,_,_,_,_,_,_,_,_,_,rfl,fun _=>rfl,fun e=>absurd e zD⟩
theorem f60_c (m:Md Tryz.prog B) (h:Hp) {b:Tb} {ps:Option Addr} {ns ks:Nat} {pw:Option Addr} {nw cw:Nat} {pb:Option Addr} {nb cb:Nat} (ra:RawTb B h b ps ns ks pw nw cw pb nb cb) (c:Ce) (f:Str) (hf:f.length≤100000):FnC m 60 #[tbV b ps ns ks pw nw cw pb nb cb,cV c.butt c.line c.st,str f] h fun v h'=> ∃new,h'=h++new∧TabO B (putS b c f) (setF b c f) new v:=by
 refine jae Tryz.func60 rfl rfl (l:=(tbV b ps ns ks pw nw cw pb nb cb)::(cV c.butt c.line c.st)::(str f)::uu27) rfl ?_
 intro cf cs K hK
 refine rs4 ?_;refine jaQ rfl zq (fun q3=>k_hp (jad ?_));refine jaQ rfl zq (fun q4=>k_hp (jad ?_));refine jau rfl zq (fun q6=>k_hp (jad ?_));refine D150 ?_;refine rs13 ?_;refine Z3 ?_;refine D77 ?_
 rintro v rfl;refine D207 ?_
 refine jau rfl zq (fun q8=>k_hp (jad ?_));refine jau rfl zq (fun q9=>k_hp (jad ?_));refine D239 ?_;refine D199 ?_
 refine ja4 rfl zq (fun hc=>?_) (fun hc=>?_)
 ·refine D148 ?_;refine rs4 ?_;refine D58 ?_;refine Zs ?_;refine D201 ?_;refine jac (h) rfl Tryz.func60 rfl jaa ?_;refine D5 ?_
  have e1:putS b c f=figS b c f:=by rw [putS,if_pos hc]
  exact ⟨[],by simp,by rw [e1];exact jkP hc⟩
 ·refine D165 ?_
  have ef:figS b c f=0:=by omega
  obtain ⟨hz0,hin,hfo⟩:=jkt ef
  have hk:=ja6.1 hz0
  have hht:=(jdp hin).1
  have rd:=ra.rd hk
  have e0:putS b c f=jaZ (setF b c f) 0:=by rw [putS,if_neg (fun e=>e ef)]
  refine rr9 ?_;refine Z3 ?_;refine jaS rfl zq zK (Post:=fun v nz=> ∃ps' ks' pw' cw' pb' cb',v=tbV (setF b c f) ps' ns ks' pw' nw cw' pb' nb cb'∧RawTb B nz (setF b c f) ps' ns ks' pw' nw cw' pb' nb cb') (fun H' hH=>CallF.mono (f112_c m H' (rd.keeps (sq hH)) hht f hf) fun v h' ⟨nz,p1,k1,p2,k2,p3,k3,e1,e2,e3⟩=>⟨nz,e1,p1,k1,p2,k2,p3,k3,e2,e3⟩) ?_;rintro v n37 ⟨p1,k1,p2,k2,p3,k3,rfl,ra2⟩;refine jaI (jad ?_);refine jaj (Post:=fun v=> ∃x0 y1 z1 w1 y2 z2 w2 y3 z3 w3,v= .tuple [.agg [Value.int .i64 x0,.slice y1 z1 w1,.slice y2 z2 w2,.slice y3 z3 w3].toArray,.int .i64 (jaZ (setF b c f) 0)].toArray∧(jaZ (setF b c f) 0≠0→[Value.int .i64 x0,.slice y1 z1 w1,.slice y2 z2 w2,.slice y3 z3 w3]=zeroL)∧(jaZ (setF b c f) 0=0→[Value.int .i64 x0,.slice y1 z1 w1,.slice y2 z2 w2,.slice y3 z3 w3]=tbL (setF b c f) p1 ns k1 p2 nw k2 p3 nb k3)) rfl zq zK (fun H' hH=>f111_c m H' (ra2.keeps (List.Sublist.trans (List.sublist_append_right _ _) hH))) ?_;rintro v ⟨x0,y1,z1,w1,y2,z2,w2,y3,z3,w3,rfl,ha1,ha2⟩;refine D9 ?_;refine Z2 ?_;refine D201 ?_;refine jac (h++n37) rfl Tryz.func60 rfl jaa ?_;refine D5 ?_
  exact E54
theorem f53_c (m:Md Tryz.prog B) (h:Hp) {b:Tb} {ps:Option Addr} {ns ks:Nat} {pw:Option Addr} {nw cw:Nat} {pb:Option Addr} {nb cb:Nat} (ra:RawTb B h b ps ns ks pw nw cw pb nb cb) (c:Ce) (f:Str) (hf:f.length≤100000):FnC m 53 #[tbV b ps ns ks pw nw cw pb nb cb,cV c.butt c.line c.st,str f] h fun v h'=> ∃new,h'=h++new∧TabO B (jiU b c f) (setF b c (jdZ (jeX b c f))) new v:=by
 refine jae Tryz.func53 rfl rfl (l:=(tbV b ps ns ks pw nw cw pb nb cb)::(cV c.butt c.line c.st)::(str f)::uu38) rfl ?_
 intro cf cs K hK
 refine rs4 ?_;refine jaQ rfl zq (fun q3=>k_hp (jad ?_));refine jaQ rfl zq (fun q4=>k_hp (jad ?_));refine jau rfl zq (fun q6=>k_hp (jad ?_));refine D0 ?_;refine rs13 ?_;refine Z3 ?_;refine D77 ?_
 rintro v rfl;refine D207 ?_
 refine jau rfl zq (fun q8=>k_hp (jad ?_));refine jau rfl zq (fun q9=>k_hp (jad ?_));refine D239 ?_;refine D218 ?_
 refine ja4 rfl zq (fun hc=>?_) (fun hc=>?_)
 ·refine D148 ?_;refine rs4 ?_;refine D58 ?_;refine Zs ?_;refine D201 ?_;refine jac (h) rfl Tryz.func53 rfl jaa ?_;refine D5 ?_
  have e1:jiU b c f=figS b c f:=by rw [jiU,if_pos hc]
  exact ⟨[],by simp,by rw [e1];exact jkP hc⟩
 ·refine D165 ?_
  have ef:figS b c f=0:=by omega
  obtain ⟨hz0,hin,hfo⟩:=jkt ef
  have hk:=ja6.1 hz0
  have hht:=(jdp hin).1
  have rd:=ra.rd hk
  have hbo:PtOk (jeX b c f):=jls (jdW b c f) (jd5 b c f)
  refine rr5 ?_;refine jcC rfl zq (jdW b c f).len ?_;refine jcC rfl zq (jd5 b c f).len ?_;refine jaj (Post:=fun v=>v= .agg (ints (jeX b c f)).toArray) rfl zq zK (fun H' hH=>f110_c m H' (jdW b c f).len (jd5 b c f).len) ?_;rintro v rfl;refine D9 ?_
  refine jau rfl zq (fun q11=>k_hp (jad ?_));refine jd9 rfl zq hbo.len (by rw [hbo.len];rfl) ?_;refine D151 ?_;refine D2 ?_;refine D129 ?_;refine jcC rfl zq (jd5 b c f).len ?_;refine jcC rfl zq (jdW b c f).len ?_;refine jcC rfl zq hbo.len ?_;refine jaj (Post:=fun v=>v= .agg (ints (jdU (nowP b c f) (wasP b c f))).toArray) rfl zq zK (fun H' hH=>f110_c m H' (jd5 b c f).len (jdW b c f).len) ?_;rintro v rfl;refine D9 ?_
  refine k_neqA3 rfl zq zK zK (jls (jd5 b c f) (jdW b c f)).len hbo.len (fun hne=>?_) (fun hne=>?_)
  ·refine D148 ?_;refine rs3 ?_;refine D58 ?_;refine D201 ?_;refine jac (h) rfl Tryz.func53 rfl jaa ?_;refine D5 ?_
   have e1:jiU b c f=9:=by rw [jiU,if_neg (fun e=>e ef),if_pos hne]
   exact ⟨[],by simp,by rw [e1];exact jkP zA⟩
  ·refine D165 ?_
   have e0:jiU b c f=jaZ (setF b c (jdZ (jeX b c f))) 0:=by rw [jiU,if_neg (fun e=>e ef),if_neg (fun e=>e hne)]
   refine jaq [(0,.read),(1,.read),(2,.read),(3,.keep),(4,.keep),(5,.keep),(6,.pure),(7,.pure),(8,.free),(9,.pure)] zK zK (List.Sublist.refl _) ?_;refine Z2 ?_;refine jcC rfl zq hbo.len ?_;refine jaj (Post:=fun v=>v=str (jdZ (jeX b c f))) rfl zq zK (fun H' hH=>f113_c m H' hbo) ?_;rintro v rfl;refine D9 ?_;refine jaS rfl zq zK (Post:=fun v nz=> ∃ps' ks' pw' cw' pb' cb',v=tbV (setF b c (jdZ (jeX b c f))) ps' ns ks' pw' nw cw' pb' nb cb'∧RawTb B nz (setF b c (jdZ (jeX b c f))) ps' ns ks' pw' nw cw' pb' nb cb') (fun H' hH=>CallF.mono (f112_c m H' (rd.keeps (sq hH)) hht (jdZ (jeX b c f)) (Nat.le_trans (textS_le hbo.len) zO)) fun v h' ⟨nz,p1,k1,p2,k2,p3,k3,e1,e2,e3⟩=>⟨nz,e1,p1,k1,p2,k2,p3,k3,e2,e3⟩) ?_
   rintro v n37 ⟨p1,k1,p2,k2,p3,k3,rfl,ra2⟩;refine jaI (jad ?_);refine jaj (Post:=fun v=> ∃x0 y1 z1 w1 y2 z2 w2 y3 z3 w3,v= .tuple [.agg [Value.int .i64 x0,.slice y1 z1 w1,.slice y2 z2 w2,.slice y3 z3 w3].toArray,.int .i64 (jaZ (setF b c (jdZ (jeX b c f))) 0)].toArray∧(jaZ (setF b c (jdZ (jeX b c f))) 0≠0→[Value.int .i64 x0,.slice y1 z1 w1,.slice y2 z2 w2,.slice y3 z3 w3]=zeroL)∧(jaZ (setF b c (jdZ (jeX b c f))) 0=0→[Value.int .i64 x0,.slice y1 z1 w1,.slice y2 z2 w2,.slice y3 z3 w3]=tbL (setF b c (jdZ (jeX b c f))) p1 ns k1 p2 nw k2 p3 nb k3)) rfl zq zK (fun H' hH=>f111_c m H' (ra2.keeps (List.Sublist.trans (List.sublist_append_right _ _) hH))) ?_;rintro v ⟨x0,y1,z1,w1,y2,z2,w2,y3,z3,w3,rfl,ha1,ha2⟩;refine D9 ?_;refine Z2 ?_;refine D201 ?_;refine jac (h++n37) rfl Tryz.func53 rfl jaa ?_;refine D5 ?_
   exact E54
end Go.Proofs
namespace Go.Proofs
open Go.Lo
open Go.Conc (G dcall)
set_option maxRecDepth 100000
set_option synthInstance.maxSize 100000
set_option synthInstance.maxHeartbeats 1000000
set_option maxHeartbeats 4000000
variable {B:Array Obj} {C:Crew} {Y:SyC Tryz.prog B C.pro} {h:Hp} {kn r:Nat} {z:Bool} {got:List Nat}
theorem k_putQ {D:Nat} {b:Frame} {l l':List Value} {ds:List Deferred} {k:List Item} {cs:List Frame} {d:Option Tmp} {v:Value} [p:PutV l d v l'] (n:(Im.quit Tryz.prog D).R (Gr b l' ds k cs)):(Im.quit Tryz.prog D).R (Gr b (put l d v) ds k cs):=by rw [p.eq];exact n
theorem addW_c {i:Nat} (hM:C.n≤4100) (hz:C.hit kn=true→z=true) {c:Frame} {cs:List Frame} (hq:(Im.quit Tryz.prog 0).R (G (c.finish (.tuple #[])) cs)):
  ((SyC.kid Tryz.prog B C.pro i).im 0 (.w kn .on z) h).R (G (Frame.enter Tryz.prog 153 [.pointer (some ⟨C.wg,0,none⟩),.int .i64 (-1)].toArray .normal) (c::cs)):=by
 refine jeb Tryz.func153 rfl rfl (l:=(.pointer (some ⟨C.wg,0,none⟩))::(.int .i64 (-1))::uu115) rfl ?_;refine D24 ?_;refine i_if ?_;refine D177 ?_;refine jbX (v:= .bool true) rfl zq zA (jlV zA) ?_;refine D237 ?_;refine D244 ?_;refine D139 ?_;refine y_bye hz extMerge rfl zq ?_;refine D15 ?_;refine D154 ?_;refine jgG jfU rfl zq ?_;refine D15 ?_;refine D20 ?_;refine jk9 (args:=[]) rfl zq rfl zA ?_;refine D15 ?_;refine D154 ?_;refine D176 ?_;refine D24 ?_;refine D154 ?_;refine i_ext jkv rfl zq rfl ?_;refine D183 ?_;refine D219 ?_;refine D14 ?_;refine jec (n':=18446744073709551615) rfl zq zK zA ?_;refine jfQ (v:= .int .u64 18446744069414584320) rfl zq (.inl rfl) (op_shl zA zA) ?_;refine D130 ?_;refine jeb Tryz.func199 rfl rfl (l:=(.pointer (some ⟨C.wg,0,none⟩))::(.int .u64 18446744069414584320)::uu8) rfl ?_;refine D154 ?_;refine D176 ?_;refine D219 ?_;refine D14 ?_;refine y_wgSub zO hM hz jmn rfl zq (fun v wt hv70 hwt hvw=>?_) (jdk ?_)
 ·show (Im.quit Tryz.prog 1).R _
  refine k_putQ ?_;refine D230 ?_;refine jci rfl Tryz.func199 (jbk rfl) ?_;refine jfR rfl ?_;refine D176 ?_;refine D177 ?_;refine jbX (v:= .int .u64 0) rfl zq zA (jeE ((jcp v wt hv70 hwt).flag)) ?_;refine D41 ?_;refine D198 ?_;refine D224 ?_;refine D160 ?_;refine jfQ (v:= .int .u64 (v:Int)) rfl zq (.inr rfl) (jlU zA (jcp v wt hv70 hwt).hi) ?_;refine jec rfl zq zK (jcp v wt hv70 hwt).hi32 ?_;refine D176 ?_;refine D160 ?_;refine jbX (v:= .int .u64 (wt:Int)) rfl zq zA (jeE ((jcp v wt hv70 hwt).lo)) ?_;refine jec rfl zq zK (jcp v wt hv70 hwt).lo32 ?_;refine D176 ?_;refine D177 ?_;refine i_mv rfl rfl ?_;refine D117 ?_;refine D114 ?_;refine D198 ?_;refine D185 ?_;refine D224 ?_;refine D177 ?_;refine D127 ?_;refine D183 ?_;refine D24 ?_;refine D24 ?_
  rcases (by omega:wt=0∨(wt=1∧0<v)) with rfl|⟨rfl,hv0⟩
  ·refine D244 ?_;refine D41 ?_;refine D198 ?_;refine D80 ?_;refine D198 ?_;refine D185 ?_;refine D224 ?_;refine D177 ?_;refine jbX (v:= .bool (decide ((v:Int)>0))) rfl zq zA (jj4 rfl) ?_
   by_cases hv0:0<v
   ·rw [decide_eq_true (show (v:Int)>0 by omega)];refine D198 ?_;refine D114 ?_;refine D237 ?_;refine jkg rfl ?_;refine jcg rfl jcm ?_;refine D107 ?_
    exact hq
   ·rw [decide_eq_false (show¬(v:Int)>0 by omega)];refine D14 ?_;refine i_mv rfl rfl ?_;refine jbX (v:= .bool true) rfl rfl zA (jgb zA) ?_;refine D80 ?_;refine D237 ?_;refine jkg rfl ?_;refine jcg rfl jcm ?_;refine D107 ?_
    exact hq
  ·refine D244 ?_;refine D138 ?_;refine D14 ?_;refine i_mv rfl rfl ?_;refine D117 ?_;refine D114 ?_;refine D198 ?_;refine D185 ?_;refine D224 ?_;refine D177 ?_;refine D128 ?_;refine D198 ?_;refine D114 ?_;refine D237 ?_;refine jkg rfl ?_;refine jcg rfl jcm ?_;refine D107 ?_
   exact hq
 ·refine D230 ?_;refine jci rfl Tryz.func199 (jbk rfl) ?_;refine jfR rfl ?_;refine D176 ?_;refine D177 ?_;refine jbX (v:= .int .u64 0) rfl zq zA (jeE ((jcp 0 1 zO zO).flag)) ?_;refine D41 ?_;refine D198 ?_;refine D224 ?_;refine D160 ?_;refine jfQ (v:= .int .u64 0) rfl zq (.inr rfl) (jlU zA (jcp 0 1 zO zO).hi) ?_;refine jec rfl zq zK (jcp 0 1 zO zO).hi32 ?_;refine D176 ?_;refine D160 ?_;refine jbX (v:= .int .u64 1) rfl zq zA (jeE ((jcp 0 1 zO zO).lo)) ?_;refine jec rfl zq zK (jcp 0 1 zO zO).lo32 ?_;refine D176 ?_;refine D177 ?_;refine i_mv rfl rfl ?_;refine D117 ?_;refine D114 ?_;refine D198 ?_;refine D185 ?_;refine D224 ?_;refine D177 ?_;refine jbX (v:= .bool false) rfl zq zA (jlV zA) ?_;refine D183 ?_;refine D177 ?_;refine D138 ?_;refine D14 ?_;refine i_mv rfl rfl ?_;refine D117 ?_;refine D114 ?_;refine D198 ?_;refine D185 ?_;refine D224 ?_;refine D177 ?_;refine jbX (v:= .bool false) rfl zq zA (jj4 zA) ?_;refine D14 ?_;refine i_mv rfl rfl ?_;refine jbX (v:= .bool false) rfl rfl zA (jgb zA) ?_;refine D224 ?_;refine D177 ?_;refine D202 ?_;refine D130 ?_;refine D125 ?_;refine D154 ?_;refine D176 ?_;refine D219 ?_
  refine jjp zO hz jhB rfl zq (jdk ?_)
  refine D230 ?_;refine D137 ?_;refine jfR rfl ?_;refine D14 ?_;refine D41 ?_;refine D183 ?_;refine D219 ?_;refine D130 ?_;refine jeb Tryz.func202 rfl rfl (l:=(.pointer (some ⟨C.wg,0,none⟩))::(.int .u64 0)::uu7) rfl ?_;refine D244 ?_;refine D202 ?_;refine D14 ?_
  refine jiE zO hz jnk rfl zq (jdk ?_)
  refine D15 ?_;refine jnf rfl ?_;refine jci rfl Tryz.func202 (jcf rfl) ?_;refine jfR rfl ?_;refine D15 ?_;refine D177 ?_;refine D183 ?_;refine ji7 ?_;refine i_loop ?_;refine D177 ?_;refine D138 ?_;refine D237 ?_;refine i_skip ?_;refine D24 ?_;refine ji7 ?_;refine D244 ?_;refine D202 ?_;refine jjo extSemG rfl zq ?_
  show (Im.quit Tryz.prog 1).R _
  refine k_putQ ?_;refine D15 ?_;refine jki ?_;refine D244 ?_;refine jbX (v:= .int .u32 0) rfl zq zA (op_sub zA) ?_;refine D176 ?_;refine jmg ?_;refine D177 ?_;refine D41 ?_;refine D15 ?_;refine i_else ?_;refine i_exit rfl ?_;refine jnf rfl ?_;refine jcg rfl jcm ?_;refine D107 ?_
  exact hq
theorem jpm {i:Nat} (hM:C.n≤4100) (hz:C.hit kn=true→z=true) {b:Frame} {l:List Value} {todo:List Item} {fn:Func} {kf:Frame} (hk:b.kind= .deferred) (hf: Tryz.prog.funcs[b.fn]?=some fn) (hres:fn.results= #[]) (hkf:kf={(default:Frame) with fn:= Tryz.prog.funcs.size,defers:=[],mode:= .panicking [goexitEntry]}) (hcat:kf.catches Tryz.prog=false):
  ((SyC.kid Tryz.prog B C.pro i).im 0 (.w kn .on z) h).R (Gret b l [dcall 155 [.pointer (some ⟨C.wg,0,none⟩)].toArray] todo [kf]):=by
 refine i_unwind Tryz.func155 zK rfl rfl (l1:=[.pointer (some ⟨C.wg,0,none⟩),undef,undef,undef]) rfl ?_;refine D244 ?_;refine i_cal rfl zq zK (addW_c hM hz ?_);refine jfR rfl ?_;refine D15 ?_;refine jnf rfl ?_;refine i_leaveD rfl Tryz.func155 rfl rfl ?_;exact jlO hk hf hres hkf hcat
theorem addZ_c (h0:Y.i=0) (hM:C.n≤4100) {c:Frame} {cs:List Frame} (hitc:(Y.im 0 (.m r .adds got false) h).R (G (c.finish (.tuple #[])) cs)):
  (Y.im 0 (.m r .idle got false) h).R (G (Frame.enter Tryz.prog 153 [.pointer (some ⟨C.wg,0,none⟩),.int .i64 1].toArray .normal) (c::cs)):=by
 refine jeb Tryz.func153 rfl rfl (l:=(.pointer (some ⟨C.wg,0,none⟩))::(.int .i64 1)::uu115) rfl ?_;refine D24 ?_;refine i_if ?_;refine D177 ?_;refine jbX (v:= .bool false) rfl zq zA (jlV zA) ?_;refine D183 ?_;refine D154 ?_;refine jgG jfU rfl zq ?_;refine D15 ?_;refine D20 ?_;refine jk9 (args:=[]) rfl zq rfl zA ?_;refine D15 ?_;refine D154 ?_;refine D176 ?_;refine D24 ?_;refine D154 ?_;refine i_ext jkv rfl zq rfl ?_;refine D183 ?_;refine D219 ?_;refine D14 ?_;refine jec (n':=1) rfl zq zK zA ?_;refine jfQ (v:= .int .u64 4294967296) rfl zq (.inl rfl) (op_shl zA zA) ?_;refine D130 ?_;refine jeb Tryz.func199 rfl rfl (l:=(.pointer (some ⟨C.wg,0,none⟩))::(.int .u64 4294967296)::uu8) rfl ?_;refine D154 ?_;refine D176 ?_;refine D219 ?_;refine D14 ?_;refine y_wgAdd h0 hM jmn rfl zq (fun v hv0 hv70=>jdk ?_)
 refine D230 ?_;refine jci rfl Tryz.func199 (jbk rfl) ?_;refine jfR rfl ?_;refine D176 ?_;refine D177 ?_;refine jbX (v:= .int .u64 0) rfl zq zA (jeE ((jcp v 0 hv70 zO).flag)) ?_;refine D41 ?_;refine D198 ?_;refine D224 ?_;refine D160 ?_;refine D226 ?_;refine D176 ?_;refine D160 ?_;refine D234 ?_;refine D176 ?_;refine D177 ?_;refine i_mv rfl rfl ?_;refine jbX (v:= .bool true) rfl rfl zA (jj4 zA) ?_;refine D114 ?_;refine D14 ?_;refine i_mv rfl rfl ?_;refine i_mv rfl rfl ?_;refine jec (n':=1) rfl rfl zK zA ?_;refine jbX (v:= .bool (decide ((v:Int)=1))) rfl rfl zA (jgb rfl) ?_
 by_cases hv1:v=1
 ·rw [decide_eq_true (show (v:Int)=1 by omega)];refine D114 ?_;refine D237 ?_;refine D244 ?_;refine D202 ?_;refine jnu rfl zq ⟨rfl,.inr rfl⟩ jmz.1 jmz.2.1 jmz.2.2 ?_
  refine y_said (.inl rfl) h0 extRead rfl zq (jdk ?_)
  refine D15 ?_;refine D177 ?_;refine D127 ?_;refine D183 ?_;refine D177 ?_;refine D41 ?_;refine D198 ?_;refine D80 ?_;refine D198 ?_;refine D185 ?_;refine D224 ?_;refine D177 ?_;refine D128 ?_;refine D198 ?_;refine D114 ?_;refine D237 ?_;refine jkg rfl ?_;refine jeA rfl jcm ?_;refine D107 ?_
  exact hitc
 ·rw [decide_eq_false (show¬(v:Int)=1 by omega)];refine D114 ?_;refine D183 ?_;refine D177 ?_;refine D127 ?_;refine D183 ?_;refine D177 ?_;refine D41 ?_;refine D198 ?_;refine D80 ?_;refine D198 ?_;refine D185 ?_;refine D224 ?_;refine D177 ?_;refine D128 ?_;refine D198 ?_;refine D114 ?_;refine D237 ?_;refine jkg rfl ?_;refine jeA rfl jcm ?_;refine D107 ?_
  exact hitc
theorem waitC_c (hM:C.n≤4100) {kk:Nat} {c:Frame} {cs:List Frame} (hitc:(Y.im 0 (.c .done) h).R (G (c.finish (.tuple #[])) cs)):
  (Y.im 0 (.c (.look kk)) h).R (G (Frame.enter Tryz.prog 158 [.pointer (some ⟨C.wg,0,none⟩)].toArray .normal) (c::cs)):=by
 refine jeb Tryz.func158 rfl rfl (l:=(.pointer (some ⟨C.wg,0,none⟩))::uu83) rfl ?_;refine D24 ?_;refine i_if ?_;refine D20 ?_;refine jgG jfU rfl zq ?_;refine D15 ?_;refine ji7 ?_;refine jnv (fun nn D' s' h' l'=> ∃kk:Nat,D'=1∧s'= .c (.look kk)∧h=h'∧nn=kk*1∧ ∃U:Nat→Value,l'=((.pointer (some ⟨C.wg,0,none⟩))::vw83 U 1 [])) _ ⟨kk,rfl,rfl,rfl,rfl,exU rfl⟩ ?_;rintro nn _ _ _ _ ⟨kk,rfl,rfl,rfl,rfl,U,rfl⟩ hnext;refine ji7 ?_;refine D219 ?_;refine D130 ?_;refine D125 ?_;refine D154 ?_;refine D176 ?_;refine D219 ?_;refine y_wgLoad hM jhB rfl zq (jdk ?_) (fun v hv0 hv70=>jdk ?_)
 ·refine D230 ?_;refine D137 ?_;refine jfR rfl ?_;refine D176 ?_;refine D160 ?_;refine jfQ (v:= .int .u64 0) rfl zq (.inr rfl) (jlU zA (jcp 0 0 zO zO).hi) ?_;refine jec rfl zq zK (jcp 0 0 zO zO).hi32 ?_;refine D176 ?_;refine D160 ?_;refine jbX (v:= .int .u64 0) rfl zq zA (jeE ((jcp 0 0 zO zO).lo)) ?_;refine jec rfl zq zK (jcp 0 0 zO zO).lo32 ?_;refine D176 ?_;refine D177 ?_;refine jbX (v:= .bool true) rfl zq zA (jgb zA) ?_;refine D237 ?_;refine D24 ?_;refine i_if ?_;refine D154 ?_;refine jlp jcm rfl zq ?_;refine D15 ?_;refine D244 ?_;refine D139 ?_;refine y_join jit rfl zq ?_;refine D15 ?_;refine D177 ?_;refine jbX (v:= .bool true) rfl zq zA (jgb zA) ?_;refine D14 ?_;refine i_mv rfl rfl ?_;refine jbX (v:= .int .u64 0) rfl rfl zA (jeE ((jcp 0 0 zO zO).flag)) ?_;refine jbX (v:= .bool false) rfl rfl zA (joo zA) ?_;refine D114 ?_;refine D198 ?_;refine D224 ?_;refine jkg rfl ?_;refine jci rfl Tryz.func158 (jcf rfl) ?_
  exact hitc
 ·refine D230 ?_;refine D137 ?_;refine jfR rfl ?_;refine D176 ?_;refine D160 ?_;refine D226 ?_;refine D176 ?_;refine D160 ?_;refine D234 ?_;refine D176 ?_;refine D177 ?_;refine jbX (v:= .bool false) rfl zq zA (jgb (decide_eq_false zO)) ?_;refine D183 ?_;refine D219 ?_;refine D14 ?_;refine D14 ?_;refine jbX (v:= .int .u64 (wgN v 1)) rfl zq zA (op_add ((jcp v 0 hv70 zO).wait)) ?_;refine D130 ?_;refine jeb Tryz.func207 rfl rfl (l:=(.pointer (some ⟨C.wg,0,none⟩))::(.int .u64 (wgN v 0))::(.int .u64 (wgN v 1))::uu10) rfl ?_;refine D154 ?_;refine D176 ?_;refine D219 ?_;refine D14 ?_;refine D14 ?_
  refine y_wgCas extCas64 rfl zq (jdk ?_) (fun hk=>jdk ?_)
  ·refine D230 ?_;refine jci rfl Tryz.func207 (jbk rfl) ?_;refine jfR rfl ?_;refine D237 ?_;refine D177 ?_;refine i_mv rfl rfl ?_;refine jbX (v:= .bool true) rfl rfl zA (jgb zA) ?_;refine D114 ?_;refine D237 ?_;refine D244 ?_;refine D202 ?_;refine jnu rfl zq ⟨rfl,.inr rfl⟩ jmz.1 jmz.2.1 jmz.2.2 ?_
   refine y_saidC (.inr rfl) extWrite rfl zq (jdk ?_)
   refine D15 ?_;refine D154 ?_;refine D176 ?_;refine D177 ?_;refine jbX (v:= .int .u64 0) rfl zq zA (jeE ((jcp v 0 hv70 zO).flag)) ?_;refine D41 ?_;refine D14 ?_;refine D28 ?_;refine D224 ?_;refine D219 ?_;refine D14 ?_
   refine y_wgPark extSemW rfl zq (jdk ?_)
   refine D15 ?_;refine D219 ?_;refine D130 ?_;refine D125 ?_;refine D154 ?_;refine D176 ?_;refine D219 ?_
   refine y_wgEnd jhB rfl zq (jdk ?_)
   refine D230 ?_;refine D137 ?_;refine jfR rfl ?_;refine D41 ?_;refine D176 ?_;refine D24 ?_;refine i_if ?_;refine D154 ?_;refine jlp jcm rfl zq ?_;refine D15 ?_;refine D244 ?_;refine D139 ?_;refine y_join jit rfl zq ?_;refine D15 ?_;refine D177 ?_;refine D183 ?_;refine jkg rfl ?_;refine jci rfl Tryz.func158 (jcf rfl) ?_
   exact hitc
  ·refine D230 ?_;refine jci rfl Tryz.func207 (jbk rfl) ?_;refine jfR rfl ?_;refine D183 ?_;refine jki ?_
   exact hnext _ _ _ _ _ zO ⟨kk-1,rfl,rfl,rfl,rfl,exU rfl⟩
end Go.Proofs
namespace Go.Proofs
open Go.Lo
open Go.Conc (G)
set_option maxRecDepth 100000
set_option synthInstance.maxSize 100000
set_option synthInstance.maxHeartbeats 1000000
set_option maxHeartbeats 4000000
variable {B:Array Obj}
variable [LaidO B]
theorem jbQ: ∀{xs ys:List Int},xs.length=ys.length→(cmpL xs ys<0↔ja5 xs ys=true)
 |[],[],_=>by simp [cmpL,ja5]
 |[],_::_,h=>by simp at h
 |_::_,[],h=>by simp at h
 |a::r,c::s,h=>by
  have ih:=jbQ (xs:=r) (ys:=s) (by simpa using h)
  unfold cmpL ja5
  by_cases e:a=c
  ·subst e
   rw [if_neg zO,if_neg zO,if_pos rfl];exact ih
  ·rw [if_neg e,decide_eq_true_iff];by_cases e1:a<c
   ·rw [if_pos e1];exact ⟨fun _=>e1,fun _=>by decide⟩
   ·rw [if_neg e1,if_pos zO];exact ⟨fun h=>by omega,fun h=>absurd h e1⟩
def ltW (xs ys:List Int):Bool:=decide (xs.length<ys.length)||(decide (xs.length=ys.length)&&ja5 xs ys)
theorem jhg {xs ys:List Int}:ltW xs ys=true↔jc9 xs ys:=by simp [ltW,jc9]
def jfY (a:List Int) (ll:List (List Int)):List Int:=ll.foldl (fun o x=>if ltW x o then x else o) a
theorem jiC (a:List Int) (ll:List (List Int)) (k:Nat) (h:k<ll.length):jfY a (ll.take (k+1))=if ltW (ll.getD k []) (jfY a (ll.take k)) then ll.getD k [] else jfY a (ll.take k):=by
 rw [jfY,List.take_add_one,List.getElem?_eq_getElem h,Option.toList_some,List.foldl_append,List.getD_eq_getElem?_getD,List.getElem?_eq_getElem h];rfl
theorem jhN: ∀(ll:List (List Int)) (a:List Int),jfY a ll∈a::ll∧ ∀x∈a::ll,¬jc9 x (jfY a ll)
 |[],a=>⟨by simp [jfY],fun x hx=>by rw [List.mem_singleton.1 hx];exact jku _⟩
 |y::r,a=>by
  have e:jfY a (y::r)=jfY (if ltW y a then y else a) r:=rfl
  obtain ⟨h1,h2⟩:=jhN r (if ltW y a then y else a)
  rw [e];by_cases hy:ltW y a=true
  ·rw [if_pos hy] at h1 h2⊢
   refine ⟨List.mem_cons_of_mem _ h1,fun x hx=>?_⟩
   rcases List.mem_cons.1 hx with rfl|hx
   ·exact fun hf=>h2 y zS (jhA (jhg.1 hy) hf)
   ·exact h2 x hx
  ·rw [if_neg hy] at h1 h2⊢
   refine ⟨?_,fun x hx=>?_⟩
   ·rcases List.mem_cons.1 h1 with h1|h1
    ·rw [h1];simp
    ·simp [h1]
   ·rcases List.mem_cons.1 hx with rfl|hx
    ·exact h2 _ zS
    ·rcases List.mem_cons.1 hx with rfl|hx
     ·intro hf
      have e1: ¬jc9 x a:=fun hh=>hy (jhg.2 hh)
      rcases jmm x a with rfl|e2|e2
      ·exact h2 x zS hf
      ·exact e1 e2
      ·exact h2 a zS (jhA e2 hf)
     ·exact h2 x (by simp [hx])
def jeG (p:List Int→Prop) (n:Nat) (g:List Int):Prop:=Asc g∧(∀x∈g,0≤x∧x<n)∧p g∧ ∀xs,Asc xs→(∀x∈xs,0≤x∧x<n)→p xs→ ¬jc9 xs g
theorem jim {p:List Int→Prop} {n:Nat} {g g2:List Int} (h:jeG p n g) (h2:jeG p n g2):g=g2:=by
 rcases jmm g g2 with e|e|e
 ·exact e
 ·exact absurd e (h2.2.2.2 g h.1 h.2.1 h.2.2.1)
 ·exact absurd e (h.2.2.2 g2 h2.1 h2.2.1 h2.2.2.1)
theorem clr_all {n s:Nat} (hn:n≤12) (hs:s<2^n):bClr .u64 ((2^n-1:Nat):Int) (s:Int)=((2^n-1-s:Nat):Int):=by
 have h:((List.range 13).all fun n=>(List.range (2^n)).all fun s=>bClr .u64 ((2^n-1:Nat):Int) (s:Int)==((2^n-1-s:Nat):Int))=true:=by kernel_rfl
 have h1:=List.all_eq_true.1 h n (List.mem_range.2 zO)
 simpa using List.all_eq_true.1 h1 s (List.mem_range.2 hs)
theorem jlS {n s:Nat} (hs:s<2^n):patN (2^n-1-s) n=(patN s n).map (!·):=by
 rw [patN,patN,List.map_map];refine List.map_congr_left fun i hi=>?_
 rw [List.mem_range] at hi
 have:=Nat.testBit_two_pow_sub_succ hs i
 rw [show 2^n-(s+1)=2^n-1-s by omega] at this
 rw [this];simp [hi]
theorem jkG {b:Tb} {s:Nat} (hs:s<2^(jab b).length):patA (cdT b) (patN (2^(jab b).length-1-s) (jab b).length)≠[]↔jb7 (jaX (patN s (jab b).length) (cdT b))=true:=by
 rw [jlS hs];exact jeo (by rw [jbr,jaB])
theorem callB160:jbz Tryz.prog 160=true:=by kernel_rfl
section
variable {P:Program} {m:Md P B} {ops:Array Oper} {l l':List Value} {S h h' H:Hp} {C:List Value→Hp→Prop} {i:Nat} {kd:Kd} {r:List (Nat×Kd)} {d:Option Tmp} {ty:TypeId} {pos:String} {af:Array Edge} {g:Option (Nat×Bool)}
omit [LaidO B] in
theorem joS {t u:TypeId} {x y:Operand} {a b:Int} {k:IntKind} (v:Int) (ho:ops[i]?=some ⟨d,.binOp .andNot t x y u,ty,pos,af,g⟩) (hw:Wt ops l g) [KHeap kd S h H] [ex:OpV l x (.int k a)] [ey:OpV l y (.int k b)] (hv:bClr k a b=v) [PutV l d (.int k v) l'] (n:RegK m S ops r l' h C):RegK m S ops ((i,kd)::r) l h C:=
 RegK.rd (v:= .int k v) ho hw (jaU ex.eq ey.eq zS (op_clr hv)) n
end
theorem f160_c (m:Md Tryz.prog B) (h:Hp) {p:Option Addr} {n c:Nat} {xs:List Int} (rd:RdS B h 1 (.slice p n c) n (ints xs)) (hn:n≤1000000) {p2:Option Addr} {n2 c2:Nat} {ys:List Int} (rd2:RdS B h 1 (.slice p2 n2 c2) n2 (ints ys)) (hn2:n2≤1000000):FnC m 160 #[.slice p n c,.slice p2 n2 c2] h fun v h'=>h'=h∧IsB (jc9 xs ys) v:=by
 have hl:=rd.ilen
 have hl2:=rd2.ilen
 refine jae Tryz.func160 rfl rfl (l:=(.slice p n c)::(.slice p2 n2 c2)::uu21) rfl ?_
 intro cf cs K hK
 refine D161 ?_;refine jbl [(0,.free),(1,.free),(2,.free),(3,.free),(4,.free),(5,.free),(6,.free),(7,.free),(8,.free),(9,.free),(10,.free),(11,.free),(12,.free),(13,.free),(14,.free),(15,.free),(16,.free),(17,.free),(18,.free)] zK zK ?_;refine Z4 ?_
 refine jan rfl zq (fun hc=>?_) (fun hc=>?_)
 ·refine Z12 ?_;refine D222 ?_;refine jac (h) rfl Tryz.func160 rfl jaa ?_;refine D5 ?_
  refine ⟨rfl,?_⟩
  unfold jc9
  first
   |exact IsB.yes (.inl zO)
   |exact E55
   |exact E56
   |exact E57
 ·refine Z5 ?_
  refine jaM rfl rfl (fun hc=>?_) (fun hc=>?_)
  ·refine Z3 ?_;refine jaj (Post:=fun v=>v= .int .i64 (cmpL xs ys)) rfl rfl zK (fun H' hH=>f210_c m H' (rd.keeps (sq hH)) hn (rd2.keeps (sq hH))) ?_
   rintro v rfl;refine D9 ?_
   refine jan rfl rfl (fun hc=>?_) (fun hc=>?_);all_goals
    refine D61 ?_;refine D179 ?_;refine jac (h) rfl Tryz.func160 rfl jaa ?_;refine D5 ?_
    refine ⟨rfl,?_⟩
    unfold jc9
    first
     |exact IsB.yes (.inl zO)
     |exact E55
     |exact E56
     |exact E57
  ·refine Z5 ?_;refine D45 ?_;refine D179 ?_;refine jac (h) rfl Tryz.func160 rfl jaa ?_;refine D5 ?_
   refine ⟨rfl,?_⟩
   unfold jc9
   first
    |exact IsB.yes (.inl zO)
    |exact E55
    |exact E56
    |exact E57
theorem f159_c (m:Md Tryz.prog B) (h:Hp) {p:Option Addr} {c:Nat} {vs:List Value} {ll:List (List Int)} (rdv:RdS B h 1 (.slice p ll.length c) ll.length vs) (rde:RdE B h vs ll) (hn:ll.length≤10000) (hl: ∀l∈ll,l.length≤1000) {ap:Option Addr} {ac:Nat} {a:List Int} (ra:RdS B h 1 (.slice ap a.length ac) a.length (ints a)) (hal:a.length≤1000):
  FnC m 159 #[.func (.func 160) #[] #[],.slice ap a.length ac,.slice p ll.length c] h fun v h'=>h'=h∧RdI B h v (jfY a ll):=by
 refine jae Tryz.func159 rfl rfl (l:=(.func (.func 160) #[] #[])::(.slice ap a.length ac)::(.slice p ll.length c)::uu19) rfl ?_
 intro cf cs K hK
 refine D161 ?_;refine rs3 ?_;refine Z3 ?_;refine D182 ?_
 refine jai (fun nn l h'=> ∃(k:Nat) (gp:Option Addr) (gc:Nat) (w:List Int),nn=ll.length-k∧(k≤ll.length)∧(w=jfY a (ll.take k))∧(RdS B h 1 (.slice gp w.length gc) w.length (ints w))∧(w.length≤1000)∧(∃U:Nat→Value,l=((.func (.func 160) #[] #[])::(.slice gp w.length gc)::(.slice p ll.length c)::vw6 U 3 ((.slice p ll.length c)::(.int .i64 (ll.length:Int))::(.int .i64 (k:Int))::vw10 U 12 [])))∧h=h') _ ⟨0,ap,ac,a,rfl,by omega,by rw [List.take_zero];rfl,ra,hal,exU rfl,rfl⟩ ?_;rintro nn l h' ⟨k,gp,gc,w,rfl,hk,hw,hwr,hwl,⟨U,rfl⟩,rfl⟩ hnext;refine rs1 ?_;refine jan rfl zq (fun hc=>?_) (fun hc=>?_)
 ·refine D191 ?_
  obtain ⟨rb,ro,hrp⟩:=rdv.ptr zO
  have rdv':=rdv
  rw [hrp] at rdv'
  obtain ⟨ep,ec,ee,er⟩:=rde.2 k zO
  have hlk:(ll.getD k []).length≤1000:=hl _ (jot.2 ⟨k,by omega,rfl⟩)
  refine rr3 ?_;refine D90 ?_;refine k_ld (v:= .slice ep (ll.getD k []).length ec) rfl zq (by rw [←ee];exact rdv'.vat k zO zO) ?_;refine D0 ?_;refine D196 ?_;refine jfi (Post:=fun v=>IsB (jc9 (ll.getD k []) w) v) rfl zq callB160 (fun H' hH=>by
   have h1:=f160_c m H' (er.keeps (sq hH)) zO (hwr.keeps (sq hH)) zO
   simpa using h1) ?_
  rintro v (⟨hc,rfl⟩|⟨hc,rfl⟩);refine D9 ?_;refine D148 ?_;refine D206 ?_;refine D0 ?_
  rotate_left
  refine D9 ?_;refine D149 ?_
  all_goals
   refine D159 ?_
  ·exact m.weak jaa (hnext _ _ _ zO ⟨k+1,gp,gc,w,rfl,by omega,by rw [jiC _ _ _ zO,←hw,if_neg (fun e=>hc (jhg.1 e))],hwr,hwl,exU rfl,rfl⟩)
  ·exact m.weak jaa (hnext _ _ _ zO ⟨k+1,ep,ec,ll.getD k [],rfl,by omega,by rw [jiC _ _ _ zO,←hw,if_pos (jhg.2 hc)],er,hlk,exU rfl,rfl⟩)
 ·refine D175 ?_;refine D167 ?_;refine jac (h) rfl Tryz.func159 rfl jaa ?_;refine D5 ?_
  obtain rfl:k=ll.length:=by omega
  rw [List.take_of_length_le zO] at hw
  rw [←hw];exact ⟨rfl,gp,gc,rfl,hwr⟩
theorem f105_c (m:Md Tryz.prog B) (h:Hp) {b:Tb} {q:Nat} {tv:List Value} (sh:Sheet B h b q tv) {qx:Nat} (rx:Rd B h ⟨qx,0,none⟩ (.pointer (some ⟨q,0,none⟩))) {s:Nat} (hs:s<2^(jab b).length):FnC m 105 #[.int .u64 (s:Int),.pointer (some ⟨qx,0,none⟩)] h fun v h'=>h'=h∧IsB (¬jb7 (jaX (patN s (jab b).length) (cdT b))=true) v:=by
 have h12:=sh.twelve
 obtain ⟨pc,cc,hcv,hcc,hcr⟩:=sh.cells
 have hs2:2^(jab b).length-1-s<4096:=by
  have:=Nat.pow_le_pow_right (show 0<2 by omega) h12
  omega
 refine jae Tryz.func105 rfl rfl (l:=(.int .u64 (s:Int))::(.pointer (some ⟨qx,0,none⟩))::uu13) rfl ?_
 intro cf cs K hK
 refine D161 ?_;refine jaq [(7,.pure),(0,.read),(1,.read),(2,.pure),(3,.pure),(4,.read),(5,.pure),(6,.keep),(8,.pure),(9,.keep),(10,.pure),(11,.pure)] zK zK (List.Sublist.refl _) ?_;refine Zs ?_;refine D141 ?_;refine D141 ?_
 refine jal rfl zq ?_;refine Zs ?_;refine D91 ?_;refine Zs ?_;refine jaj (Post:=fun v=>v= .int .u64 ((2^(jab b).length-1:Nat):Int)) rfl zq zK (fun H' hH=>f106_c m H' _ h12) ?_
 rintro v rfl;refine D9 ?_;refine joS ((2^(jab b).length-1-s:Nat):Int) rfl zq (clr_all h12 hs) ?_;refine jaj (Post:=fun v=>IsB _ v) rfl zq zK (fun H' hH=>f104_c m H' (sh.keeps (sq hH)) hs2) ?_
 rintro v (⟨hc,rfl⟩|⟨hc,rfl⟩);refine D189 ?_
 rotate_left
 refine D192 ?_
 all_goals
  refine D146 ?_;refine jac (h) rfl Tryz.func105 rfl jaa ?_;refine D5 ?_
  first|exact ⟨rfl,IsB.no fun e=>e ((jkG hs).1 hc)⟩|exact ⟨rfl,IsB.yes fun e=>hc ((jkG hs).2 e)⟩
def jji (N:Nat) (hit:Nat→Bool) (q6 ch:Nat):Crew:=⟨N,hit,fun k v hp=>OwnS 3 1 v (ja0 k 12).length (ints (ja0 k 12)) hp,q6,203,ch⟩
theorem callB154:jbz Tryz.prog 154=true:=by kernel_rfl
theorem callB157:jbz Tryz.prog 157=true:=by kernel_rfl
theorem jd7:(kidF Tryz.prog).catches Tryz.prog=false:=by kernel_rfl
def Asks (B:Array Obj) (gv:Value) (hb:Hp) (N:Nat) (hit:Nat→Bool):Prop:= ∀(m:Md Tryz.prog B) (k:Nat) (H':Hp),k<N→hb.Sublist H'→CallV m gv [.int .u64 (k:Int)] H' fun v h'=>h'=H'∧IsB (hit k=true) v
theorem kid154 {hb:Hp} {gv:Value} {q3 q5 q6 q7 ch N kn i:Nat} {hit:Nat→Bool} (hN:N≤4096) (hk:kn<N) (hg:Asks B gv hb N hit):
  ((SyC.kid Tryz.prog B (jji N hit q6 ch).pro i).im 0 (.w kn .on false) (hb++[⟨false,q3,.cells [gv].toArray 141 (0,0)⟩,⟨false,q5,.cells [.chan (some ch)].toArray 193 (0,0)⟩,⟨true,q7,.cells [.int .u64 (kn:Int)].toArray 134 (0,0)⟩])).R (kid0 Tryz.prog {target:= .fn (.func 154) [.pointer (some ⟨q6,0,none⟩),.pointer (some ⟨q3,0,none⟩),.pointer (some ⟨q7,0,none⟩),.pointer (some ⟨q5,0,none⟩)].toArray,args:= #[]++ #[]}):=by
 have hM:(jji N hit q6 ch).n≤4100:=show N≤4100 by omega
 refine jin (hg:=fun e=>e) (al:=[.pointer (some ⟨q6,0,none⟩),.pointer (some ⟨q3,0,none⟩),.pointer (some ⟨q7,0,none⟩),.pointer (some ⟨q5,0,none⟩)]) (l:=(.pointer (some ⟨q6,0,none⟩))::(.pointer (some ⟨q3,0,none⟩))::(.pointer (some ⟨q7,0,none⟩))::(.pointer (some ⟨q5,0,none⟩))::uu6) callB154 Tryz.func154 rfl rfl rfl rfl ?_;refine Md.kidC.to (hg:=fun e=>e) ?_;refine D2 ?_;refine Md.kidC.of ?_;refine D20 ?_;refine jk9 rfl zq rfl zA ?_;refine D15 ?_;refine Md.kidC.to (hg:=fun e=>e) ?_;refine D203 ?_;refine jfO rfl zq (hg _ kn _ hk SubH.sub) ?_
 rintro _ _ ⟨rfl,⟨hc,rfl⟩|⟨hc,rfl⟩⟩
 ·refine D9 ?_;refine D148 ?_;refine jn4 3 [(0,.read),(1,.read),(2,.call)] [0,1,2,3] zK zK zK (List.Sublist.refl _) ?_;refine Z2 ?_;refine jaS rfl zq zK (fun H' hH=>f156_c _ H' kn zO) ?_
  rintro v new ov;refine D9 ?_;refine D1 ?_;refine Md.kidC.of ?_;refine SyC.weaken (h':=[]++new) (by rw [List.nil_append];exact jaa) ?_;refine y_send (hr:=[]) (hp:=new) rfl hc ov ?_;refine D15 ?_;refine jnf rfl ?_
  exact jpm hM (fun _=>rfl) rfl Tryz.func154 rfl rfl jd7
 ·refine D9 ?_;refine D149 ?_;refine Md.kidC.of ?_;refine jnf rfl ?_
  exact jpm hM (fun e=>absurd e hc) rfl Tryz.func154 rfl rfl jd7
theorem kid157 {hb:Hp} {q5 q6 ch N i:Nat} {hit:Nat→Bool} (hN:N≤4096):
  ((SyC.kid Tryz.prog B (jji N hit q6 ch).pro i).im 0 (.c (.look N)) (hb++[⟨false,q5,.cells [.chan (some ch)].toArray 193 (0,0)⟩])).R (kid0 Tryz.prog {target:= .fn (.func 157) [.pointer (some ⟨q6,0,none⟩),.pointer (some ⟨q5,0,none⟩)].toArray,args:= #[]++ #[]}):=by
 have hM:(jji N hit q6 ch).n≤4100:=show N≤4100 by omega
 refine jin (hg:=fun e=>e) (al:=[.pointer (some ⟨q6,0,none⟩),.pointer (some ⟨q5,0,none⟩)]) (l:=[.pointer (some ⟨q6,0,none⟩),.pointer (some ⟨q5,0,none⟩),undef,undef]) callB157 Tryz.func157 rfl rfl rfl rfl ?_;refine Md.kidC.to (hg:=fun e=>e) ?_;refine D2 ?_;refine Md.kidC.of ?_;refine D20 ?_
 refine i_cal rfl zq zK (waitC_c hM ?_);refine jfR rfl ?_;refine D15 ?_;refine Md.kidC.to (hg:=fun e=>e) ?_;refine D140 ?_;refine Zs ?_;refine D1 ?_;refine Md.kidC.of ?_;refine SyC.weaken (h':=[]) (Weak.sub (List.nil_sublist _)) ?_;refine y_close zA rfl ?_;show (Im.quit Tryz.prog 0).R _
 refine D15 ?_;refine jnf rfl ?_
 exact jlO rfl Tryz.func157 rfl rfl jd7
theorem jdw {mm k:Nat} (h:mm<2^k):jbN (ja0 mm k)=mm:=by
 refine Nat.eq_of_testBit_eq fun i=>?_
 rw [jdc fun z hz=>by obtain ⟨j,_,rfl,_⟩:=jb2.1 hz;omega];by_cases hi:i<k
 ·by_cases hb:mm.testBit i=true
  ·rw [hb,decide_eq_true_iff];exact jb2.2 ⟨i,hi,rfl,(jco mm i).2 hb⟩
  ·rw [Bool.not_eq_true] at hb
   rw [hb,decide_eq_false_iff_not];intro hz
   obtain ⟨j,_,e,h2⟩:=jb2.1 hz
   obtain rfl:i=j:=by omega
   rw [(jco mm i).1 h2] at hb
   cases hb
 ·have h1:mm.testBit i=false:=Nat.testBit_lt_two_pow (Nat.lt_of_lt_of_le h (Nat.pow_le_pow_right zO zO))
  rw [h1,decide_eq_false_iff_not];intro hz
  obtain ⟨j,hj,e,_⟩:=jb2.1 hz
  omega
theorem jl4 {mm n k:Nat} (h:mm<2^n): ∀x∈ja0 mm k,0≤x∧x<(n:Int):=fun x hx=>by
 obtain ⟨j,_,rfl,h2⟩:=jb2.1 hx
 refine ⟨by omega,?_⟩
 rcases Nat.lt_or_ge j n with hj|hj
 ·omega
 ·have:=Nat.testBit_lt_two_pow (Nat.lt_of_lt_of_le h (Nat.pow_le_pow_right (show 0<2 by omega) hj))
  rw [(jco mm j).1 h2] at this
  cases this
def llW (got:List Nat):List (List Int):=got.map fun k=>ja0 k 12
theorem jl0 (got:List Nat) (k:Nat):llW (got++[k])=llW got++[ja0 k 12]:=by simp [llW]
theorem llW_len (got:List Nat):(llW got).length=got.length:=List.length_map _
theorem got_le {got:List Nat} {n:Nat} (h: ∀k∈got,k<n) (hd:got.Nodup):got.length≤n:=by
 have:=List.Nodup.length_le_of_subset (l₂:=List.range n) hd fun z hz=>List.mem_range.2 (h z hz)
 rwa [List.length_range] at this
theorem jnj {n:Nat} {hit:Nat→Bool} {got:List Nat} (hn:n≤12) (hall: ∀k,k∈got↔k<2^n∧hit k=true) (h1:hit (2^n-1)=true):jeG (fun l=>hit (jbN l)=true) n (jfY (ja0 (2^n-1) 12) (llW got)):=by
 obtain ⟨hm,hb⟩:=jhN (llW got) (ja0 (2^n-1) 12)
 have hp:0<2^n:=Nat.two_pow_pos n
 have h12:2^n≤2^12:=Nat.pow_le_pow_right zO hn
 obtain ⟨k,hk,hh,e⟩: ∃k,k<2^n∧hit k=true∧jfY (ja0 (2^n-1) 12) (llW got)=ja0 k 12:=by
  rcases List.mem_cons.1 hm with hm|hm
  ·exact ⟨2^n-1,by omega,h1,hm⟩
  ·obtain ⟨k,hk,e⟩:=List.mem_map.1 hm
   obtain ⟨h2,h3⟩:=(hall k).1 hk
   exact ⟨k,h2,h3,e.symm⟩
 rw [e] at hb⊢
 refine ⟨jdq _ _,jl4 hk,by show hit (jbN _)=true;rw [jdw zO];exact hh,fun xs ha hx hxs=>?_⟩
 obtain ⟨mm,hmm,rfl⟩:=joB ha (n:=12) fun x hx'=>by have:=hx x hx';omega
 have hlt:mm<2^n:=by
  refine Classical.byContradiction fun hge=>?_
  obtain ⟨i,hi,hbit⟩:=Nat.exists_ge_and_testBit_of_ge_two_pow (show 2^n≤mm by omega)
  have hi12:i<12:=by
   refine Classical.byContradiction fun h=>?_
   have:=Nat.testBit_lt_two_pow (Nat.lt_of_lt_of_le hmm (Nat.pow_le_pow_right (show 0<2 by omega) (show 12≤i by omega)))
   rw [hbit] at this
   cases this
  have:=hx _ (jb2.2 ⟨i,hi12,rfl,(jco mm i).2 hbit⟩)
  omega
 have hxs':hit (jbN (ja0 mm 12))=true:=hxs
 rw [jdw hmm] at hxs'
 exact hb _ (List.mem_cons_of_mem _ (List.mem_map.2 ⟨mm,(hall mm).2 ⟨hlt,hxs'⟩,rfl⟩))
theorem run_midC {P:Program} {B:Array Obj} {K:Goroutine→Hp→Prop} {C:Crew} {g:Goroutine} {h':Hp} (n:((SyC.zero P B C.pro K).im 0 (.m C.n .idle [] false) h').R g):(Md.starC P B).R K g (h'++[C.wgC 0 0 0]++[⟨true,C.ch,.chan 0 #[] false 0 0 false⟩]):=jmx n
theorem run_putm {P:Program} {B:Array Obj} {m:Md P B} {K:Goroutine→Hp→Prop} {b:Frame} {l l':List Value} {ds:List Deferred} {k:List Item} {cs:List Frame} {h:Hp} {d:Option Tmp} {v:Value} [p:PutV l d v l'] (n:m.R K (Gr b l' ds k cs) h):m.R K (Gr b (put l d v) ds k cs) h:=by rw [p.eq];exact n
theorem weakOff3 {B:Array Obj} {h' F1 F2 F3 H X Y Z:Hp} [a:Off h' Z F1] [b:Off F1 Y F2] [c:Off F2 X F3] [s:SubH H F3]:Weak B h' (H++X++Y++Z):=
 Weak.trans (Weak.perm a.perm) (Weak.apps (Weak.trans (Weak.perm b.perm) (Weak.apps (Weak.trans (Weak.perm c.perm) (Weak.apps (Weak.sub s.sub) X)) Y)) Z)
theorem apAll {F H:Hp} (hF: ∀c∈F,c.rw=false) (hH: ∀c∈H,c.rw=false):ApH F H:=fun c hc d hd hr=>by rw [hF c hc,hH d hd] at hr;simp at hr
section
variable {P:Program} {m:Md P B} {ops:Array Oper} {l l':List Value} {S h h' H:Hp} {C:List Value→Hp→Prop} {i:Nat} {kd:Kd} {r:List (Nat×Kd)} {d:Option Tmp} {ty:TypeId} {pos:String} {af:Array Edge} {g:Option (Nat×Bool)}
omit [LaidO B] in
theorem k_addW {k:IntKind} {t u:TypeId} {x y:Operand} {a b:Int} (z:Int) (ho:ops[i]?=some ⟨d,.binOp .add t x y u,ty,pos,af,g⟩) (hw:Wt ops l g) [KHeap kd S h H] [ex:OpV l x (.int k a)] [ey:OpV l y (.int k b)] (hr:k.wrap (a+b)=z) [PutV l d (.int k z) l']
  (n:RegK m S ops r l' h C):RegK m S ops ((i,kd)::r) l h C:=
 RegK.rd (v:= .int k z) ho hw (jaU ex.eq ey.eq zS (by simp [binOp,Op.intArith,hr];rfl)) n
end
theorem jlr {n:Nat} (h:n<5000):IntKind.wrap .u64 ((n:Nat):Int)=(n:Int):=by
 simp [IntKind.wrap,IntKind.bits,IntKind.signed]
 omega
theorem jlb {h:Hp} {N:Nat} {hit:Nat→Bool} {q3 q5 q6 ch:Nat} {c3 c5:Array Value}:Weak B (h++[⟨true,q3,.cells c3 141 (0,0)⟩]++[⟨true,ch,.chan 0 #[] false 0 0 false⟩,⟨true,q5,.cells c5 193 (0,0)⟩,⟨true,q6,.cells ([.int .u64 0,.int .u32 0]:List Value).toArray 203 (0,0)⟩]) ((ro h++[⟨false,q3,.cells c3 141 (0,0)⟩,⟨false,q5,.cells c5 193 (0,0)⟩])++[(jji N hit q6 ch).wgC 0 0 0]++[⟨true,ch,.chan 0 #[] false 0 0 false⟩]):=by
 have h0:Weak B (h++[⟨true,q3,.cells c3 141 (0,0)⟩]++[⟨true,ch,.chan 0 #[] false 0 0 false⟩,⟨true,q5,.cells c5 193 (0,0)⟩,⟨true,q6,.cells ([.int .u64 0,.int .u32 0]:List Value).toArray 203 (0,0)⟩]) ((h++[⟨true,q3,.cells c3 141 (0,0)⟩,⟨true,q5,.cells c5 193 (0,0)⟩])++[⟨true,q6,.cells ([.int .u64 0,.int .u32 0]:List Value).toArray 203 (0,0)⟩,⟨true,ch,.chan 0 #[] false 0 0 false⟩]):=by
  refine Weak.perm ?_
  simp only [List.append_assoc,List.cons_append,List.nil_append]
  refine List.Perm.append_left _ (.cons _ ?_)
  exact List.perm_append_comm (l₁:=[_]) (l₂:=[_,_])
 refine h0.trans ?_
 have h1:=jnw (B:=B) (h++[⟨true,q3,.cells c3 141 (0,0)⟩,⟨true,q5,.cells c5 193 (0,0)⟩]) [⟨true,q6,.cells ([.int .u64 0,.int .u32 0]:List Value).toArray 203 (0,0)⟩,⟨true,ch,.chan 0 #[] false 0 0 false⟩]
 refine Weak.trans h1 ?_;refine Weak.perm ?_
 simp only [ro,List.map_append,List.map_cons,List.map_nil,List.append_assoc,List.cons_append,List.nil_append]
 exact .refl _
theorem f103_c (h:Hp) {b:Tb} {q:Nat} {tv:List Value} (sh:Sheet B h b q tv) {gv:Value} [cgv:CellsV gv [gv]] {hit:Nat→Bool} (hg:Asks B gv (ro h) (2^(jab b).length) hit) (hh1:hit (2^(jab b).length-1)=true):FnC (Md.starC Tryz.prog B) 103 #[.pointer (some ⟨q,0,none⟩),gv] h fun v h'=> ∃nw,h'=ro h++nw∧ ∃g,RdI B h' v g∧jeG (fun l=>hit (jbN l)=true) (jab b).length g:=by
 have h12:=sh.twelve
 obtain ⟨pc,cc,hcv,hcc,hcr⟩:=sh.cells
 have hp0:0<2^(jab b).length:=Nat.two_pow_pos _
 have hp12:2^(jab b).length≤2^12:=Nat.pow_le_pow_right zO h12
 obtain ⟨N,hN⟩: ∃N:Nat,N=2^(jab b).length:=⟨_,rfl⟩
 rw [←hN] at hg
 have hM: ∀q6 ch,(jji N hit q6 ch).n≤4100:=fun _ _=>show N≤4100 by omega
 refine jae Tryz.func103 rfl rfl (l:=(.pointer (some ⟨q,0,none⟩))::gv::uu40) rfl ?_
 intro cf cs K hK
 refine rs2 ?_;refine jaQ rfl zq (fun q3=>k_hp (jad ?_));refine D0 ?_;refine rs3 ?_
 refine k_mkchan (.inl rfl) rfl zq zK (fun ch=>jad ?_);refine jau rfl zq (fun q5=>k_hp (jad ?_));refine D181 ?_;refine rs1 ?_
 refine jau rfl zq (fun q6=>k_hp (jad ?_));refine D151 ?_;refine rs8 ?_;refine Zs ?_
 refine jal rfl zq ?_;refine Zs ?_;refine D91 ?_;refine Zs ?_;refine D120 ?_
 rintro v rfl;refine D9 ?_;refine k_addW (N:Int) rfl zq (by rw [show ((2^(jab b).length-1:Nat):Int)+1=((N:Nat):Int) by omega];exact jlr zO) ?_;refine D243 ?_;refine (Md.starC Tryz.prog B).weak (h':=(ro h++[⟨false,q3,.cells [gv].toArray 141 (0,0)⟩,⟨false,q5,.cells [.chan (some ch)].toArray 193 (0,0)⟩])++[(jji N hit q6 ch).wgC 0 0 0]++[⟨true,ch,.chan 0 #[] false 0 0 false⟩]) jlb ?_;refine run_midC (C:=(jji N hit q6 ch)) ?_;refine jnv (fun nn D' s' h' l'=> ∃(t:Nat),D'=0∧s'= .m (N-t) .idle [] false∧ro h++[⟨false,q3,.cells [gv].toArray 141 (0,0)⟩,⟨false,q5,.cells [.chan (some ch)].toArray 193 (0,0)⟩]=h'∧nn=N-t∧t≤N∧ ∃U:Nat→Value,l'=((.pointer (some ⟨q,0,none⟩))::gv::(U 2)::(.pointer (some ⟨q3,0,none⟩))::(.slice none 0 0)::(.pointer (some ⟨q5,0,none⟩))::(.pointer (some ⟨q6,0,none⟩))::vw10 U 7 ((.int .u64 (N:Int))::(.int .u64 (t:Int))::vw23 U 19 []))) _ ⟨0,rfl,rfl,rfl,rfl,by omega,exU rfl⟩ ?_
 rintro nn _ _ _ _ ⟨t,rfl,rfl,rfl,rfl,ht,U,rfl⟩ hnext1;refine Md.midC.to ?_
 try dsimp only
 refine rs1 ?_;refine jan rfl zq (fun hc=>?_) (fun hc=>?_)
 ·refine D205 ?_;refine D186 ?_
  refine jau rfl zq (fun q7=>k_hp (jad ?_));refine D27 ?_;refine D151 ?_
  obtain ⟨r,hr⟩: ∃r,N-t=r+1:=⟨N-t-1,by omega⟩
  rw [hr];refine Md.midC.of ?_;refine D20 ?_
  refine i_cal rfl zq zK (addZ_c rfl (hM q6 ch) ?_);refine jfR rfl ?_;refine D15 ?_;refine Md.midC.to ?_;refine D140 ?_;refine jgq rfl zq ?_;refine D1 ?_;refine Md.midC.of ?_;refine jmw (h':=ro h++[⟨false,q3,.cells [gv].toArray 141 (0,0)⟩,⟨false,q5,.cells [.chan (some ch)].toArray 193 (0,0)⟩]) (hc:=ro h++[⟨false,q3,.cells [gv].toArray 141 (0,0)⟩,⟨false,q5,.cells [.chan (some ch)].toArray 193 (0,0)⟩,⟨true,q7,.cells [.int .u64 (t:Int)].toArray 134 (0,0)⟩]) rfl (show r+1≤N by omega) jaa jaa (fun w sw=>?_) (fun j hj=>by
   rw [show (jji N hit q6 ch).n-(r+1)=t from (by omega:N-(r+1)=t)];exact kid154 zO zO hg) ?_
  ·refine ap_last (F:=ro h++[⟨false,q3,.cells [gv].toArray 141 (0,0)⟩,⟨false,q5,.cells [.chan (some ch)].toArray 193 (0,0)⟩]) (q:=q7) (o:= .cells [.int .u64 (t:Int)].toArray 134 (0,0)) (by simpa using sw) (fun c hc=>?_) (fun d hd hr=>?_)
   ·rcases List.mem_append.1 hc with hc|hc
    ·exact (jg3 hc).1
    ·simp only [List.mem_cons,List.not_mem_nil,or_false] at hc
     rcases hc with rfl|rfl<;>rfl
   ·rcases List.mem_append.1 hd with hd|hd
    ·rw [(jg3 hd).1] at hr
     cases hr
    ·simp only [List.mem_cons,List.not_mem_nil,or_false] at hd
     rcases hd with rfl|rfl|rfl
     ·cases hr
     ·cases hr
     ·rfl
  refine Md.midC.to ?_;refine jba ?_;refine D12 ?_;refine rr2 ?_;refine k_addW ((t+1:Nat):Int) rfl zq (by rw [show (t:Int)+1=((t+1:Nat):Int) by omega];exact jlr zO) ?_;refine Zs ?_;refine D1 ?_;refine Md.midC.of ?_;refine SyC.weaken (h':=ro h++[⟨false,q3,.cells [gv].toArray 141 (0,0)⟩,⟨false,q5,.cells [.chan (some ch)].toArray 193 (0,0)⟩]) jaa ?_
  exact hnext1 _ _ _ _ _ zO ⟨t+1,rfl,by rw [show r=N-(t+1) by omega],rfl,rfl,by omega,exU rfl⟩
 ·refine D175 ?_;refine D2 ?_
  obtain rfl:N=t:=by omega
  rw [Nat.sub_self];refine D140 ?_;refine jgq rfl zq ?_;refine D1 ?_;refine Md.midC.of ?_
  refine jkM (h':=ro h++[⟨false,q3,.cells [gv].toArray 141 (0,0)⟩,⟨false,q5,.cells [.chan (some ch)].toArray 193 (0,0)⟩]) (hc:=ro h++[⟨false,q5,.cells [.chan (some ch)].toArray 193 (0,0)⟩]) rfl jaa jaa (fun w sw=>?_) (fun j hj=>kid157 zO) ?_
  ·refine apAll (fun c hc=>?_) (fun c hc=>?_)
   ·rcases List.mem_append.1 hc with hc|hc
    ·exact (jg3 hc).1
    ·simp only [List.mem_cons,List.not_mem_nil,or_false] at hc
     rcases hc with rfl|rfl<;>rfl
   ·rcases List.mem_append.1 hc with hc|hc
    ·exact (jg3 hc).1
    ·simp only [List.mem_cons,List.not_mem_nil,or_false] at hc
     rcases hc with rfl
     rfl
  refine Md.midC.to ?_;refine jba ?_;refine D161 ?_;refine rs1 ?_;refine D243 ?_;refine Md.midC.of ?_;refine jnv (fun nn D' s' h' l'=> ∃(got:List Nat) (sp:Option Addr) (sc:Nat) (ws:List Value) (X W:Hp),D'=0∧s'= .m 0 .idle got true∧ro h++[⟨false,q3,.cells [gv].toArray 141 (0,0)⟩,⟨false,q5,.cells [.chan (some ch)].toArray 193 (0,0)⟩]++X++W=h'∧nn=N-got.length∧(got.Nodup∧ ∀k∈got,k<N)∧OwnS 42 1 (.slice sp (llW got).length sc) (llW got).length ws W∧RdE B X ws (llW got)∧ ∃U:Nat→Value,l'=((.pointer (some ⟨q,0,none⟩))::gv::(U 2)::(.pointer (some ⟨q3,0,none⟩))::(.slice none 0 0)::(.pointer (some ⟨q5,0,none⟩))::(.pointer (some ⟨q6,0,none⟩))::(U 7)::(.slice sp (llW got).length sc)::vw8 U 9 ((.int .u64 (N:Int))::vw7 U 18 ((.chan (some ch))::vw16 U 26 [])))) _ ⟨[],none,0,[],[],[],rfl,rfl,by simp,rfl,⟨List.nodup_nil,fun k hk=>by cases hk⟩,OwnS.nil,RdE.nil,exU rfl⟩ ?_
  rintro nn _ _ _ _ ⟨got,sp,sc,ws,X,W,rfl,rfl,rfl,rfl,⟨hnd,hlt⟩,oW,eX,U,rfl⟩ hnext2;refine Md.midC.to ?_
  try dsimp only
  have hgl:=got_le hlt hnd
  have hll:(llW got).length=got.length:=llW_len got
  refine D2 ?_;refine jg1 [] [0,1] zK zK ?_;refine D1 ?_;refine Md.midC.of ?_
  refine jnt (dir:=0) (z:= .slice none 0 0) rfl rfl Mute.zero (fun kn v hp hh hkn hnin hP=>?_) (fun hnd2 hall=>?_)
  ·have hnd2:(got++[kn]).Nodup:=by
    rw [List.nodup_append];exact ⟨hnd,by simp,fun a ha c hc=>by rw [List.mem_singleton] at hc;subst hc;exact fun e=>hnin (e▸ha)⟩
   have hlt2: ∀k∈got++[kn],k<N:=fun k hk=>by
    rcases List.mem_append.1 hk with hk|hk
    ·exact hlt k hk
    ·rw [List.mem_singleton] at hk
     subst hk
     exact hkn
   have hgl2:=got_le hlt2 hnd2
   rw [List.length_append,List.length_singleton] at hgl2
   have hP':OwnS 3 1 v (ja0 kn 12).length (ints (ja0 kn 12)) hp:=hP
   obtain ⟨vp,vc,rfl,hvc,rV⟩:=jap (B:=B) hP'
   refine jdk ?_;refine Md.midC.to ?_;refine jjS [(1,.free)] zK rfl ?_;refine Zs ?_;refine D1 ?_;skip
   refine D2 ?_;refine D8 ?_;refine D7 ?_;refine D11 ?_;refine D152 ?_;refine D0 ?_;refine rr5 ?_;refine Z2 ?_
   refine k_bs kdq rfl zq zA zA rfl (fun q31=>k_hp (jad ?_));refine ja3 rfl zq rfl oW kdq zO zO (fun w32 n32 o32=>jad ?_);have e1:(llW (got++[kn])).length=(llW got).length+1:=by rw [jl0,List.length_append];rfl
   obtain ⟨p32,c32,rfl,_⟩:=o32.len
   refine D0 ?_;refine D12 ?_;refine Md.midC.of ?_;refine SyC.weaken (h':=ro h++[⟨false,q3,.cells [gv].toArray 141 (0,0)⟩,⟨false,q5,.cells [.chan (some ch)].toArray 193 (0,0)⟩]++X++hp++n32) weakOff3 ?_
   exact hnext2 _ _ _ _ _ (by rw [List.length_append];show N-(got.length+1)<_;omega) ⟨got++[kn],p32,c32,_,X++hp,n32,rfl,rfl,by simp only [List.append_assoc],rfl,⟨hnd2,hlt2⟩,by rw [e1];exact o32,by rw [jl0];exact (eX.keeps (List.sublist_append_left _ _)).snoc rfl (rV.keeps (List.sublist_append_right _ _)) hvc,by rw [e1];exact exU rfl⟩
  ·show (Md.starC Tryz.prog B).R K _ _
   refine run_putm ?_;refine jjS [(1,.free)] zK rfl ?_;refine Zs ?_;refine D1 ?_;skip
   refine D2 ?_;refine D6 ?_;refine D23 ?_;refine rs10 ?_;refine Zs ?_
   refine jal rfl zq ?_;refine Zs ?_;refine k_ld rfl zq (hcv.ro.keeps SubH.sub) ?_;refine Zs ?_;refine D120 ?_
   rintro v rfl;refine D9 ?_;refine jaS rfl zq zK (fun H' hH=>f156_c _ H' (2^(jab b).length-1) zO) ?_
   rintro v nA oA;refine D9 ?_
   obtain ⟨ap,ac,rfl,hac,rA⟩:=jap (B:=B) oA
   refine Zs ?_;refine jcG rfl zq zK (f159_c _ _ ((oW.rd (List.Sublist.refl _)).keeps SubH.sub) (eX.keeps SubH.sub) zO (fun l hl=>by obtain ⟨k,_,rfl⟩:=List.mem_map.1 hl;have:=jdI k 12;omega) (rA.keeps SubH.sub) (by have:=jdI (2^(jab b).length-1) 12;omega)) ?_
   rintro v h' ⟨rfl,rv⟩;refine D220 ?_;refine jac (ro h++[⟨false,q3,.cells [gv].toArray 141 (0,0)⟩,⟨false,q5,.cells [.chan (some ch)].toArray 193 (0,0)⟩]++X++W++nA) rfl Tryz.func103 rfl jaa ?_;refine D5 ?_
   refine ⟨[⟨false,q3,.cells [gv].toArray 141 (0,0)⟩,⟨false,q5,.cells [.chan (some ch)].toArray 193 (0,0)⟩]++X++W++nA,by simp only [List.append_assoc],_,rv,jnj h12 (fun k=>?_) hh1⟩
   rw [←hN];exact hall k
theorem callB104:jbz Tryz.prog 104=true:=by kernel_rfl
theorem callB105:jbz Tryz.prog 105=true:=by kernel_rfl
def fewB (b:Tb) (k:Nat):Bool:=!(patA (cdT b) (patN k (jab b).length)).isEmpty
def jiz (b:Tb) (k:Nat):Bool:=!jb7 (jaX (patN k (jab b).length) (cdT b))
theorem jes {b:Tb} {k:Nat}:fewB b k=true↔patA (cdT b) (patN k (jab b).length)≠[]:=by
 unfold fewB
 cases patA (cdT b) (patN k (jab b).length)<;>simp
theorem jfV {b:Tb} {k:Nat}:jiz b k=true↔ ¬jb7 (jaX (patN k (jab b).length) (cdT b))=true:=by simp [jiz]
theorem jha {α:Type}: ∀(D:List α) (p:List Bool),(∀x∈p,x=true)→p.length=D.length→jaX p D=D
 |[],[],_,_=>rfl
 |[],_::_,_,h=>by simp at h
 |_::_,[],_,h=>by simp at h
 |d::D,x::p,h,hl=>by
  obtain rfl:=h x zS
  show d::jaX p D=d::D
  rw [jha D p (fun y hy=>h y (by simp [hy])) (by simpa using hl)]
theorem jhb (n:Nat): ∀x∈patN (2^n-1) n,x=true:=fun x hx=>by
 rw [patN,List.mem_map] at hx
 obtain ⟨i,hi,rfl⟩:=hx
 rw [List.mem_range] at hi
 rw [Nat.testBit_two_pow_sub_one];simpa using hi
theorem jog (n:Nat):patN 0 n=(patN (2^n-1) n).map (!·):=by
 rw [←jlS (by have:=Nat.two_pow_pos n;omega),Nat.sub_self]
theorem jlT: ∀(D:List Cd) (p:List Bool),(∀x∈p,x=true)→p.length=D.length→patA D p≠[]
 |[],_,_,_=>by simp [patA]
 |_::_,[],_,h=>by simp at h
 |d::D,x::p,h,hl=>by
  obtain rfl:=h x zS
  show (patA D p).map _≠[]
  have:=jlT D p (fun y hy=>h y (by simp [hy])) (by simpa using hl)
  simpa using this
theorem jpd (b:Tb):fewB b (2^(jab b).length-1)=true:=jes.2 (jlT _ _ (jhb _) (by rw [jbr,jaB]))
theorem jjE (b:Tb):patA (cdT b) (patN 0 (jab b).length)≠[]↔jb7 (cdT b)=true:=by
 rw [jog,jeo (by rw [jbr,jaB]),jha _ _ (jhb _) (by rw [jbr,jaB])]
theorem jlj {b:Tb} (h: ¬jb7 (cdT b)=true):jiz b (2^(jab b).length-1)=true:=jfV.2 (by rw [jha _ _ (jhb _) (by rw [jbr,jaB])];exact h)
theorem Sheet.ro {B:Array Obj} {H:Hp} {b:Tb} {q:Nat} {tv:List Value} (s:Sheet B H b q tv):Sheet B (Lo.ro H) b q tv:=by
 obtain ⟨h0,h1,⟨p,c,h2,h3,h4⟩,⟨rw,qm,h5,h6⟩,h7,h8⟩:=s
 refine ⟨h0,fun j hj=>(h1 j hj).ro,⟨p,c,h2.ro,h3,h4.ro⟩,⟨false,qm,h5.ro,List.mem_map.2 ⟨_,h6,rfl⟩⟩,fun i hi=>(h7 i hi).ro,fun i hi=>?_⟩
 obtain ⟨p,c,a1,a2,a3⟩:=h8 i hi
 exact ⟨p,c,a1.ro,a2,a3.ro⟩
theorem asks104 {hb:Hp} {b:Tb} {q:Nat} {tv:List Value} (sh:Sheet B hb b q tv):Asks B (.func (.func 104) #[.pointer (some ⟨q,0,none⟩)] #[]) hb (2^(jab b).length) (fewB b):=fun m k H' hk hs=>by
 have h12:2^(jab b).length≤2^12:=Nat.pow_le_pow_right zO sh.twelve
 refine CallV.mono (CallV.fn' (vs:= #[.pointer (some ⟨q,0,none⟩),.int .u64 (k:Int)]) callB104 zS (f104_c m H' (sh.keeps hs) zO)) fun v h' ⟨e,p⟩=>⟨e,?_⟩
 rcases p with ⟨c,e⟩|⟨c,e⟩
 ·exact .inl ⟨jes.2 c,e⟩
 ·exact .inr ⟨fun x=>c (jes.1 x),e⟩
theorem asks105 {hb:Hp} {b:Tb} {q qx:Nat} {tv:List Value} (sh:Sheet B hb b q tv) (rx:Rd B hb ⟨qx,0,none⟩ (.pointer (some ⟨q,0,none⟩))):Asks B (.func (.func 105) #[] #[.pointer (some ⟨qx,0,none⟩)]) hb (2^(jab b).length) (jiz b):=fun m k H' hk hs=>by
 refine CallV.mono (CallV.fn' (vs:= #[.int .u64 (k:Int),.pointer (some ⟨qx,0,none⟩)]) callB105 zS (f105_c m H' (sh.keeps hs) (rx.keeps hs) hk)) fun v h' ⟨e,p⟩=>⟨e,?_⟩
 rcases p with ⟨c,e⟩|⟨c,e⟩
 ·exact .inl ⟨jfV.2 c,e⟩
 ·exact .inr ⟨fun x=>c (jfV.1 x),e⟩
theorem jf7 (a c:Hp):ro (a++c)=ro a++ro c:=List.map_append
theorem f40_c (h:Hp) {b:Tb} {ps:Option Addr} {ns ks:Nat} {pw:Option Addr} {nw cw:Nat} {pb:Option Addr} {nb cb:Nat} (ra:RawTb B h b ps ns ks pw nw cw pb nb cb):FnC (Md.starC Tryz.prog B) 40 #[tbV b ps ns ks pw nw cw pb nb cb] h fun v h'=> ∃nw w g,h'=ro h++nw∧v= .tuple [w,.int .i64 (tbS b)].toArray∧RdI B h' w g∧(tbS b≠0→g=[])∧(tbS b=0→jeG (fun l=>fewB b (jbN l)=true) (jab b).length g):=by
 refine jae Tryz.func40 rfl rfl (l:=(tbV b ps ns ks pw nw cw pb nb cb)::uu16) rfl ?_
 intro cf cs K hK
 refine rs3 ?_;refine jaQ rfl zq (fun q1=>k_hp (jad ?_));refine Zs ?_;refine D150 ?_;refine D186 ?_;refine jaj (Post:=fun v=>v=_) rfl zq zK (fun H' hH=>f65_r _ H' (ra.keeps (sq hH))) ?_
 rintro v rfl;refine D235 ?_
 refine ja4 rfl zq (fun hc=>?_) (fun hc=>?_)
 ·refine D148 ?_;refine D203 ?_;refine D146 ?_;refine jac (h) rfl Tryz.func40 rfl jaa ?_;refine D131 ?_;refine D5 ?_
  have hne:tbS b≠0:=by omega
  exact ⟨[],_,[],by simp,rfl,RdI.nil,fun _=>rfl,fun e=>absurd e hne⟩
 ·refine D165 ?_
  have hz0:tbS b=0:=by omega
  have hk:=ja6.1 hz0
  have h12:=jbj hk
  refine rr3 ?_;refine Zs ?_;refine D79 ?_;rintro v n12 ⟨q,rfl,sh⟩;refine D9 ?_;refine D0 ?_;refine rs6 ?_;refine Z2 ?_;refine jgq rfl zq ?_;refine jcG rfl zq zK (f103_c _ (sh.keeps SubH.sub) (asks104 (sh.keeps SubH.sub).ro) (jpd b)) ?_
  rintro v h' ⟨nz,rfl,g,rg,hl⟩;obtain ⟨gp,gc,rfl,rg⟩:=rg
  refine D9 ?_;refine D195 ?_;refine jac (ro (h++[⟨true,q1,.cells (tbL b ps ns ks pw nw cw pb nb cb).toArray 25 (0,0)⟩]++n12)++nz) rfl Tryz.func40 rfl jaa ?_;refine D5 ?_
  exact ⟨ro [⟨true,q1,.cells (tbL b ps ns ks pw nw cw pb nb cb).toArray 25 (0,0)⟩]++ro n12++nz,_,g,by simp only [jf7,List.append_assoc],by rw [hz0],⟨gp,gc,rfl,rg⟩,fun e=>absurd hz0 e,fun _=>hl⟩
theorem f41_c (h:Hp) {b:Tb} {ps:Option Addr} {ns ks:Nat} {pw:Option Addr} {nw cw:Nat} {pb:Option Addr} {nb cb:Nat} (ra:RawTb B h b ps ns ks pw nw cw pb nb cb):FnC (Md.starC Tryz.prog B) 41 #[tbV b ps ns ks pw nw cw pb nb cb] h fun v h'=> ∃nw w g,h'=ro h++nw∧v= .tuple [w,.int .i64 (tbS b)].toArray∧RdI B h' w g∧(tbS b≠0→g=[])∧(tbS b=0→jb7 (cdT b)=true→g=[])∧(tbS b=0→ ¬jb7 (cdT b)=true→jeG (fun l=>jiz b (jbN l)=true) (jab b).length g):=by
 refine jae Tryz.func41 rfl rfl (l:=(tbV b ps ns ks pw nw cw pb nb cb)::uu17) rfl ?_
 intro cf cs K hK
 refine rs3 ?_;refine jaQ rfl zq (fun q1=>k_hp (jad ?_));refine Zs ?_;refine D150 ?_;refine D186 ?_;refine jaj (Post:=fun v=>v=_) rfl zq zK (fun H' hH=>f65_r _ H' (ra.keeps (sq hH))) ?_
 rintro v rfl;refine D235 ?_
 refine ja4 rfl zq (fun hc=>?_) (fun hc=>?_)
 ·refine D148 ?_;refine D203 ?_;refine D146 ?_;refine jac (h) rfl Tryz.func41 rfl jaa ?_;refine D131 ?_;refine D5 ?_
  have hne:tbS b≠0:=by omega
  exact ⟨[],_,[],by simp,rfl,RdI.nil,fun _=>rfl,fun _ _=>rfl,fun e=>absurd e hne⟩
 ·refine D165 ?_
  have hz0:tbS b=0:=by omega
  have hk:=ja6.1 hz0
  have h12:=jbj hk
  refine rr4 ?_;refine Zs ?_;refine D79 ?_;rintro v n12 ⟨q,rfl,sh⟩;refine D9 ?_
  refine jau rfl zq (fun q5=>k_hp (jad ?_));refine D27 ?_;refine D151 ?_;refine D152 ?_;refine jaj (Post:=fun v=>IsB _ v) rfl zq zK (fun H' hH=>f104_c _ H' (sh.keeps (sq hH)) (s:=0) zO) ?_
  rintro v (⟨hc,rfl⟩|⟨hc,rfl⟩)
  ·refine D9 ?_
   have hsd:=(jjE b).1 hc
   refine D178 ?_;refine jac (h) rfl Tryz.func41 rfl jaa ?_;refine D131 ?_;refine D5 ?_
   exact ⟨[],_,[],by simp,by rw [hz0],RdI.nil,fun _=>rfl,fun _ _=>rfl,fun _ e=>absurd hsd e⟩
  ·refine D9 ?_
   have hcl:=fun e=>hc ((jjE b).2 e)
   refine D149 ?_;refine rs5 ?_;refine Zs ?_;refine jgq rfl zq ?_;refine jcG rfl zq zK (f103_c _ (sh.keeps SubH.sub) (asks105 (sh.keeps SubH.sub).ro (qx:=q5) (Rd.ro (Rd.held (show (⟨true,q5,.cells [.pointer (some ⟨q,0,none⟩)].toArray 109 (0,0)⟩:Chunk)∈_ by simp) rfl))) (jlj hcl)) ?_
   rintro v h' ⟨nz,rfl,g,rg,hl⟩;obtain ⟨gp,gc,rfl,rg⟩:=rg
   refine D9 ?_;refine D195 ?_;refine jac (ro (h++[⟨true,q1,.cells (tbL b ps ns ks pw nw cw pb nb cb).toArray 25 (0,0)⟩]++n12++[⟨true,q5,.cells [.pointer (some ⟨q,0,none⟩)].toArray 109 (0,0)⟩])++nz) rfl Tryz.func41 rfl jaa ?_;refine D5 ?_
   exact ⟨ro [⟨true,q1,.cells (tbL b ps ns ks pw nw cw pb nb cb).toArray 25 (0,0)⟩]++ro n12++ro [⟨true,q5,.cells [.pointer (some ⟨q,0,none⟩)].toArray 109 (0,0)⟩]++nz,_,g,by simp only [jf7,List.append_assoc],by rw [hz0],⟨gp,gc,rfl,rg⟩,fun e=>absurd hz0 e,fun _ e=>absurd e hcl,fun _ _=>hl⟩
def badL (l:Ln):Prop:=20<l.figs.length∨ ∃k,k<l.figs.length∧100<(l.figs.getD k []).length
def grL (ls:List Ln):Prop:= ∃i,i<ls.length∧badL (ls.getD i default)
def jmv (b:Tb):Prop:=20<b.sts.length∨20<b.waters.length∨20<b.butts.length∨(∃j,j<b.sts.length∧100<(b.sts.getD j []).length)∨grL b.waters∨grL b.butts
def FitT (b:Tb):Prop:= ¬jmv b∧tbS b=0
theorem jlB {ls:List Ln} (h: ¬grL ls): ∀l∈ls,l.figs.length≤1000∧ ∀f∈l.figs,f.length≤100000:=fun l hl=>by
 obtain ⟨i,hi,e⟩:=List.mem_iff_getElem.1 hl
 have hg:ls.getD i default=l:=by rw [List.getD_eq_getElem?_getD,List.getElem?_eq_getElem hi,Option.getD_some,e]
 have hb: ¬badL l:=fun x=>h ⟨i,hi,by rw [hg];exact x⟩
 refine ⟨Nat.le_of_not_lt fun x=>hb (.inl zO),fun f hf=>Nat.le_of_not_lt fun x=>?_⟩
 obtain ⟨k,hk,e⟩:=List.mem_iff_getElem.1 hf
 exact hb (.inr ⟨k,hk,by rw [List.getD_eq_getElem?_getD,List.getElem?_eq_getElem hk,Option.getD_some,e];omega⟩)
theorem jlA {b:Tb} (h: ¬jmv b):TbSm b:=by
 refine ⟨fun s hs=>Nat.le_of_not_lt fun x=>?_,jlB fun e=>h (.inr (.inr (.inr (.inr (.inl e))))),jlB fun e=>h (.inr (.inr (.inr (.inr (.inr e)))))⟩
 obtain ⟨k,hk,e⟩:=List.mem_iff_getElem.1 hs
 exact h (.inr (.inr (.inr (.inl ⟨k,hk,by rw [List.getD_eq_getElem?_getD,List.getElem?_eq_getElem hk,Option.getD_some,e];omega⟩))))
theorem f86_c (m:Md Tryz.prog B) (h:Hp) {p:Option Addr} {n c:Nat} {ls:List Ln} (hln:RdLn B h (.slice p n c) n ls) (hn:n≤20):FnC m 86 #[.slice p n c] h fun v h'=>h'=h∧IsB (grL ls) v:=by
 obtain ⟨lps,rfl,rl,hfig⟩:=hln
 have hll:=rl.elen zA
 refine jae Tryz.func86 rfl rfl (l:=(.slice p n c)::uu37) rfl ?_
 intro cf cs K hK
 refine D217 ?_
 refine jai (fun nn l h'=> ∃(i:Nat),nn=n-i∧(i≤n)∧(∀j,j<i→ ¬badL (lps.getD j default).ln)∧(∃U:Nat→Value,l=((.slice p n c)::(U 1)::(U 2)::(.int .i64 (i:Int))::vw34 U 4 []))∧h=h') _ ⟨0,rfl,by omega,fun j hj=>absurd hj zO,exU rfl,rfl⟩ ?_;rintro nn l h' ⟨i,rfl,hi,hgo,⟨U,rfl⟩,rfl⟩ hnext1;refine D2 ?_;refine D196 ?_
 refine jan rfl zq (fun hc=>?_) (fun hc=>?_)
 ·refine D190 ?_;refine D2 ?_
  obtain ⟨rlb,rlo,hrp⟩:=rl.ptr zO
  have rl2:=rl
  rw [hrp] at rl2
  obtain ⟨hxc,rdf0⟩:=hfig _ (jak (l:=lps) (i:=i) zO)
  refine rr7 ?_;refine Z2 ?_;refine D90 ?_;refine Zs ?_;refine D69 ?_;refine Zs ?_;refine jaF rfl zq (fun hc=>?_) (fun hc=>?_)
  ·refine D166 ?_;refine jac (h) rfl Tryz.func86 rfl jaa ?_;refine D5 ?_
   exact ⟨rfl,IsB.yes ⟨i,by rw [List.length_map];omega,by rw [jaR _ _ zO];exact .inl zO⟩⟩
  ·refine D149 ?_;refine D180 ?_
   refine jai (fun nn l h'=> ∃(k:Nat),nn=(lps.getD i default).ln.figs.length-k∧(k≤(lps.getD i default).ln.figs.length)∧(∀j,j<k→ ¬100<((lps.getD i default).ln.figs.getD j []).length)∧(∃U:Nat→Value,l=((.slice p n c)::(U 1)::(U 2)::(.int .i64 (i:Int))::(.int .i64 (k:Int))::vw33 U 5 []))∧h=h') _ ⟨0,rfl,by omega,fun j hj=>absurd hj zO,exU rfl,rfl⟩ ?_;rintro nn l h' ⟨k,rfl,hk,hfk,⟨U,rfl⟩,rfl⟩ hnext2;refine D2 ?_;refine rs8 ?_;refine Z3 ?_;refine D90 ?_;refine Zs ?_;refine D69 ?_;refine Zs ?_
   refine jan rfl zq (fun hc=>?_) (fun hc=>?_)
   ·refine D190 ?_
    have rdf:=rdf0 zO
    obtain ⟨fb,fo,hfp⟩:=rdf.ptr zO
    have rdg:=rdf
    rw [hfp] at rdg
    refine rr10 ?_;refine Z2 ?_;refine D90 ?_;refine Zs ?_;refine D69 ?_;refine Zs ?_;refine D66 ?_;refine D126 ?_;refine D60 ?_;refine jaF rfl zq (fun hc=>?_) (fun hc=>?_)
    ·refine D166 ?_;refine jac (h) rfl Tryz.func86 rfl jaa ?_;refine D5 ?_
     exact ⟨rfl,IsB.yes ⟨i,by rw [List.length_map];omega,by rw [jaR _ _ zO];exact .inr ⟨k,by omega,by omega⟩⟩⟩
    ·refine D231 ?_
     exact m.weak jaa (hnext2 _ _ _ zO ⟨k+1,rfl,by omega,fun j hj=>by
      by_cases e:j<k
      ·exact hfk j e
      ·obtain rfl:j=k:=by omega
       omega,exU rfl,rfl⟩)
   ·refine D172 ?_;refine D171 ?_
    exact m.weak jaa (hnext1 _ _ _ zO ⟨i+1,rfl,by omega,fun j hj=>by
     by_cases e:j<i
     ·exact hgo j e
     ·obtain rfl:j=i:=by omega
      rintro (e|⟨k2,hk2,e⟩)
      ·omega
      ·exact hfk k2 zO e,exU rfl,rfl⟩)
 ·refine D172 ?_;refine D153 ?_;refine jac (h) rfl Tryz.func86 rfl jaa ?_;refine D5 ?_
  refine ⟨rfl,IsB.no ?_⟩
  rintro ⟨j,hj,e⟩;rw [List.length_map] at hj
  rw [jaR _ _ zO] at e
  exact hgo j zO e
theorem f19_c (m:Md Tryz.prog B) (h:Hp) {b:Tb} {ps:Option Addr} {ns ks:Nat} {pw:Option Addr} {nw cw:Nat} {pb:Option Addr} {nb cb:Nat} (rds:RdS B h 1 (.slice ps ns ks) ns (encs b.sts)) (hcs:ns≤ks) (rdw:RdLn B h (.slice pw nw cw) nw b.waters) (rdb:RdLn B h (.slice pb nb cb) nb b.butts):FnC m 19 #[tbV b ps ns ks pw nw cw pb nb cb] h fun v h'=>h'=h∧IsB (jmv b) v:=by
 have hml:=rds.elen zA
 have hwl:=jbv rdw
 have hbl:=jbv rdb
 refine jae Tryz.func19 rfl rfl (l:=(tbV b ps ns ks pw nw cw pb nb cb)::uu41) rfl ?_
 intro cf cs K hK
 refine rs2 ?_;refine jaQ rfl zq (fun q1=>k_hp (jad ?_));refine D150 ?_;refine D2 ?_;refine rr16 ?_;refine Z3 ?_
 refine jaF rfl zq (fun hc=>?_) (fun hc=>?_)
 ·refine Z5 ?_;refine D13 ?_;refine Z5 ?_;refine D209 ?_;refine D123 ?_;refine D5 ?_
  first
   |exact E58
   |exact E59
   |exact E60
   |exact E61
   |exact E62
   |exact E63
   |exact ⟨rfl,IsB.no fun e=>by
     rcases e with e|e|e|⟨i,hi,e⟩|e|e
     ·omega
     ·omega
     ·omega
     ·exact hgo i zO e
     ·exact hgw e
     ·exact hgb e⟩
 ·refine Z4 ?_
  refine jaF rfl rfl (fun hc=>?_) (fun hc=>?_)
  ·refine D10 ?_;refine Z5 ?_;refine D209 ?_;refine D123 ?_;refine D5 ?_
   first
    |exact E58
    |exact E59
    |exact E60
    |exact E61
    |exact E62
    |exact E63
    |exact ⟨rfl,IsB.no fun e=>by
      rcases e with e|e|e|⟨i,hi,e⟩|e|e
      ·omega
      ·omega
      ·omega
      ·exact hgo i zO e
      ·exact hgw e
      ·exact hgb e⟩
  ·refine D10 ?_;refine Z4 ?_
   refine jaF rfl rfl (fun hc=>?_) (fun hc=>?_)
   ·refine D10 ?_;refine D166 ?_;refine D123 ?_;refine D5 ?_
    first
     |exact E58
     |exact E59
     |exact E60
     |exact E61
     |exact E62
     |exact E63
     |exact ⟨rfl,IsB.no fun e=>by
       rcases e with e|e|e|⟨i,hi,e⟩|e|e
       ·omega
       ·omega
       ·omega
       ·exact hgo i zO e
       ·exact hgw e
       ·exact hgb e⟩
   ·refine D10 ?_;refine D165 ?_;refine D180 ?_
    refine jai (fun nn l h'=> ∃(j:Nat),nn=ns-j∧(j≤ns)∧(∀i,i<j→ ¬100<(b.sts.getD i []).length)∧(∃U:Nat→Value,l=((tbV b ps ns ks pw nw cw pb nb cb)::(.pointer (some ⟨q1,0,none⟩))::(U 2)::(.int .i64 (j:Int))::vw38 U 4 []))∧h++[⟨true,q1,.cells (tbL b ps ns ks pw nw cw pb nb cb).toArray 25 (0,0)⟩]=h') _ ⟨0,rfl,by omega,fun i hi=>absurd hi zO,exU rfl,rfl⟩ ?_;rintro nn l h' ⟨j,rfl,hj,hgo,⟨U,rfl⟩,rfl⟩ hnext;refine D2 ?_;refine rs5 ?_;refine Z4 ?_
    refine jan rfl zq (fun hc=>?_) (fun hc=>?_)
    ·refine D190 ?_
     obtain ⟨sb,so,hsp⟩:=rds.ptr zO
     have rds2:=rds
     rw [hsp] at rds2
     refine rr7 ?_;refine Z3 ?_;refine jdl rfl zq hsp zO zO ?_;refine k_ld rfl zq ((rds2.sat j zO zO).keeps (List.sublist_append_left _ _)) ?_;refine D60 ?_;refine jaF rfl zq (fun hc=>?_) (fun hc=>?_)
     ·refine D166 ?_;refine D123 ?_;refine D5 ?_
      first
       |exact E58
       |exact E59
       |exact E60
       |exact E61
       |exact E62
       |exact E63
       |exact ⟨rfl,IsB.no fun e=>by
         rcases e with e|e|e|⟨i,hi,e⟩|e|e
         ·omega
         ·omega
         ·omega
         ·exact hgo i zO e
         ·exact hgw e
         ·exact hgb e⟩
     ·refine D231 ?_
      exact m.weak jaa (hnext _ _ _ zO ⟨j+1,rfl,by omega,fun i hi=>by
       by_cases e:i<j
       ·exact hgo i e
       ·obtain rfl:i=j:=by omega
        omega,exU rfl,rfl⟩)
    ·refine D172 ?_;refine rs9 ?_;refine Z2 ?_;refine jaj (Post:=fun v=>IsB _ v) rfl zq zK (fun H' hH=>f86_c m H' (rdw.keeps (sq hH)) zO) ?_
     rintro v (⟨hc,rfl⟩|⟨hc,rfl⟩)
     ·refine D9 ?_
      have hgw:=hc
      refine Z4 ?_;refine D222 ?_;refine D123 ?_;refine D5 ?_
      first
       |exact E58
       |exact E59
       |exact E60
       |exact E61
       |exact E62
       |exact E63
       |exact ⟨rfl,IsB.no fun e=>by
         rcases e with e|e|e|⟨i,hi,e⟩|e|e
         ·omega
         ·omega
         ·omega
         ·exact hgo i zO e
         ·exact hgw e
         ·exact hgb e⟩
     ·refine D9 ?_
      have hgw:=hc
      refine Z3 ?_;refine jaj (Post:=fun v=>IsB _ v) rfl rfl zK (fun H' hH=>f86_c m H' (rdb.keeps (sq hH)) zO) ?_
      rintro v (⟨hc,rfl⟩|⟨hc,rfl⟩);all_goals
       refine D9 ?_
       have hgb:=hc
       refine D179 ?_;refine D123 ?_;refine D5 ?_
       first
        |exact E58
        |exact E59
        |exact E60
        |exact E61
        |exact E62
        |exact E63
        |exact ⟨rfl,IsB.no fun e=>by
          rcases e with e|e|e|⟨i,hi,e⟩|e|e
          ·omega
          ·omega
          ·omega
          ·exact hgo i zO e
          ·exact hgw e
          ·exact hgb e⟩
theorem f25_c (m:Md Tryz.prog B) (h:Hp) {b:Tb} {ps:Option Addr} {ns ks:Nat} {pw:Option Addr} {nw cw:Nat} {pb:Option Addr} {nb cb:Nat} (rds:RdS B h 1 (.slice ps ns ks) ns (encs b.sts)) (hcs:ns≤ks) (rdw:RdLn B h (.slice pw nw cw) nw b.waters) (rdb:RdLn B h (.slice pb nb cb) nb b.butts):FnC m 25 #[tbV b ps ns ks pw nw cw pb nb cb] h fun v h'=>h'=h∧IsB (FitT b) v:=by
 have hml:=rds.elen zA
 have hwl:=jbv rdw
 have hbl:=jbv rdb
 refine jae Tryz.func25 rfl rfl (l:=(tbV b ps ns ks pw nw cw pb nb cb)::uu10) rfl ?_
 intro cf cs K hK
 refine rs2 ?_;refine jaQ rfl zq (fun q1=>k_hp (jad ?_));refine D0 ?_;refine rs9 ?_;refine Zs ?_;refine jaj (Post:=fun v=>IsB _ v) rfl zq zK (fun H' hH=>f19_c m H' (rds.keeps (sq hH)) hcs (rdw.keeps (sq hH)) (rdb.keeps (sq hH))) ?_
 rintro v (⟨hc,rfl⟩|⟨hc,rfl⟩)
 ·refine D9 ?_
  have hgr:=hc
  refine D38 ?_;refine Z4 ?_;refine D179 ?_;refine jac (h) rfl Tryz.func25 rfl jaa ?_;refine D5 ?_
  exact E64
 ·refine D9 ?_
  have hgr:=hc
  have hl1:ns≤20:=Nat.le_of_not_lt fun x=>hgr (.inl zO)
  have hl2:nw≤20:=Nat.le_of_not_lt fun x=>hgr (.inr (.inl zO))
  have hl3:nb≤20:=Nat.le_of_not_lt fun x=>hgr (.inr (.inr (.inl zO)))
  have hsm:=jlA hgr
  refine D40 ?_;refine Z2 ?_;refine jaj (Post:=fun v=>v=_) rfl rfl zK (fun H' hH=>f66_c m H' (rds.keeps (sq hH)) hcs zO hsm.sts (rdw.keeps (sq hH)) zO (rdb.keeps (sq hH)) zO hsm) ?_
  rintro v rfl;refine D9 ?_
  refine jaM rfl rfl (fun hc=>?_) (fun hc=>?_);all_goals
   refine D222 ?_;refine jac (h) rfl Tryz.func25 rfl jaa ?_;refine D5 ?_
   exact E64
theorem f61_c (m:Md Tryz.prog B) (h:Hp) {p p2:Option Addr} {n c n2 c2:Nat} {xs ys:List Int} (rd:RdS B h 1 (.slice p n c) n (ints xs)) (hn:n≤1000000) (rd2:RdS B h 1 (.slice p2 n2 c2) n2 (ints ys)):FnC m 61 #[.slice p n c,.slice p2 n2 c2] h fun v h'=>h'=h∧IsB (xs=ys) v:=by
 refine jae Tryz.func61 rfl rfl (l:=(.slice p n c)::(.slice p2 n2 c2)::uu6) rfl ?_
 intro cf cs K hK
 refine D162 ?_;refine D212 ?_;refine jaj (Post:=fun v=>IsB _ v) rfl zq zK (fun H' hH=>f42_c m H' (rd.keeps (sq hH)) hn (rd2.keeps (sq hH))) ?_
 rintro v (⟨hc,rfl⟩|⟨hc,rfl⟩);all_goals
  refine D220 ?_;refine jac (h) rfl Tryz.func61 rfl jaa ?_;refine D5 ?_
 ·exact ⟨rfl,IsB.yes hc⟩
 ·exact ⟨rfl,IsB.no hc⟩
end Go.Proofs
