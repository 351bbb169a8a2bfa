/- A part of the proof of a law. Condition of each theorem: as its statement says. -/
import Derived.Test.YtggpepeiedkbbaaGreatDoorVG6
set_option linter.all false
variable {B:Array Go.Obj} {v mo:List Int} {r t s:Go.Lo.Str} {k n j q i ns ks nw cw nb cb nl cl:Nat} {h M:Go.Lo.Hp} {a:UInt8} {p pa ps pw pb pl:Option Go.Addr} {cs junk:List Go.Value} {ss:List Go.Lo.Str} {f:Nat×Nat} {b:Go.Lo.Tb} {ls lns:List Go.Lo.Ln}
set_option maxHeartbeats 4000000
set_option maxRecDepth 100000
set_option synthInstance.maxHeartbeats 1000000
set_option synthInstance.maxSize 100000
namespace Go.Proofs
open Go.Lo
open Go.Conc (G)
section
variable [LaidO B]
theorem three (h:v.length=3): ∃a b c,v=[a,b,c]:=by
 match v,h with
 |[a,b,c],_=>exact ⟨a,b,c,rfl⟩
theorem jpO {c:UInt8} (h:c.toNat=45∧0<n∧k<2):rdF mo (c::r) v k n=rdF mo r v (k+1) 0:=by rw [rdF,if_pos h]
theorem jsX {c:UInt8} (h:c.toNat=63∧n=0) (hm:(v.set k (-1)).getD k 0≤mo.getD k 0):rdF mo (c::r) v k n=rdF mo r (v.set k (-1)) k (n+1):=by
 rw [rdF,if_neg zO,if_pos h,if_neg zO]
theorem jlN {c:UInt8} (h:(48≤c.toNat∧c.toNat≤57)∧(n=0∨v.getD k 0>0)) (hm:(v.set k (10*v.getD k 0+((c.toNat:Int)-48))).getD k 0≤mo.getD k 0):rdF mo (c::r) v k n=rdF mo r (v.set k (10*v.getD k 0+((c.toNat:Int)-48))) k (n+1):=by
 rw [rdF,if_neg zO,if_neg zO,if_pos h,if_neg zO]
theorem jlO {c:UInt8} (h:(48≤c.toNat∧c.toNat≤57)∧(n=0∨v.getD k 0>0)) (hm:(v.set k (10*v.getD k 0+((c.toNat:Int)-48))).getD k 0>mo.getD k 0):rdF mo (c::r) v k n=([0,0,0],false):=by
 rw [rdF,if_neg zO,if_neg zO,if_pos h,if_pos hm]
theorem jdz {c:UInt8} (h1: ¬(c.toNat=45∧0<n∧k<2)) (h2: ¬(c.toNat=63∧n=0)) (h3: ¬((48≤c.toNat∧c.toNat≤57)∧(n=0∨v.getD k 0>0))):rdF mo (c::r) v k n=([0,0,0],false):=by
 rw [rdF,if_neg h1,if_neg h2,if_neg h3]
theorem most_atI (k:Nat) (hk:k<3):Rd B h ⟨1,0+(k:Int).toNat*1,none⟩ (.int .i64 (mosts.getD k 0)):=by
 rw [show 0+(k:Int).toNat*1=k by omega];exact most_at k hk
theorem jca {x:Int} (h:k<v.length):(v.set k x).getD k 0=x:=by
 rw [List.getD_eq_getElem?_getD,List.getElem?_set_self h];rfl
theorem jjj {x a c:Int} (hx:a≤x∧x≤c) (hv: ∀j,a≤v.getD j 0∧v.getD j 0≤c) (j:Nat):a≤(v.set k x).getD j 0∧(v.set k x).getD j 0≤c:=by
 rw [List.getD_eq_getElem?_getD,List.getElem?_set];have:=hv j
 rw [List.getD_eq_getElem?_getD] at this
 split
 ·split
  ·exact hx
  ·rw [List.getElem?_eq_none zO] at this
   exact this
 ·exact this
theorem jdW (h:k<3):7≤mosts.getD k 0∧mosts.getD k 0≤11:=by
 rcases (by omega:k=0∨k=1∨k=2) with rfl|rfl|rfl<;>decide
theorem zero3 (j:Nat): -1≤([0,0,0]:List Int).getD j 0∧([0,0,0]:List Int).getD j 0≤11:=by
 match j with
 |0=>decide
 |1=>decide
 |2=>decide
 |j+3=>simp
theorem set_other {x:Int} (h:k≠j):(v.set k x).getD j 0=v.getD j 0:=by
 rw [List.getD_eq_getElem?_getD,List.getElem?_set_ne h,List.getD_eq_getElem?_getD]
theorem jmA (j:Nat):([0,0,0]:List Int).getD j 0=0:=by
 match j with
 |0=>rfl
 |1=>rfl
 |2=>rfl
 |j+3=>simp
theorem rd_ways (ru n k:Nat) (x:Int):(ru=45∧0<n∧k<2)∨(ru=63∧n=0)∨((48≤ru∧ru≤57)∧(n=0∨x>0))∨(¬(ru=45∧0<n∧k<2)∧ ¬(ru=63∧n=0)∧ ¬((48≤ru∧ru≤57)∧(n=0∨x>0))):=by omega
theorem f119_c (m:Md Tryz.prog B) (h:Hp) (s:Str) (hl:s.length≤100000):FnC m 119 #[str s] h fun v h'=>h'=h∧v= .tuple [.agg (jaI (jal s)).toArray,.bool (ja6 s)].toArray:=by
 refine jaf Tryz.func119 rfl rfl (l:=(str s)::uu76) rfl ?_
 intro cf cs K hK
 refine Z2 ?_
 refine jax rfl zq (fun q2=>jau (jae ?_));refine Z11 ?_
 refine k_srange zK rfl zq (fun it=>jau (jae ?_));refine Z2 ?_
 refine jai (fun nn l h'=> ∃(p k n:Nat) (v:List Int),nn=s.length-p∧(rdF mosts (s.drop p) v k n=rdF mosts s [0,0,0] 0 0)∧(v.length=3)∧(k≤2)∧(p≤s.length)∧(n≤p)∧(∀j,-1≤v.getD j 0∧v.getD j 0≤11)∧(∀j,k<j∨(k=j∧n=0)→v.getD j 0=0)∧(∃U:Nat→Value,l=((str s)::(U 1)::(.pointer (some ⟨q2,0,none⟩))::(U 3)::(.int .i64 (k:Int))::(.int .i64 (n:Int))::(U 6)::(U 7)::(U 8)::(.pointer (some ⟨it,0,none⟩))::vw67 U 10 []))∧h++[⟨true,q2,.cells (jaI v).toArray 145 (0,0)⟩,⟨true,it,sitO s p⟩]=h') _ ⟨0,0,0,[0,0,0],rfl,by rw [List.drop_zero],rfl,by omega,by omega,by omega,zero3,fun j _=>jmA j,exU rfl,rfl⟩ ?_;rintro nn l h' ⟨p,k,n,v,rfl,hrd,hv3,hk2,hpl,hnp,hvb,hvz,⟨U,rfl⟩,rfl⟩ hnext;refine Z2 ?_
 refine k_snext2 rfl zq (fun hdone=>jae ?_) (fun c ru p' hc hway=>jae ?_)
 ·refine Z7 ?_;refine jdR rfl zq hv3 ?_;refine Zs ?_
  refine jaS rfl zq (fun hc=>?_) (fun hc=>?_)
  ·refine Z2 ?_
   refine jaY rfl rfl (fun hc=>?_) (fun hc=>?_);all_goals
    refine Zs ?_;refine jfq rfl zq hv3 zS ?_;refine Z3 ?_
    haveI:Seg (jaI v) 0 3 (jaI v):=seg_all (by simpa using hv3)
    refine jor ?_
    have hR:rdF mosts s [0,0,0] 0 0=(v,decide (k=2)&&decide (0<n)):=by rw [←hrd,List.drop_eq_nil_of_le hdone];rfl
   ·have hb:(decide (k=2)&&decide (0<n))=true:=by simp;omega
    rw [ja6,jal,hR,hb];exact ⟨rfl,rfl⟩
   ·have hb:(decide (k=2)&&decide (0<n))=false:=by simp;omega
    rw [ja6,jal,hR,hb];exact ⟨rfl,rfl⟩
  ·refine Z4 ?_;refine jfq rfl zq hv3 zS ?_;refine Z3 ?_
   haveI:Seg (jaI v) 0 3 (jaI v):=seg_all (by simpa using hv3)
   refine jor ?_
   have hR:rdF mosts s [0,0,0] 0 0=(v,decide (k=2)&&decide (0<n)):=by rw [←hrd,List.drop_eq_nil_of_le hdone];rfl
   have hb:(decide (k=2)&&decide (0<n))=false:=by simp;omega
   rw [ja6,jal,hR,hb];exact ⟨rfl,rfl⟩
 ·have hplt:p<s.length:=(List.getElem?_eq_some_iff.1 hc).1
  have hdr:s.drop p=c::s.drop (p+1):=by rw [List.drop_eq_getElem_cons hplt,(List.getElem?_eq_some_iff.1 hc).2]
  have hmo:=jdW (k:=k) zO
  refine Z8 ?_;refine jnJ rfl zq ?_;refine Z5 ?_
  have hvk:=hvb k
  have hvk0:n=0→v.getD k 0=0:=fun e=>hvz k (.inr ⟨rfl,e⟩)
  rcases rd_ways ru n k (v.getD k 0) with hA|hA|hA|⟨hA1,hA2,hA3⟩
  obtain ⟨hc1,hru,rfl⟩:c.toNat<128∧ru=c.toNat∧p'=p+1:=by omega
  rotate_left
  obtain ⟨hc1,hru,rfl⟩:c.toNat<128∧ru=c.toNat∧p'=p+1:=by omega
  rotate_left
  obtain ⟨hc1,hru,rfl⟩:c.toNat<128∧ru=c.toNat∧p'=p+1:=by omega
  all_goals
   refine Z2 ?_
  ·refine jfr rfl zq zO ?_;refine Z14 ?_;refine jfr rfl zq zO ?_;refine Z8 ?_;refine jsR ?_;refine Zs ?_;refine D33 ?_;refine D26 ?_;rintro v (⟨hc,rfl⟩|⟨hc,rfl⟩)
   ·refine Z3 ?_
    refine jaS rfl rfl (fun hc=>?_) (fun hc=>?_)
    ·refine Z14 ?_;refine jtN rfl zq k zO zO ?_;refine D23 ?_;refine Zs ?_;refine D125 ?_;refine Z2 ?_;refine k_stI rfl zq k zO zO ?_;refine Z9 ?_;refine D45 ?_;refine Z4 ?_;refine D132 ?_
     refine jaY rfl zq (fun hc=>?_) (fun hc=>?_)
     ·refine Z4 ?_;refine jqB ?_
      haveI:Seg (jaI [0,0,0]) 0 3 (jaI [0,0,0]):=seg_all rfl
      refine jor ?_
      have hR:rdF mosts s [0,0,0] 0 0=([0,0,0],false):=by rw [←hrd,hdr];exact jlO zO (by rw [jca zO] at hc;rw [jca zO];omega)
      have hfo:ja6 s=false:=by rw [ja6,hR]
      have hps:jal s=[0,0,0]:=by rw [jal,hR]
      rw [hfo,hps];exact ⟨rfl,rfl⟩
     ·refine Z4 ?_
      exact E17
    ·refine Z3 ?_;refine D82 ?_
     refine jaY rfl rfl (fun hc=>?_) (fun hc=>?_)
     ·refine Z9 ?_;refine jtN rfl zq k zO zO ?_;refine D23 ?_;refine Zs ?_;refine D125 ?_;refine Z2 ?_;refine k_stI rfl zq k zO zO ?_;refine Z9 ?_;refine D45 ?_;refine Z4 ?_;refine D132 ?_
      refine jaY rfl zq (fun hc=>?_) (fun hc=>?_)
      ·refine Z4 ?_;refine jqB ?_
       haveI:Seg (jaI [0,0,0]) 0 3 (jaI [0,0,0]):=seg_all rfl
       refine jor ?_
       have hR:rdF mosts s [0,0,0] 0 0=([0,0,0],false):=by rw [←hrd,hdr];exact jlO zO (by rw [jca zO] at hc;rw [jca zO];omega)
       have hfo:ja6 s=false:=by rw [ja6,hR]
       have hps:jal s=[0,0,0]:=by rw [jal,hR]
       rw [hfo,hps];exact ⟨rfl,rfl⟩
      ·refine Z4 ?_
       exact E17
     ·omega
   ·refine Zs ?_
    omega
  ·refine jaS rfl zq (fun hc=>?_) (fun hc=>?_)
   ·refine Z2 ?_
    refine jaY rfl rfl (fun hc=>?_) (fun hc=>?_)
    ·refine Z3 ?_
     refine jao rfl rfl (fun hc=>?_) (fun hc=>?_)
     ·omega
     ·refine Z7 ?_
      refine jaS rfl zq (fun hc=>?_) (fun hc=>?_)
      ·refine Z2 ?_
       refine jaS rfl rfl (fun hc=>?_) (fun hc=>?_)
       ·omega
       ·refine Z5 ?_;refine jsR ?_;refine Zs ?_;refine D33 ?_;refine D26 ?_
        rintro v (⟨hc,rfl⟩|⟨hc,rfl⟩)
        ·refine Z3 ?_
         refine jaS rfl rfl (fun hc=>?_) (fun hc=>?_)
         ·omega
         ·refine Z3 ?_;refine D82 ?_
          refine jaY rfl rfl (fun hc=>?_) (fun hc=>?_)
          ·omega
          ·refine Z7 ?_;refine jqB ?_
           haveI:Seg (jaI [0,0,0]) 0 3 (jaI [0,0,0]):=seg_all rfl
           refine jor ?_
           have hR:rdF mosts s [0,0,0] 0 0=([0,0,0],false):=by rw [←hrd,hdr];exact jdz zO zO zO
           have hfo:ja6 s=false:=by rw [ja6,hR]
           have hps:jal s=[0,0,0]:=by rw [jal,hR]
           rw [hfo,hps];exact ⟨rfl,rfl⟩
        ·refine Z16 ?_;refine jqB ?_
         haveI:Seg (jaI [0,0,0]) 0 3 (jaI [0,0,0]):=seg_all rfl
         refine jor ?_
         have hR:rdF mosts s [0,0,0] 0 0=([0,0,0],false):=by rw [←hrd,hdr];exact jdz zO zO zO
         have hfo:ja6 s=false:=by rw [ja6,hR]
         have hps:jal s=[0,0,0]:=by rw [jal,hR]
         rw [hfo,hps];exact ⟨rfl,rfl⟩
      ·refine Z8 ?_;refine jsR ?_;refine Zs ?_;refine D33 ?_;refine D26 ?_
       rintro v (⟨hc,rfl⟩|⟨hc,rfl⟩)
       ·refine Z3 ?_
        refine jaS rfl rfl (fun hc=>?_) (fun hc=>?_)
        ·omega
        ·refine Z3 ?_;refine D82 ?_
         refine jaY rfl rfl (fun hc=>?_) (fun hc=>?_)
         ·omega
         ·refine Z7 ?_;refine jqB ?_
          haveI:Seg (jaI [0,0,0]) 0 3 (jaI [0,0,0]):=seg_all rfl
          refine jor ?_
          have hR:rdF mosts s [0,0,0] 0 0=([0,0,0],false):=by rw [←hrd,hdr];exact jdz zO zO zO
          have hfo:ja6 s=false:=by rw [ja6,hR]
          have hps:jal s=[0,0,0]:=by rw [jal,hR]
          rw [hfo,hps];exact ⟨rfl,rfl⟩
       ·refine Z16 ?_;refine jqB ?_
        haveI:Seg (jaI [0,0,0]) 0 3 (jaI [0,0,0]):=seg_all rfl
        refine jor ?_
        have hR:rdF mosts s [0,0,0] 0 0=([0,0,0],false):=by rw [←hrd,hdr];exact jdz zO zO zO
        have hfo:ja6 s=false:=by rw [ja6,hR]
        have hps:jal s=[0,0,0]:=by rw [jal,hR]
        rw [hfo,hps];exact ⟨rfl,rfl⟩
    ·refine Z11 ?_
     refine jaS rfl zq (fun hc=>?_) (fun hc=>?_)
     ·refine Z2 ?_
      refine jaS rfl rfl (fun hc=>?_) (fun hc=>?_)
      ·omega
      ·refine Z5 ?_;refine jsR ?_;refine Zs ?_;refine D33 ?_;refine D26 ?_
       rintro v (⟨hc,rfl⟩|⟨hc,rfl⟩)
       ·refine Z3 ?_
        refine jaS rfl rfl (fun hc=>?_) (fun hc=>?_)
        ·omega
        ·refine Z3 ?_;refine D82 ?_
         refine jaY rfl rfl (fun hc=>?_) (fun hc=>?_)
         ·omega
         ·refine Z7 ?_;refine jqB ?_
          haveI:Seg (jaI [0,0,0]) 0 3 (jaI [0,0,0]):=seg_all rfl
          refine jor ?_
          have hR:rdF mosts s [0,0,0] 0 0=([0,0,0],false):=by rw [←hrd,hdr];exact jdz zO zO zO
          have hfo:ja6 s=false:=by rw [ja6,hR]
          have hps:jal s=[0,0,0]:=by rw [jal,hR]
          rw [hfo,hps];exact ⟨rfl,rfl⟩
       ·refine Z16 ?_;refine jqB ?_
        haveI:Seg (jaI [0,0,0]) 0 3 (jaI [0,0,0]):=seg_all rfl
        refine jor ?_
        have hR:rdF mosts s [0,0,0] 0 0=([0,0,0],false):=by rw [←hrd,hdr];exact jdz zO zO zO
        have hfo:ja6 s=false:=by rw [ja6,hR]
        have hps:jal s=[0,0,0]:=by rw [jal,hR]
        rw [hfo,hps];exact ⟨rfl,rfl⟩
     ·refine Z8 ?_;refine jsR ?_;refine Zs ?_;refine D33 ?_;refine D26 ?_
      rintro v (⟨hc,rfl⟩|⟨hc,rfl⟩)
      ·refine Z3 ?_
       refine jaS rfl rfl (fun hc=>?_) (fun hc=>?_)
       ·omega
       ·refine Z3 ?_;refine D82 ?_
        refine jaY rfl rfl (fun hc=>?_) (fun hc=>?_)
        ·omega
        ·refine Z7 ?_;refine jqB ?_
         haveI:Seg (jaI [0,0,0]) 0 3 (jaI [0,0,0]):=seg_all rfl
         refine jor ?_
         have hR:rdF mosts s [0,0,0] 0 0=([0,0,0],false):=by rw [←hrd,hdr];exact jdz zO zO zO
         have hfo:ja6 s=false:=by rw [ja6,hR]
         have hps:jal s=[0,0,0]:=by rw [jal,hR]
         rw [hfo,hps];exact ⟨rfl,rfl⟩
      ·refine Z16 ?_;refine jqB ?_
       haveI:Seg (jaI [0,0,0]) 0 3 (jaI [0,0,0]):=seg_all rfl
       refine jor ?_
       have hR:rdF mosts s [0,0,0] 0 0=([0,0,0],false):=by rw [←hrd,hdr];exact jdz zO zO zO
       have hfo:ja6 s=false:=by rw [ja6,hR]
       have hps:jal s=[0,0,0]:=by rw [jal,hR]
       rw [hfo,hps];exact ⟨rfl,rfl⟩
   ·refine Z14 ?_
    refine jaS rfl zq (fun hc=>?_) (fun hc=>?_)
    ·refine Z2 ?_
     refine jaS rfl rfl (fun hc=>?_) (fun hc=>?_)
     ·omega
     ·refine Z5 ?_;refine jsR ?_;refine Zs ?_;refine D33 ?_;refine D26 ?_
      rintro v (⟨hc,rfl⟩|⟨hc,rfl⟩)
      ·refine Z3 ?_
       refine jaS rfl rfl (fun hc=>?_) (fun hc=>?_)
       ·omega
       ·refine Z3 ?_;refine D82 ?_
        refine jaY rfl rfl (fun hc=>?_) (fun hc=>?_)
        ·omega
        ·refine Z7 ?_;refine jqB ?_
         haveI:Seg (jaI [0,0,0]) 0 3 (jaI [0,0,0]):=seg_all rfl
         refine jor ?_
         have hR:rdF mosts s [0,0,0] 0 0=([0,0,0],false):=by rw [←hrd,hdr];exact jdz zO zO zO
         have hfo:ja6 s=false:=by rw [ja6,hR]
         have hps:jal s=[0,0,0]:=by rw [jal,hR]
         rw [hfo,hps];exact ⟨rfl,rfl⟩
      ·refine Z16 ?_;refine jqB ?_
       haveI:Seg (jaI [0,0,0]) 0 3 (jaI [0,0,0]):=seg_all rfl
       refine jor ?_
       have hR:rdF mosts s [0,0,0] 0 0=([0,0,0],false):=by rw [←hrd,hdr];exact jdz zO zO zO
       have hfo:ja6 s=false:=by rw [ja6,hR]
       have hps:jal s=[0,0,0]:=by rw [jal,hR]
       rw [hfo,hps];exact ⟨rfl,rfl⟩
    ·refine Z8 ?_;refine jsR ?_;refine Zs ?_;refine D33 ?_;refine D26 ?_
     rintro v (⟨hc,rfl⟩|⟨hc,rfl⟩)
     ·refine Z3 ?_
      refine jaS rfl rfl (fun hc=>?_) (fun hc=>?_)
      ·omega
      ·refine Z3 ?_;refine D82 ?_
       refine jaY rfl rfl (fun hc=>?_) (fun hc=>?_)
       ·omega
       ·refine Z7 ?_;refine jqB ?_
        haveI:Seg (jaI [0,0,0]) 0 3 (jaI [0,0,0]):=seg_all rfl
        refine jor ?_
        have hR:rdF mosts s [0,0,0] 0 0=([0,0,0],false):=by rw [←hrd,hdr];exact jdz zO zO zO
        have hfo:ja6 s=false:=by rw [ja6,hR]
        have hps:jal s=[0,0,0]:=by rw [jal,hR]
        rw [hfo,hps];exact ⟨rfl,rfl⟩
     ·refine Z16 ?_;refine jqB ?_
      haveI:Seg (jaI [0,0,0]) 0 3 (jaI [0,0,0]):=seg_all rfl
      refine jor ?_
      have hR:rdF mosts s [0,0,0] 0 0=([0,0,0],false):=by rw [←hrd,hdr];exact jdz zO zO zO
      have hfo:ja6 s=false:=by rw [ja6,hR]
      have hps:jal s=[0,0,0]:=by rw [jal,hR]
      rw [hfo,hps];exact ⟨rfl,rfl⟩
  ·refine jbn rfl zq zO ?_;refine Z2 ?_;refine jjJ rfl rfl zO ?_;refine Z3 ?_;refine jp9 rfl rfl zO ?_;refine Z12 ?_;exact m.weak jab (hnext _ _ _ zO ⟨p+1,k+1,0,v,rfl,by rw [←hrd,hdr];exact (jpO zO).symm,hv3,by omega,by omega,by omega,hvb,fun j hj=>hvz j zO,exU rfl,rfl⟩)
  ·refine jfr rfl zq zO ?_;refine Z14 ?_;refine jbn rfl zq zO ?_;refine Z2 ?_;refine jbn rfl rfl zO ?_;refine Z7 ?_;refine k_stI rfl zq k zO zO ?_;refine Z9 ?_;refine D45 ?_;refine Z4 ?_;refine D132 ?_;refine jfR rfl zq (by rw [jca zO];omega) ?_;refine Z4 ?_;exact m.weak jab (hnext _ _ _ zO ⟨p+1,k,n+1,v.set k (-1),rfl,by rw [←hrd,hdr];exact (jsX zO (by rw [jca zO];omega)).symm,by simpa using hv3,hk2,by omega,by omega,jjj zO hvb,fun j hj=>by rw [set_other zO];exact hvz j zO,exU rfl,rfl⟩)
end
section
variable [LaidO B]
theorem ext3 {w:List Int} (hv:v.length=3) (hw:w.length=3) (h: ∀j,j<3→v.getD j 0=w.getD j 0):v=w:=by
 obtain ⟨a,b,c,rfl⟩:=three hv
 obtain ⟨a',b',c',rfl⟩:=three hw
 have h0:a=a':=h 0 zA
 have h1:b=b':=h 1 zA
 have h2:c=c':=h 2 zA
 rw [h0,h1,h2]
def jba (p o:List Int):List Int:=(List.range 3).map fun j=>if p.getD j 0= -1 then o.getD j 0 else p.getD j 0
theorem jiY (p o:List Int):(jba p o).length=3:=by simp [jba]
theorem jgV (p o:List Int) (h:j<3):(jba p o).getD j 0=if p.getD j 0= -1 then o.getD j 0 else p.getD j 0:=by
 rw [jba,List.getD_eq_getElem?_getD,List.getElem?_map,List.getElem?_range h];rfl
def jsB (v:List Int):Nat:=v.countP fun x=>decide (x= -1)
theorem jm2 (h:k<v.length):jsB (v.take (k+1))=jsB (v.take k)+if v.getD k 0= -1 then 1 else 0:=by
 rw [take_snoc' v k h,jsB,List.countP_append,jsB];congr 1
 by_cases e:v.getD k 0= -1
 ·rw [if_pos e];simp only [List.countP_cons,List.countP_nil,e,decide_true]
  rfl
 ·rw [if_neg e];simp only [List.countP_cons,List.countP_nil,e,decide_false]
  simp
structure PtOk (v:List Int):Prop where
 len:v.length=3
 lo: ∀j,-1≤v.getD j 0
 hi: ∀j,j<3→v.getD j 0≤mosts.getD j 0
theorem PtOk.zero:PtOk [0,0,0]:=⟨rfl,fun j=>(zero3 j).1,fun j h=>by rw [jmA];exact (Int.le_trans zA (jdW h).1)⟩
theorem PtOk.set (o:PtOk v) {x:Int} (h1: -1≤x) (h2:x≤mosts.getD k 0):PtOk (v.set k x):=by
 refine ⟨by simpa using o.len,fun j=>?_,fun j hj=>?_⟩
 ·by_cases e:k=j
  ·subst e
   by_cases e2:k<v.length
   ·rw [jca e2];exact h1
   ·rw [List.set_eq_of_length_le zO];exact o.lo k
  ·rw [set_other e];exact o.lo j
 ·by_cases e:k=j
  ·subst e
   rw [jca (by rw [o.len];exact hj)];exact h2
  ·rw [set_other e];exact o.hi j hj
theorem jpN: ∀(s:Str) {v:List Int} {k n:Nat},PtOk v→k≤2→(∀j,k<j∨(k=j∧n=0)→v.getD j 0=0)→PtOk (rdF mosts s v k n).1
 |[],v,k,n,h,_,_=>h
 |c::r,v,k,n,h,hk,hz=>by
  have hm:=jdW (k:=k) zO
  have hl:=h.lo k
  have h3:=h.len
  rw [rdF];split
  ·exact jpN r h zO fun j hj=>hz j zO
  ·split
   ·split
    ·exact PtOk.zero
    ·exact jpN r (h.set zO zO) hk fun j hj=>by rw [set_other zO];exact hz j zO
   ·split
    ·rename_i hd
     split
     ·exact PtOk.zero
     ·rename_i hn
      rw [jca zO] at hn
      refine jpN r (h.set ?_ zO) hk fun j hj=>by rw [set_other zO];exact hz j zO
      rcases hd.2 with e|e
      ·have:=hz k (.inr ⟨rfl,e⟩);omega
      ·omega
    ·exact PtOk.zero
theorem jbi (s:Str):PtOk (jal s):=jpN s .zero zO fun j _=>jmA j
theorem parts_n (h:n<960):PtOk (jbr n):=by
 refine ⟨rfl,fun j=>?_,fun j hj=>?_⟩
 ·match j with
  |0=>show-1≤((n/96:Nat):Int);omega
  |1=>show-1≤((n/8%12:Nat):Int);omega
  |2=>show-1≤((n%8:Nat):Int);omega
  |j+3=>simp [jbr]
 ·rcases (by omega:j=0∨j=1∨j=2) with rfl|rfl|rfl
  ·show ((n/96:Nat):Int)≤9
   omega
  ·show ((n/8%12:Nat):Int)≤11
   omega
  ·show ((n%8:Nat):Int)≤7
   omega
theorem jnX {p:List Int} (hp:PtOk p):jba p (jbr n)=jbr n↔jcr p n=true:=by
 rw [jcr,List.all_eq_true];constructor
 ·intro h j hj
  rw [List.mem_range] at hj
  have:=jgV p (jbr n) hj
  rw [h] at this
  have:=hp.lo j
  simp only [Bool.or_eq_true,decide_eq_true_eq]
  by_cases e:p.getD j 0= -1
  ·left
   omega
  ·rw [if_neg e] at*
   right
   omega
 ·intro h
  refine ext3 (jiY _ _) rfl fun j hj=>?_
  rw [jgV _ _ hj];have h1:=h j (List.mem_range.2 hj)
  simp only [Bool.or_eq_true,decide_eq_true_eq] at h1
  have:=hp.lo j
  by_cases e:p.getD j 0= -1
  ·rw [if_pos e]
  ·rw [if_neg e];omega
def jfv (p:List Int) (k:Nat):List Int:=((List.range k).filter (jcr p)).map fun (n:Nat)=>(n:Int)
theorem jeO (p:List Int) (k:Nat):jfv p (k+1)=jfv p k++if jcr p k then [(k:Int)] else []:=by
 rw [jfv,List.range_succ,List.filter_append,List.map_append,←jfv];congr 1
 cases h:jcr p k<;>simp [List.filter,h]
theorem jl4 (p:List Int) (k:Nat):(jfv p k).length≤k:=by
 rw [jfv,List.length_map];exact Nat.le_trans (List.length_filter_le _ _) zS
theorem f171_c (m:Md Tryz.prog B) (h:Hp) (hv:v.length=3):FnC m 171 #[.agg (jaI v).toArray] h fun w h'=>h'=h∧w= .int .i64 (jsB v:Int):=by
 refine jaf Tryz.func171 rfl rfl (l:=(.agg (jaI v).toArray)::uu15) rfl ?_
 intro cf cs K hK
 refine Z2 ?_
 refine jaX rfl zq (fun q1=>jau (jae ?_));refine Z9 ?_;refine jdR rfl zq hv ?_;refine Z3 ?_
 refine jai (fun nn l h'=> ∃(k:Nat),nn=3-k∧(k≤3)∧(∃U:Nat→Value,l=((.agg (jaI v).toArray)::(.pointer (some ⟨q1,0,none⟩))::(U 2)::(.int .i64 (jsB (v.take k):Int))::(U 4)::(U 5)::(.agg (jaI v).toArray)::(.int .i64 (k:Int))::vw8 U 8 []))∧h++[⟨true,q1,.cells (jaI v).toArray 145 (0,0)⟩]=h') _ ⟨0,rfl,by omega,exU rfl,rfl⟩ ?_;rintro nn l h' ⟨k,rfl,hk,⟨U,rfl⟩,rfl⟩ hnext;have hsm:jsB (v.take k)≤k:=Nat.le_trans (List.countP_le_length ..) zN
 refine Z2 ?_
 refine jao rfl zq (fun hc=>?_) (fun hc=>?_)
 ·refine Z8 ?_;refine k_ixv rfl zq zO zO (jo1 zO) ?_;refine Z5 ?_
  refine jaS rfl zq (fun hc=>?_) (fun hc=>?_);refine Z7 ?_
  rotate_left
  refine Z3 ?_
  all_goals
   refine Z5 ?_
  ·rw [show (jsB (v.take k):Int)=(jsB (v.take (k+1)):Int) by rw [jm2 zO,if_neg zO];omega];exact E18
  ·rw [show (jsB (v.take k):Int)+1=(jsB (v.take (k+1)):Int) by rw [jm2 zO,if_pos zO];omega];exact E18
 ·refine Z10 ?_;refine jad (h) rfl Tryz.func171 rfl jab ?_;refine Zs ?_
  obtain rfl:k=3:=by omega
  rw [←hv,List.take_length];exact ⟨rfl,rfl⟩
theorem f110_c (m:Md Tryz.prog B) (h:Hp) {p o:List Int} (hp:p.length=3) (ho:o.length=3):FnC m 110 #[.agg (jaI p).toArray,.agg (jaI o).toArray] h fun w h'=>h'=h∧w= .agg (jaI (jba p o)).toArray:=by
 refine jaf Tryz.func110 rfl rfl (l:=(.agg (jaI p).toArray)::(.agg (jaI o).toArray)::uu19) rfl ?_
 intro cf cs K hK
 refine Z2 ?_
 refine jaX rfl zq (fun q2=>jau (jae ?_));refine jaX rfl zq (fun q3=>jau (jae ?_));refine jax rfl zq (fun q4=>jau (jae ?_));refine Z4 ?_;refine jdR rfl zq hp ?_;refine Z3 ?_
 refine jai (fun nn l h'=> ∃(k:Nat) (v:List Int),nn=3-k∧(k≤3)∧(v.length=3)∧(∀j,j<3→v.getD j 0=if j<k then (jba p o).getD j 0 else p.getD j 0)∧(∃U:Nat→Value,l=((.agg (jaI p).toArray)::(.agg (jaI o).toArray)::(.pointer (some ⟨q2,0,none⟩))::(.pointer (some ⟨q3,0,none⟩))::(.pointer (some ⟨q4,0,none⟩))::(U 5)::(U 6)::(.agg (jaI p).toArray)::(.int .i64 (k:Int))::vw12 U 9 []))∧h++[⟨true,q2,.cells (jaI v).toArray 145 (0,0)⟩,⟨true,q3,.cells (jaI o).toArray 145 (0,0)⟩,⟨true,q4,.cells (jaI [0,0,0]).toArray 145 (0,0)⟩]=h') _ ⟨0,p,rfl,by omega,hp,fun j hj=>by simp,exU rfl,rfl⟩ ?_;rintro nn l h' ⟨k,v,rfl,hk,hv,hvj,⟨U,rfl⟩,rfl⟩ hnext;refine Z2 ?_
 refine jao rfl zq (fun hc=>?_) (fun hc=>?_)
 ·refine Z9 ?_;refine k_ixv rfl zq zO zO (jo1 zO) ?_;refine Z6 ?_
  refine jaS rfl zq (fun hc=>?_) (fun hc=>?_);refine Z6 ?_;refine jtN rfl zq k zO zO ?_;refine Zs ?_;refine k_stI rfl zq k zO zO ?_;refine Zs ?_
  rotate_left
  refine Z3 ?_
  all_goals
   refine Z5 ?_
  ·exact m.weak jab (hnext _ _ _ zO ⟨k+1,v,rfl,by omega,hv,by
    intro j hj
    rw [hvj j hj];by_cases e:k=j
    ·subst e
     rw [if_neg zO,if_pos zO,jgV _ _ hj,if_neg zO]
    ·by_cases e2:j<k
     ·rw [if_pos e2,if_pos zO]
     ·rw [if_neg e2,if_neg zO],exU rfl,rfl⟩)
  ·exact m.weak jab (hnext _ _ _ zO ⟨k+1,v.set k (o.getD k 0),rfl,by omega,by simpa using hv,by
    intro j hj
    by_cases e:k=j
    ·subst e
     rw [jca zO,if_pos zO,jgV _ _ hj,if_pos zO]
    ·rw [set_other e,hvj j hj];by_cases e2:j<k
     ·rw [if_pos e2,if_pos zO]
     ·rw [if_neg e2,if_neg zO],exU rfl,rfl⟩)
 ·refine Z6 ?_;refine jdR rfl zq hv ?_;refine jfq rfl zq hv zN ?_;refine Z2 ?_
  haveI:Seg (jaI v) 0 3 (jaI v):=seg_all (by simpa using hv)
  refine jad (h) rfl Tryz.func110 rfl jab ?_;refine Zs ?_;have hw:v=jba p o:=ext3 hv (jiY _ _) fun j hj=>by rw [hvj j hj,if_pos zO]
  rw [hw];exact ⟨rfl,rfl⟩
theorem f120_c (m:Md Tryz.prog B) (h:Hp) (hv:PtOk v):FnC m 120 #[.agg (jaI v).toArray] h fun w h'=> ∃new,h'=h++new∧OwnS 3 1 w (jdJ v).length (jaI (jdJ v)) new:=by
 refine jaf Tryz.func120 rfl rfl (l:=(.agg (jaI v).toArray)::uu21) rfl ?_
 intro cf cs K hK
 refine Z2 ?_
 refine jaX rfl zq (fun q1=>jau (jae ?_));refine Z12 ?_
 refine jai (fun nn l h'=> ∃(k:Nat) (wp:Option Addr) (wc:Nat) (M:Hp),nn=960-k∧(k≤960)∧(OwnS 3 1 (.slice wp (jfv v k).length wc) (jfv v k).length (jaI (jfv v k)) M)∧(∃U:Nat→Value,l=((.agg (jaI v).toArray)::(.pointer (some ⟨q1,0,none⟩))::(U 2)::(.slice wp (jfv v k).length wc)::(U 4)::(U 5)::(.int .i64 (k:Int))::vw15 U 7 []))∧h++[⟨true,q1,.cells (jaI v).toArray 145 (0,0)⟩]++M=h') _ ⟨0,none,0,[],rfl,by omega,OwnS.nil,exU rfl,zS⟩ ?_;rintro nn l h' ⟨k,wp,wc,M,rfl,hk,how,⟨U,rfl⟩,rfl⟩ hnext;have hml:=jl4 v k
 refine Z2 ?_
 refine jao rfl zq (fun hc=>?_) (fun hc=>?_);refine Z6 ?_
 rotate_left
 refine Z4 ?_
 all_goals
  refine Z5 ?_
 ·refine Zs ?_;refine jad (h++M) rfl Tryz.func120 rfl jab ?_;refine Zs ?_
  obtain rfl:k=960:=by omega
  exact ⟨M,rfl,how⟩
 ·refine Z3 ?_;refine jag (Post:=fun v=>v=_) rfl zq zK (fun H' hH=>f118_c m H' k zO) ?_
  rintro v rfl;refine Zs ?_
  refine jax rfl zq (fun q5=>jau (jae ?_));refine jfq (w:=jbr k) rfl zq rfl (by simp;rfl) ?_;refine Z2 ?_;refine D102 ?_;refine jdR rfl zq hv.len ?_;refine jdR rfl zq rfl ?_;refine jdR rfl zq rfl ?_;refine jag (Post:=fun w=>w= .agg (jaI (jba v (jbr k))).toArray) rfl zq zK (fun H' hH=>f110_c m H' hv.len rfl) ?_;rintro w rfl;refine Zs ?_
  refine k_eqlA3 (e:=3) rfl zq zK zK (jiY _ _) rfl (fun hc=>?_) (fun hc=>?_);refine Z5 ?_
  refine jdk kdq rfl zq zA zA rfl (fun q18=>jau (jae ?_));refine jbL rfl zq rfl how kdq zO zO (fun w9 n9 o9=>jae ?_);obtain ⟨p9,c9,rfl,hc9,r9⟩:=jav (B:=B) o9
  refine Z2 ?_
  rotate_left
  refine Z3 ?_
  all_goals
   refine Z5 ?_
  ·have hks:jfv v (k+1)=jfv v k:=by rw [jeO,if_neg (fun e=>hc ((jnX hv).2 e)),List.append_nil]
   rw [←hks];exact E19
  ·have hks:jfv v (k+1)=jfv v k++[(k:Int)]:=by rw [jeO,if_pos ((jnX hv).1 hc)]
   have hkl:(jfv v (k+1)).length=(jfv v k).length+1:=by rw [hks];simp
   rw [←hkl];exact E20
end
section
theorem extNoEsc:Ext Tryz.prog 236 Extern.AbiNoEscape.same:=⟨Tryz.f236,Tryz.func236,by kernel_rfl,by kernel_rfl,by kernel_rfl,by kernel_rfl⟩
theorem extMnz:Ext Tryz.prog 237 (Extern.BytealgMakeNoZero.makeNoZero #[3] #[192]):=⟨Tryz.f237,Tryz.func237,by kernel_rfl,by kernel_rfl,by kernel_rfl,by kernel_rfl⟩
theorem jmI: Tryz.prog.underlying 248=some (.pointer 250):=by kernel_rfl
theorem und234: Tryz.prog.underlying 234=some .unsafePointer:=by kernel_rfl
theorem jfo: Tryz.prog.underlying 192=some (.slice 5):=by kernel_rfl
theorem jgR: Tryz.prog.underlying 9=some .string:=by kernel_rfl
theorem info250:(Tryz.prog.info? 250).map (fun i=>decide (i.size=0))=some false:=by kernel_rfl
theorem lies250:liesAt Tryz.prog Tryz.prog.depth 250 (2/ Tryz.prog.cellsOf 250) 0 250 1=true:=by kernel_rfl
theorem jsE:Still Tryz.prog (sizeOf 250) 2:=jqQ zK
theorem depthO: ∃k,Tryz.prog.depth=k+1:=⟨Tryz.prog.depth-1,by kernel_rfl⟩
theorem own_pos {t:TypeId} {v:Value} (o:OwnS t 1 v n cs M) (h:0<n): ∃b cap junk,v= .slice (some ⟨b,0,none⟩) n cap∧M=[⟨true,b,.cells (cs++junk).toArray t (0,0)⟩]∧n≤cap:=by
 cases o with
 |nil=>omega
 |blk hl hc hn=>exact ⟨_,_,_,rfl,rfl,hn⟩
abbrev joh (q:Nat) (pa:Option Addr) (v:Value):Chunk:=⟨true,q,.cells [.pointer pa,v].toArray 250 (0,0)⟩
theorem f229_c (m:Md Tryz.prog B) (F M:Hp) {v:Value} [CellsV v [v]] (hpa:pa=none∨pa=some ⟨q,0,none⟩):FnC m 229 #[.pointer (some ⟨q,0,none⟩)] (F++[joh q pa v]++M) fun _ h'=>h'=F++[joh q (some ⟨q,0,none⟩) v]++M:=by
 refine jaf Tryz.func229 rfl rfl (l:=(.pointer (some ⟨q,0,none⟩))::uu19) rfl ?_
 intro cf cs K hK
 refine Zs ?_
 rcases hpa with rfl|rfl
 all_goals
  refine Z5 ?_
 ·refine jtO rfl zq jmI ?_;refine Z5 ?_;refine k_to rfl zq jmI und234 info250 rd_at ?_;refine k_extP extNoEsc rfl zq kdq rfl ?_;refine k_from rfl zq und234 jmI ⟨2,jsE,by decide⟩ lies250 ?_;refine Z2 ?_;refine D9 ?_;refine Zs ?_;refine jdm rfl ?_;refine jad (F++[joh q (some ⟨q,0,none⟩) v]++M) rfl Tryz.func229 rfl jab ?_;refine Zs ?_;rfl
 ·refine jtP rfl zq jmI ?_;refine Z9 ?_;refine jtJ rfl zq jmI jsE zA ?_;refine Z3 ?_;refine jdm rfl ?_;refine jad (F++[joh q (some ⟨q,0,none⟩) v]++M) rfl Tryz.func229 rfl jab ?_;refine Zs ?_;rfl
theorem f230_c (m:Md Tryz.prog B) (F:Hp) (n:Nat) (hn:n≤2^40):FnC m 230 #[.pointer (some ⟨q,0,none⟩),.int .i64 (n:Int)] (F++[joh q pa (.slice none 0 0)]) fun _ h'=> ∃q2 N M,n≤N∧h'=F++[joh q pa (.slice (some ⟨q2,0,none⟩) 0 N)]++M∧OwnS 5 1 (.slice (some ⟨q2,0,none⟩) 0 N) 0 [] M:=by
 refine jaf Tryz.func230 rfl rfl (l:=(.pointer (some ⟨q,0,none⟩))::(.int .i64 (n:Int))::uu28) rfl ?_
 intro cf cs K hK
 refine Zs ?_;refine jar [Zp 0,Zp 1,Zp 2,Zp 6,Zp 9,Zp 10,Zp 11,Zr 3,Zp 4,Zp 5,Zp 7,Zr 12,Zp 13,Zk 8,Zp 14,Zp 15] zK zK (List.Sublist.refl _) ?_;refine Z8 ?_;refine k_cap rfl zq ?_;refine D23 ?_;refine Z3 ?_
 rw [show (2:Int)*((0:Nat):Int)+(n:Int)=(n:Int) by omega];refine k_mnz (n:=n) extMnz rfl zq kdq jfo zO (fun q13 N junk hnN hjl=>jau (jae ?_));refine jp8 (b:=0) rfl zq (.inr ⟨_,_,rfl⟩) rfl zO ?_;refine Z9 ?_;refine k_copy0 rfl zq ?_;refine Z6 ?_;refine D9 ?_;refine Zs ?_;refine jdm rfl ?_;refine jad (F++[joh q pa (.slice (some ⟨q13,0,none⟩) 0 N),⟨true,q13,.cells junk.toArray 5 (0,0)⟩]) rfl Tryz.func230 rfl jab ?_;refine Zs ?_;exact ⟨q13,N,[⟨true,q13,.cells junk.toArray 5 (0,0)⟩],hnN,by simp,OwnS.blk (cs:=[]) (junk:=junk) rfl (by simp [hjl]) zO⟩
theorem f212_c (m:Md Tryz.prog B) (F:Hp) (n:Nat) (hn:n≤2^40) (h0:0<n):FnC m 212 #[.pointer (some ⟨q,0,none⟩),.int .i64 (n:Int)] (F++[joh q none (.slice none 0 0)]) fun _ h'=> ∃v M,h'=F++[joh q (some ⟨q,0,none⟩) v]++M∧OwnS 5 1 v 0 [] M:=by
 refine jaf Tryz.func212 rfl rfl (l:=(.pointer (some ⟨q,0,none⟩))::(.int .i64 (n:Int))::uu23) rfl ?_
 intro cf cs K hK
 refine Z3 ?_;refine ja7 rfl zq zK (CallF.weak (weakEq (List.append_nil _).symm) (f229_c m F [] (q:=q) (pa:=none) (v:= .slice none 0 0) (.inl rfl))) ?_
 rintro _ h' rfl;rw [List.append_nil];refine Z6 ?_;refine jnF rfl zq zO ?_;refine Z4 ?_;refine jar [Zp 0,Zp 1,Zp 2,Zp 5,Zp 6,Zp 7,Zp 11,Zr 3,Zp 4,Zr 8,Zp 9,Zp 10,Zp 12] zK zK (List.Sublist.refl _) ?_;refine Z8 ?_;refine k_cap rfl zq ?_;refine Z3 ?_;refine jp9 rfl zq zO ?_;refine Z5 ?_;refine ja7 rfl zq zK (f230_c m F (q:=q) (pa:=some ⟨q,0,none⟩) n hn) ?_
 rintro _ h' ⟨q2,N,M,hnN,rfl,ho⟩;refine Z2 ?_;refine jdm rfl ?_;refine jad (F++[joh q (some ⟨q,0,none⟩) (.slice (some ⟨q2,0,none⟩) 0 N)]++M) rfl Tryz.func212 rfl jab ?_;refine Zs ?_
 exact ⟨_,M,rfl,ho⟩
theorem f213_c (m:Md Tryz.prog B) (F M:Hp) (hpa:pa=none∨pa=some ⟨q,0,none⟩) {v:Value} (ho:OwnS 5 1 v t.length (t.map jbV) M) (s:Str) (hn:t.length+s.length≤2^40):FnC m 213 #[.pointer (some ⟨q,0,none⟩),str s] (F++[joh q pa v]++M) fun w h'=> ∃v' M',h'=F++[joh q (some ⟨q,0,none⟩) v']++M'∧OwnS 5 1 v' (t++s).length ((t++s).map jbV) M'∧w= .tuple [.int .i64 (s.length:Int),.nilIface].toArray:=by
 obtain ⟨p0,c0,rfl,hc0,r0⟩:=jav (B:=B) ho
 refine jaf Tryz.func213 rfl rfl (l:=(.pointer (some ⟨q,0,none⟩))::(str s)::uu17) rfl ?_
 intro cf cs K hK
 refine Z8 ?_;refine ja7 rfl zq zK (f229_c m F M (v:= .slice p0 t.length c0) hpa) ?_
 rintro _ h' rfl;refine Z10 ?_
 refine k_appS rfl zq jgR ho (Weak.perm Off.perm) kdq zO zO (fun w9 n9 o9=>jae ?_);obtain ⟨p9,c9,rfl,hc9,r9⟩:=jav (B:=B) o9
 refine Z2 ?_;refine D9 ?_;refine Z9 ?_;refine jad (F++[joh q (some ⟨q,0,none⟩) (.slice p9 (t.length+s.length) c9)]++n9) rfl Tryz.func213 rfl jab ?_;refine Zs ?_
 exact ⟨_,_,rfl,by rw [List.map_append,List.length_append];exact o9,rfl⟩
theorem f214_c (m:Md Tryz.prog B) (F:Hp) {v:Value} (ho:OwnS 5 1 v t.length (t.map jbV) M) (h0:0<t.length) (hn:t.length≤2^40):FnC m 214 #[.pointer (some ⟨q,0,none⟩)] (F++[joh q pa v]++M) fun w h'=>h'=F++[joh q pa v]∧w=str t:=by
 obtain ⟨b1,cap1,junk1,rfl,rfl,hcap⟩: ∃b cap junk,v= .slice (some ⟨b,0,none⟩) t.length cap∧M=[⟨true,b,.cells (t.map jbV++junk).toArray 5 (0,0)⟩]∧t.length≤cap:=own_pos ho h0
 refine jaf Tryz.func214 rfl rfl (l:=(.pointer (some ⟨q,0,none⟩))::uu13) rfl ?_
 intro cf cs K hK
 refine Z5 ?_;refine jar [Zp 0,Zp 1,Zp 2,Zp 5,Zp 6,Zp 7,Zr 3,Zp 4,Zr 8,Zp 9,Zf 10,Zp 11] zK zK (List.Sublist.refl _) ?_;refine Z7 ?_;refine k_usd rfl zq zO ?_;refine Z2 ?_;refine k_ustr (s:=t) (n:=t.length) rfl zq (jqR zK) depthO zK rfl zO zO (.inl rfl) ?_;refine Z4 ?_;refine jad (F++[joh q pa (.slice (some ⟨b1,0,none⟩) t.length cap1)]) rfl Tryz.func214 rfl jab ?_;refine Zs ?_
 exact ⟨rfl,rfl⟩
end
section
theorem d36: ∀n,n<10→(([48,49,50,51,52,53,54,55,56,57,97,98,99,100,101,102,103,104,105,106,107,108,109,110,111,112,113,114,115,116,117,118,119,120,121,122]:Str).take (n+1)).drop n=jdj n:=by decide
def d100:Str:=(List.range 100).flatMap fun n=>[UInt8.ofNat (48+n/10),UInt8.ofNat (48+n%10)]
theorem d100_cut: ∀n,n<100→10≤n→(d100.take (n*2+2)).drop (n*2)=jdj n:=by decide+kernel
theorem f232_c (m:Md Tryz.prog B) (h:Hp) (n:Nat) (hn:n<100):FnC m 232 #[.int .i64 (n:Int)] h fun v h'=>h'=h∧v=str (jdj n):=by
 refine jaf Tryz.func232 rfl rfl (l:=(.int .i64 (n:Int))::uu14) rfl ?_
 intro cf cs K hK
 refine Z8 ?_
 refine jao rfl zq (fun hc=>?_) (fun hc=>?_);refine Z7 ?_
 rw [show (n:Int)+1=((n+1:Nat):Int) by omega];refine jiQ (j:=n) (k:=n+1) rfl zq jgR zO (by show _≤36;omega) ?_;rw [d36 n zO];rotate_left
 refine Z6 ?_;refine D23 ?_;refine Zs ?_;refine D23 ?_;refine Zs ?_
 rw [show (n:Int)*2+2=((n*2+2:Nat):Int) by omega,show (n:Int)*2=((n*2:Nat):Int) by omega];refine jiQ (p:=d100) (j:=n*2) (k:=n*2+2) rfl zq jgR zO (by show _≤200;omega) ?_;rw [d100_cut n hn zO];all_goals
  refine Z3 ?_;refine jad (h) rfl Tryz.func232 rfl jab ?_;refine Zs ?_
  exact ⟨rfl,rfl⟩
theorem f228_c (m:Md Tryz.prog B) (h:Hp) (n:Nat) (hn:n<100):FnC m 228 #[.int .i64 (n:Int),.int .i64 10] h fun v h'=>h'=h∧v=str (jdj n):=by
 refine jaf Tryz.func228 rfl rfl (l:=(.int .i64 (n:Int))::(.int .i64 10)::uu52) rfl ?_
 intro cf cs K hK
 refine Z8 ?_;refine jbn rfl zq rfl ?_;refine Z6 ?_;refine jnI rfl zq zO ?_;refine Z2 ?_;refine jp9 rfl rfl zO ?_;refine Z6 ?_;refine jag (Post:=fun v=>v=_) rfl zq zK (fun H' hH=>f232_c m H' n hn) ?_
 rintro v rfl;refine Z4 ?_;refine jad (h) rfl Tryz.func228 rfl jab ?_;refine Zs ?_
 exact ⟨rfl,rfl⟩
theorem f211_c (m:Md Tryz.prog B) (h:Hp) (n:Nat) (hn:n<100):FnC m 211 #[.int .i64 (n:Int)] h fun v h'=>h'=h∧v=str (jdj n):=by
 refine jaf Tryz.func211 rfl rfl (l:=[.int .i64 (n:Int),undef,undef,undef,undef]) rfl ?_
 intro cf cs K hK
 refine Z7 ?_;refine jag (Post:=fun v=>v=_) rfl zq zK (fun H' hH=>f228_c m H' n hn) ?_
 rintro v rfl;refine Z4 ?_;refine jad (h) rfl Tryz.func211 rfl jab ?_;refine Zs ?_
 exact ⟨rfl,rfl⟩
theorem f164_c (m:Md Tryz.prog B) (h:Hp) (n:Nat) (hn:n<100):FnC m 164 #[.int .i64 (n:Int)] h fun v h'=>h'=h∧v=str (jdj n):=by
 refine jaf Tryz.func164 rfl rfl (l:=[.int .i64 (n:Int),undef,undef,undef,undef]) rfl ?_
 intro cf cs K hK
 refine Z7 ?_;refine jag (Post:=fun v=>v=_) rfl zq zK (fun H' hH=>f211_c m H' n hn) ?_
 rintro v rfl;refine Z4 ?_;refine jad (h) rfl Tryz.func164 rfl jab ?_;refine Zs ?_
 exact ⟨rfl,rfl⟩
theorem k_quoB {P:Program} {m:Md P B} {ops:Array Oper} {l l':List Value} {S H:Hp} {C:List Value→Hp→Prop} {kd:Kd} {r:List (Nat×Kd)} {d:Option Tmp} {ty:TypeId} {pos:String} {af:Array Edge} {g:Option (Nat×Bool)} {t u:TypeId} {x y:Operand} {z w:Int} (ho:ops[i]?=some ⟨d,.binOp .quo t x y u,ty,pos,af,g⟩) (hw:Wt ops l g) [KHeap kd S h H] [ex:OpV l x (.int .i64 z)] [ey:OpV l y (.int .i64 w)] (h0:w≠0) (hv:jfx (z.tdiv w)) [PutV l d (.int .i64 (z.tdiv w)) l'] (q:RegK m S ops r l' h C):RegK m S ops ((i,kd)::r) l h C:=
 RegK.rd (v:= .int .i64 (z.tdiv w)) ho hw (jbm ex.eq ey.eq zS (by
  simp only [binOp,Op.intDiv,if_neg h0,jew hv]
  rfl)) q
theorem quo_big (h0:0<k) (h:k≤1000):1000000≤(9223372036854775807:Int).tdiv (k:Int)∧(9223372036854775807:Int).tdiv (k:Int)≤9223372036854775807:=by
 have e:(9223372036854775807:Int).tdiv (k:Int)=((9223372036854775807/k:Nat):Int):=(Int.ofNat_tdiv 9223372036854775807 k).symm
 rw [e];have h1:1000000≤9223372036854775807/k:=(Nat.le_div_iff_mul_le h0).2 zO
 have h2:=Nat.div_le_self 9223372036854775807 k
 omega
def jtB (ss:List Str):List Nat:=ss.map List.length
theorem jp6 (h:k<ss.length):(jtB ss).getD k 0=(ss.getD k []).length:=by
 rw [jtB,List.getD_eq_getElem?_getD,List.getElem?_map,List.getElem?_eq_getElem h,List.getD_eq_getElem?_getD,List.getElem?_eq_getElem h];rfl
theorem lens_le {c:Nat} (h: ∀s∈ss,s.length≤c): ∀k,((jtB ss).take k).sum≤k*c:=by
 intro k
 induction k with
 |zero=>simp
 |succ k ih=>
  by_cases hk:k<ss.length
  ·rw [jgX _ _ (by simpa [jtB] using hk),jp6 hk];have:=h _ (jah (l:=ss) hk)
   have e:ss.getD k default=ss.getD k []:=rfl
   rw [e] at this
   rw [Nat.add_mul];omega
  ·rw [List.take_of_length_le (by simp [jtB];omega)];rw [List.take_of_length_le (by simp [jtB];omega)] at ih
   rw [Nat.add_mul];omega
def jhf (sep:Str) (ss:List Str) (k:Nat):Str:=ss.getD 0 []++((ss.drop 1).take k).flatMap fun x=>sep++x
theorem jk8 (sep:Str) (ss:List Str):jhf sep ss 0=ss.getD 0 []:=by simp [jhf]
theorem jhV (sep:Str) (h:k+1<ss.length):jhf sep ss (k+1)=jhf sep ss k++sep++(ss.drop 1).getD k []:=by
 rw [jhf,jhf,jcs (α:=Str) (ss.drop 1) k (by rw [List.length_drop];omega),List.flatMap_append];simp only [List.flatMap_cons,List.flatMap_nil,List.append_nil,List.append_assoc]
 rfl
theorem jrL (ss:List Str):jaC (ss.drop 1)=(jaC ss).drop 1:=by have:=jj4 ss 1;simpa using this
theorem jtT {sep:Str} (h:0<sep.length) (hk:0<k) (hl:k<ss.length):0<(jhf sep ss k).length:=by
 match k,hk with
 |k+1,_=>rw [jhV sep zO,List.length_append,List.length_append];omega
theorem jjL (sep:Str) (h:0<ss.length):jhf sep ss (ss.length-1)=jl9 sep ss:=by
 match ss,h with
 |a::r,_=>simp [jhf,jl9]
theorem jtU (sep:Str) {c:Nat} (hs:sep.length≤c) (h: ∀s∈ss,s.length≤c): ∀k,(jhf sep ss k).length≤c+k*(2*c):=by
 have h0:(ss.getD 0 []).length≤c:=by
  by_cases e:0<ss.length
  ·exact h _ (jah (l:=ss) e)
  ·rw [List.getD_eq_getElem?_getD,List.getElem?_eq_none zO];simp
 intro k
 induction k with
 |zero=>rw [jk8];omega
 |succ k ih=>
  by_cases hk:k+1<ss.length
  ·rw [jhV sep hk,List.length_append,List.length_append,Nat.add_mul];have:((ss.drop 1).getD k []).length≤c:=h _ (List.mem_of_mem_drop (jah (l:=ss.drop 1) (i:=k) (by rw [List.length_drop];omega)))
   omega
  ·rw [jhf,List.take_of_length_le (by rw [List.length_drop];omega)];rw [jhf,List.take_of_length_le (by rw [List.length_drop];omega)] at ih
   rw [Nat.add_mul];omega
theorem f165_c (m:Md Tryz.prog B) (h:Hp) {c:Nat} (rd:RdS B h 1 (.slice p n c) n (jaC ss)) (hcap:n≤c) (hn:2≤n∧n≤1000) (hss: ∀s∈ss,s.length≤100000) (sep:Str) (hsep:0<sep.length∧sep.length≤100000):FnC m 165 #[.slice p n c,str sep] h fun v h'=>h'=h∧v=str (jl9 sep ss):=by
 refine jaf Tryz.func165 rfl rfl (l:=(.slice p n c)::(str sep)::uu73) rfl ?_
 intro cf cs K hK
 refine Z13 ?_;refine jfr rfl zq zO ?_;refine Z5 ?_;refine jfr rfl zq zO ?_;refine Z14 ?_;refine jjJ rfl zq zO ?_;refine Z4 ?_
 have hqb:=quo_big (k:=n-1) zO zO
 rw [show ((n-1:Nat):Int)=(n:Int)-1 by omega] at hqb
 refine Z6 ?_;refine k_quoB rfl zq zO (by unfold jfx;omega) ?_;refine k_geqF rfl zq zO ?_;refine Z10 ?_
 have hmu:0≤(sep.length:Int)*((n:Int)-1)∧(sep.length:Int)*((n:Int)-1)≤100000000:=⟨Int.mul_nonneg zO zO,by have:=Int.mul_le_mul (show (sep.length:Int)≤100000 by omega) (show (n:Int)-1≤1000 by omega) zO zO;omega⟩
 refine D23 ?_;refine Z5 ?_
 obtain ⟨Z,hZ⟩: ∃Z:Nat,(sep.length:Int)*((n:Int)-1)=(Z:Int):=⟨((sep.length:Int)*((n:Int)-1)).toNat,by omega⟩
 have hZ0:sep.length≤Z:=by have:=Int.mul_le_mul_of_nonneg_left (show (1:Int)≤(n:Int)-1 by omega) (show 0≤(sep.length:Int) by omega);omega
 rw [Int.zero_add,hZ];have hll:=rd.elen zA
 refine Z6 ?_
 refine jai (fun nn l h'=> ∃(k:Nat),nn=n-k∧(k≤n)∧(∃U:Nat→Value,l=((.slice p n c)::(str sep)::(U 2)::(U 3)::(U 4)::(.int .i64 ((Z+((jtB ss).take k).sum:Nat):Int))::vw33 U 6 ((.slice p n c)::(.int .i64 (n:Int))::(.int .i64 (k:Int))::vw33 U 42 [])))∧h=h') _ ⟨0,rfl,by omega,exU rfl,rfl⟩ ?_;rintro nn l h' ⟨k,rfl,hk,⟨U,rfl⟩,rfl⟩ hnext;have hlk:=lens_le hss k
 refine Z2 ?_
 refine jao rfl zq (fun hc=>?_) (fun hc=>?_)
 ·refine Z8 ?_
  obtain ⟨rd_b,rd_o,rfl⟩:=rd.ptr zO
  refine D0 ?_;refine jaW rfl zq (rd.sat k zO zO) ?_;refine Z4 ?_
  have hsk:(ss.getD k []).length≤100000:=hss _ (jah (l:=ss) zO)
  refine Z5 ?_
  refine jaY rfl zq (fun hc=>?_) (fun hc=>?_)
  ·omega
  ·refine Z15 ?_
   rw [show ((Z+((jtB ss).take k).sum:Nat):Int)+((ss.getD k []).length:Int)=((Z+((jtB ss).take (k+1)).sum:Nat):Int) by rw [jgX _ _ (by simp [jtB];omega),jp6 zO];omega];exact E18
 ·refine Z6 ?_
  refine jax rfl zq (fun q8=>jau (jae ?_));refine Z2 ?_
  have hkn:k=n:=by omega
  subst hkn
  obtain ⟨T,hT⟩: ∃T,T=Z+((jtB ss).take k).sum:=⟨_,rfl⟩
  rw [←hT];have hs0:(ss.getD 0 []).length≤100000:=hss _ (jah (l:=ss) zO)
  refine Z2 ?_;refine ja7 rfl zq zK (f212_c m h (q:=q8) T zO zO) ?_
  rintro _ _ ⟨v0,M0,rfl,ho0⟩;refine Z5 ?_
  obtain ⟨rd_b,rd_o,rfl⟩:=rd.ptr zO
  refine D0 ?_;refine jaW rfl zq (rd.sat 0 zO zO) ?_;refine ja7 rfl zq zK (f213_c m h M0 (q:=q8) (pa:=some ⟨q8,0,none⟩) (v:=v0) (t:=[]) (.inr rfl) ho0 (ss.getD 0 []) (by rw [List.length_nil];omega)) ?_
  rintro _ _ ⟨v1,M1,rfl,ho1,rfl⟩;refine Z6 ?_;refine jiR (a:=1) rfl zq rfl zO ?_
  have rdc:=rd.cut (lo:=1) zO hcap
  rw [Nat.mul_one,←jrL] at rdc
  refine Z4 ?_
  refine jai (fun nn l h'=> ∃(j:Nat) (w:Value) (M:Hp),nn=k-1-j∧(j≤k-1)∧(OwnS 5 1 w (jhf sep ss j).length ((jhf sep ss j).map jbV) M)∧(∃U:Nat→Value,l=((.slice (some ⟨rd_b,rd_o,none⟩) k c)::(str sep)::vw6 U 2 ((.pointer (some ⟨q8,0,none⟩))::vw54 U 9 ((.slice (jop 1 (some ⟨rd_b,rd_o,none⟩) c 1) (k-1) (c-1))::(.int .i64 ((k-1:Nat):Int))::(.int .i64 (j:Int))::vw9 U 66 []))))∧h++[joh q8 (some ⟨q8,0,none⟩) w]++M=h') _ ⟨0,v1,M1,rfl,by omega,by rw [jk8];simpa using ho1,exU rfl,rfl⟩ ?_;rintro nn l h' ⟨j,w,M,rfl,hj,ho,⟨U,rfl⟩,rfl⟩ hnext;have hjl:=jtU sep (c:=100000) hsep.2 hss j
  have hdl:(ss.drop 1).length=k-1:=by rw [List.length_drop];omega
  refine Z2 ?_
  refine jao rfl zq (fun hc=>?_) (fun hc=>?_)
  ·refine Z7 ?_
   obtain ⟨cb,co,hcp⟩:=rdc.ptr zO
   rw [hcp] at rdc⊢
   refine Zs ?_;refine D12 ?_;refine jaW rfl zq (rdc.sat j zO zO) ?_;refine Z3 ?_
   have hdj:((ss.drop 1).getD j []).length≤100000:=hss _ (List.mem_of_mem_drop (jah (l:=ss.drop 1) zO))
   have hjb:j*(2*100000)≤1000*200000:=Nat.mul_le_mul zO zO
   refine Z2 ?_;refine ja7 rfl zq zK (f213_c m h M (q:=q8) (pa:=some ⟨q8,0,none⟩) (.inr rfl) ho (sep) zO) ?_
   rintro _ _ ⟨w1,M1b,rfl,ho2,rfl⟩;refine Z4 ?_;refine ja7 rfl zq zK (f213_c m h M1b (q:=q8) (pa:=some ⟨q8,0,none⟩) (.inr rfl) ho2 ((ss.drop 1).getD j []) (by rw [List.length_append];omega)) ?_
   rintro _ _ ⟨w2,M2,rfl,ho3,rfl⟩;refine Z7 ?_
   rw [←hcp];exact m.weak jab (hnext _ _ _ zO ⟨j+1,w2,M2,rfl,by omega,by rw [jhV sep zO];exact ho3,exU rfl,rfl⟩)
  ·refine Z5 ?_
   have hjk:j=ss.length-1:=by omega
   rw [hjk,jjL sep zO] at ho
   rw [hjk,jjL sep zO] at hjl
   have hjp:0<(jl9 sep ss).length:=by rw [←jjL sep (show 0<ss.length by omega)];exact jtT hsep.1 zO zO
   have hjb:(ss.length-1)*(2*100000)≤1000*200000:=Nat.mul_le_mul zO zO
   refine Zs ?_;refine ja7 rfl zq zK (f214_c m h (q:=q8) ho hjp zO) ?_
   rintro _ _ ⟨rfl,rfl⟩;refine Z4 ?_;refine jad (h) rfl Tryz.func165 rfl jab ?_;refine Zs ?_
   exact ⟨rfl,rfl⟩
end
section
variable [LaidO B]
theorem jkZ (h:k<v.length):jaC ((v.map jaG).take (k+1))=jaC ((v.map jaG).take k)++[str (jaG (v.getD k 0))]:=by
 rw [jcs (α:=Str) (v.map jaG) k (by simpa using h),jbB];congr 1
 rw [List.getD_eq_getElem?_getD,List.getElem?_map,List.getElem?_eq_getElem h,List.getD_eq_getElem?_getD,List.getElem?_eq_getElem h];rfl
theorem js2 (x:Int):(jaG x).length≤2:=by
 unfold jaG jdj
 split
 ·simp
 ·split<;>simp
theorem f113_c (m:Md Tryz.prog B) (h:Hp) (hv:PtOk v):FnC m 113 #[.agg (jaI v).toArray] h fun w h'=>h'=h∧w=str (jcJ v):=by
 refine jaf Tryz.func113 rfl rfl (l:=(.agg (jaI v).toArray)::uu22) rfl ?_
 intro cf cs K hK
 refine Z2 ?_
 refine jaX rfl zq (fun q1=>jau (jae ?_));refine Z9 ?_;refine jdR rfl zq hv.len ?_;refine Z3 ?_
 refine jai (fun nn l h'=> ∃(k:Nat) (wp:Option Addr) (wc:Nat) (M:Hp),nn=3-k∧(k≤3)∧(OwnS 9 1 (.slice wp k wc) k (jaC ((v.map jaG).take k)) M)∧(∃U:Nat→Value,l=((.agg (jaI v).toArray)::(.pointer (some ⟨q1,0,none⟩))::(U 2)::(.slice wp k wc)::(U 4)::(U 5)::(.agg (jaI v).toArray)::(.int .i64 (k:Int))::vw15 U 8 []))∧h++[⟨true,q1,.cells (jaI v).toArray 145 (0,0)⟩]++M=h') _ ⟨0,none,0,[],rfl,by omega,by simpa [jaC] using OwnS.nil,exU rfl,zS⟩ ?_;rintro nn l h' ⟨k,wp,wc,M,rfl,hk,how,⟨U,rfl⟩,rfl⟩ hnext;refine Z2 ?_
 refine jao rfl zq (fun hc=>?_) (fun hc=>?_)
 ·refine Z8 ?_;refine k_ixv rfl zq zO zO (jo1 (by rw [hv.len];omega)) ?_;refine Z5 ?_
  refine jaS rfl zq (fun hc=>?_) (fun hc=>?_);refine Z4 ?_
  refine jdk kdq rfl zq zA zA rfl (fun q13=>jau (jae ?_));rotate_left
  refine Z5 ?_
  have hlo:=hv.lo k
  have hhi:=hv.hi k zO
  have hmo:=jdW (k:=k) zO
  obtain ⟨a,ha⟩: ∃a:Nat,v.getD k 0=(a:Int):=⟨(v.getD k 0).toNat,by omega⟩
  rw [ha];refine jag (Post:=fun v=>v=_) rfl zq zK (fun H' hH=>f164_c m H' a zO) ?_;rintro v rfl;refine Zs ?_
  refine jdk kdq rfl zq zA zA rfl (fun q18=>jau (jae ?_));all_goals
   refine jbL rfl zq rfl how kdq zO zO (fun w9 n9 o9=>jae ?_);obtain ⟨p9,c9,rfl,hc9,r9⟩:=jav (B:=B) o9
   refine Z7 ?_
  ·exact m.weak jab (hnext _ _ _ zO ⟨k+1,p9,c9,n9,rfl,by omega,by rw [jkZ (by rw [hv.len];omega),jaG,if_neg zO,ha,Int.toNat_natCast];exact o9,exU rfl,rfl⟩)
  ·exact m.weak jab (hnext _ _ _ zO ⟨k+1,p9,c9,n9,rfl,by omega,by rw [jkZ (by rw [hv.len];omega),jaG,if_pos zO];exact o9,exU rfl,rfl⟩)
 ·refine Z7 ?_
  have hk3:k=3:=by omega
  subst hk3
  rw [List.take_of_length_le (by rw [List.length_map,hv.len];omega)] at how
  obtain ⟨p0,c0,e0,hc0,r0⟩:=jav (B:=B) how
  obtain ⟨rfl,-,rfl⟩:=Value.slice.inj e0
  refine jag (Post:=fun w=>w=str (jcJ v)) rfl zq zK (fun H' hH=>f165_c m H' (r0.keeps (sq hH)) hc0 zO (fun s hs=>by obtain ⟨x,_,rfl⟩:=List.mem_map.1 hs;have:=js2 x;omega) [45] zA) ?_;rintro w rfl;refine Z4 ?_;refine jad (h) rfl Tryz.func113 rfl jab ?_;refine Zs ?_
  exact ⟨rfl,rfl⟩
def jce (n:Nat):Str:=jcJ (jbr n)
theorem f59_c (m:Md Tryz.prog B) (h:Hp) (x:Int):FnC m 59 #[.int .i64 x] h fun w h'=>h'=h∧w= .tuple [str (if 0≤x∧x≤959 then jce x.toNat else []),.int .i64 (if 0≤x∧x≤959 then 0 else 1)].toArray:=by
 refine jaf Tryz.func59 rfl rfl (l:=(.int .i64 x)::uu9) rfl ?_
 intro cf cs K hK
 refine Z9 ?_;refine jag (Post:=fun v=>IsB _ v) rfl zq zK (fun H' hH=>f117_c m H' x 0 959) ?_
 rintro v (⟨hc,rfl⟩|⟨hc,rfl⟩);refine Z6 ?_
 obtain ⟨n,hn⟩: ∃n:Nat,x=(n:Int):=⟨x.toNat,by omega⟩
 subst hn
 refine Z2 ?_;refine jag (Post:=fun w=>w= .agg (jaI (jbr n)).toArray) rfl zq zK (fun H' hH=>f118_c m H' n zO) ?_
 rintro w rfl;refine Zs ?_;refine jag (Post:=fun v=>v=_) rfl zq zK (fun H' hH=>f113_c m H' (parts_n (n:=n) zO)) ?_
 rintro v rfl;refine Zs ?_
 rotate_left
 refine Z6 ?_
 all_goals
  refine Z4 ?_;refine jad (h) rfl Tryz.func59 rfl jab ?_;refine Zs ?_
 ·rw [if_neg hc,if_neg hc];exact ⟨rfl,rfl⟩
 ·rw [if_pos hc,if_pos hc];exact ⟨rfl,rfl⟩
def jfs (l:List Int):Int:=l.getD 0 0
def jiA (l:List Int):Int:=l.getD (l.length-1) 0
def lowN (v:List Int):Nat:=96*(v.getD 0 0).toNat+8*(v.getD 1 0).toNat+(v.getD 2 0).toNat
theorem low_fits (hv:PtOk v):lowN v<960∧jcr v (lowN v)=true:=by
 have h0:=hv.hi 0 zA
 have h1:=hv.hi 1 zA
 have h2:=hv.hi 2 zA
 have m0:mosts.getD 0 0=9:=rfl
 have m1:mosts.getD 1 0=11:=rfl
 have m2:mosts.getD 2 0=7:=rfl
 rw [m0] at h0
 rw [m1] at h1
 rw [m2] at h2
 have l0:=hv.lo 0
 have l1:=hv.lo 1
 have l2:=hv.lo 2
 unfold lowN
 refine ⟨by omega,?_⟩
 rw [jcr,List.all_eq_true];intro j hj
 rw [List.mem_range] at hj
 simp only [Bool.or_eq_true,decide_eq_true_eq]
 rcases (by omega:j=0∨j=1∨j=2) with rfl|rfl|rfl
 ·show v.getD 0 0<0∨v.getD 0 0=(((96*(v.getD 0 0).toNat+8*(v.getD 1 0).toNat+(v.getD 2 0).toNat)/96:Nat):Int)
  omega
 ·show v.getD 1 0<0∨v.getD 1 0=(((96*(v.getD 0 0).toNat+8*(v.getD 1 0).toNat+(v.getD 2 0).toNat)/8%12:Nat):Int)
  omega
 ·show v.getD 2 0<0∨v.getD 2 0=(((96*(v.getD 0 0).toNat+8*(v.getD 1 0).toNat+(v.getD 2 0).toNat)%8:Nat):Int)
  omega
theorem mea_pos (hv:PtOk v):0<(jdJ v).length:=by
 obtain ⟨h1,h2⟩:=low_fits hv
 exact List.length_pos_of_mem (List.mem_map.2 ⟨lowN v,List.mem_filter.2 ⟨List.mem_range.2 h1,h2⟩,rfl⟩)
theorem mea_le (v:List Int):(jdJ v).length≤960:=jl4 v 960
theorem f62_c (m:Md Tryz.prog B) (h:Hp) (s:Str) (hl:s.length≤100000):FnC m 62 #[str s] h fun w h'=>h'=h∧w= .tuple [.int .i64 (if ja6 s then jfs (jbl s) else 0),.int .i64 (if ja6 s then jiA (jbl s) else 0),.int .i64 (if ja6 s then ((jbl s).length:Int) else 0),.int .i64 (if ja6 s then 0 else 3)].toArray:=by
 refine jaf Tryz.func62 rfl rfl (l:=(str s)::uu28) rfl ?_
 intro cf cs K hK
 refine Z10 ?_;refine jag (Post:=fun v=>v=_) rfl zq zK (fun H' hH=>f119_c m H' s hl) ?_
 rintro v rfl;refine Z4 ?_
 refine jax rfl zq (fun q6=>jau (jae ?_));refine jfq rfl zq (jbi s).len (by rw [(jbi s).len];rfl) ?_;refine Z4 ?_;cases hfo:ja6 s
 refine Z8 ?_
 rotate_left
 refine Z8 ?_;refine jdR rfl zq (jbi s).len ?_;refine jaD rfl zq zK (Post:=fun w new=>OwnS 3 1 w (jdJ (jal s)).length (jaI (jdJ (jal s))) new) (fun H' hH=>f120_c m H' (jbi s)) ?_
 rintro w n17 o17;refine jaH (jae ?_);obtain ⟨p17,c17,rfl,hc17,r17⟩:=jav (B:=B) o17
 have hmp:=mea_pos (jbi s)
 have hml:=mea_le (jal s)
 refine Z3 ?_;refine jar [Zp 0,Zp 1,Zp 3,Zp 4,Zp 5,Zp 6,Zp 7,Zp 9,Zp 10,Zr 2,Zp 11,Zr 8,Zp 12,Zp 13,Zp 14] zK zK (List.Sublist.refl _) ?_;refine Zs ?_
 obtain ⟨r17_b,r17_o,rfl⟩:=r17.ptr zO
 refine D0 ?_;refine Z4 ?_;refine D12 ?_;refine Z2 ?_;refine jaW rfl zq (r17.iat 0 zO zO) ?_;refine Zs ?_;refine jaW rfl zq (r17.iat ((jdJ (jal s)).length-1) zO zO) ?_
 all_goals
  refine Z5 ?_;refine jad (h) rfl Tryz.func62 rfl jab ?_;refine Zs ?_
 ·have hme:jbl s=jdJ (jal s):=by rw [jbl,if_pos hfo]
  rw [if_pos hfo,if_pos hfo,if_pos hfo,if_pos hfo,hme];exact ⟨rfl,rfl⟩
 ·rw [if_neg (by simp [hfo]),if_neg (by simp [hfo]),if_neg (by simp [hfo]),if_neg (by simp [hfo])];exact ⟨rfl,rfl⟩
end
section
variable [LaidO B]
theorem jle (ss:List Str) (i:Nat):jaC (ss.take i)=(jaC ss).take i:=by have:=jn8 ss i;simpa using this
theorem byte_at {e:Nat} {rw:Bool} [x:Has h q rw (.cells (s.map jbV++junk).toArray e f)] (i:Nat) (hi:i<s.length):Rd B h ⟨q,0+(i:Int).toNat*1,none⟩ (.int .u8 ((s.getD i 0).toNat:Int)):=by
 refine Rd.held x.mem ?_
 rw [show 0+(i:Int).toNat*1=i by omega,List.getElem?_toArray,List.getElem?_append_left (by simpa using hi),List.getElem?_map,List.getElem?_eq_getElem hi,List.getD_eq_getElem?_getD,List.getElem?_eq_getElem hi];rfl
theorem f168_c (m:Md Tryz.prog B) (h:Hp) (s:Str) (hl:s.length≤100000):FnC m 168 #[str s] h fun v h'=>h'=h∧IsB (jim s) v:=by
 refine jaf Tryz.func168 rfl rfl (l:=(str s)::uu30) rfl ?_
 intro cf cs K hK
 refine Z8 ?_
 refine k_s2b rfl zq jgR jfo zK kdq (fun q6 N junk hjk=>jau (jae ?_));refine Z4 ?_
 refine jai (fun nn l h'=> ∃(i:Nat),nn=s.length-i∧(i≤s.length)∧(∀j,j<i→jka j (s.getD j 0))∧(∃U:Nat→Value,l=((str s)::vw5 U 1 ((.slice (some ⟨q6,0,none⟩) s.length N)::(.int .i64 (s.length:Int))::(.int .i64 (i:Int))::vw22 U 9 [])))∧h++[⟨true,q6,.cells (s.map jbV++junk).toArray 5 (N,N+1)⟩]=h') _ ⟨0,rfl,by omega,fun j hj=>absurd hj zO,exU rfl,rfl⟩ ?_;rintro nn l h' ⟨i,rfl,hi,hch,⟨U,rfl⟩,rfl⟩ hnext;refine Z2 ?_
 refine jao rfl zq (fun hc=>?_) (fun hc=>?_)
 ·refine Z9 ?_;refine D12 ?_;refine jaW rfl zq (byte_at i zO) ?_
  obtain ⟨ch,hcc⟩: ∃ch,ch=s.getD i 0:=⟨_,rfl⟩
  rw [←hcc];have hcb:=ch.toNat_lt
  refine Z4 ?_;refine jsR ?_;refine Zs ?_;refine jbg (n':=(ch.toNat:Int)) rfl zq zK (jew (by unfold jfx;omega)) ?_;refine D27 ?_
  rintro v (⟨hc,rfl⟩|⟨hc,rfl⟩)
  ·refine Z20 ?_
   exact m.weak jab (hnext _ _ _ zO ⟨i+1,rfl,by omega,by
    intro j hj
    by_cases e:j<i
    ·exact hch j e
    ·obtain rfl:j=i:=by omega
     rw [←hcc];unfold jka
     omega,exU rfl,rfl⟩)
  ·refine Z4 ?_
   refine jaS rfl rfl (fun hc=>?_) (fun hc=>?_)
   ·refine Z14 ?_;refine jad (h) rfl Tryz.func168 rfl jab ?_;refine Zs ?_
    refine ⟨rfl,IsB.no fun e=>?_⟩
    have:=e.2 i zO
    rw [←hcc] at this
    unfold jka at this
    omega
   ·refine Z2 ?_;refine jbg (n':=(ch.toNat:Int)) rfl rfl zK (jew (by unfold jfx;omega)) ?_;refine jag (Post:=fun v=>IsB _ v) rfl rfl zK (fun H' hH=>f117_c m H' _ _ _) ?_
    rintro v (⟨hc,rfl⟩|⟨hc,rfl⟩)
    ·refine Z12 ?_
     exact m.weak jab (hnext _ _ _ zO ⟨i+1,rfl,by omega,by
      intro j hj
      by_cases e:j<i
      ·exact hch j e
      ·obtain rfl:j=i:=by omega
       rw [←hcc];unfold jka
       omega,exU rfl,rfl⟩)
    ·refine D124 ?_;refine Z9 ?_;refine jad (h) rfl Tryz.func168 rfl jab ?_;refine Zs ?_
     refine ⟨rfl,IsB.no fun e=>?_⟩
     have:=e.2 i zO
     rw [←hcc] at this
     unfold jka at this
     omega
 ·refine Z8 ?_;refine D27 ?_
  rintro v (⟨hc,rfl⟩|⟨hc,rfl⟩);all_goals
   refine Z4 ?_;refine jad (h) rfl Tryz.func168 rfl jab ?_;refine Zs ?_
  ·refine ⟨rfl,IsB.yes ⟨by omega,fun j hj=>hch j zO⟩⟩
  ·refine ⟨rfl,IsB.no fun e=>?_⟩
   have:=e.1
   omega
theorem f215_c (m:Md Tryz.prog B) (h:Hp) {c:Nat} (rd:RdS B h 1 (.slice p n c) n (jaC ss)) (hn:n≤100000) (s:Str):FnC m 215 #[.slice p n c,str s] h fun v h'=>h'=h∧ ∃x:Int,v= .int .i64 x∧jfx x∧(0≤x↔s∈ss):=by
 have hll0:=rd.elen zA
 refine jaf Tryz.func215 rfl rfl (l:=(.slice p n c)::(str s)::uu17) rfl ?_
 intro cf cs K hK
 refine Z12 ?_
 refine jai (fun nn l h'=> ∃(i:Nat),nn=n-i∧(i≤n)∧(∀j,j<i→s≠ss.getD j [])∧(∃U:Nat→Value,l=((.slice p n c)::(str s)::vw5 U 2 ((.int .i64 (n:Int))::(.int .i64 (i:Int))::vw10 U 9 [])))∧h=h') _ ⟨0,rfl,by omega,fun j hj=>absurd hj zO,exU rfl,rfl⟩ ?_;rintro nn l h' ⟨i,rfl,hi,hno,⟨U,rfl⟩,rfl⟩ hnext;refine Z2 ?_
 refine jao rfl zq (fun hc=>?_) (fun hc=>?_)
 ·refine Z16 ?_
  obtain ⟨rd_b,rd_o,rfl⟩:=rd.ptr zO
  refine D0 ?_;refine jaW rfl zq (rd.sat i zO zO) ?_
  by_cases hse:s=ss.getD i []
  ·refine jhS rfl zq hse ?_;refine Z8 ?_;refine jad (h) rfl Tryz.func215 rfl jab ?_;refine Zs ?_;have hll:=rd.elen zA
   exact E21
  ·refine jhT rfl zq hse ?_;refine Z8 ?_;exact m.weak jab (hnext _ _ _ zO ⟨i+1,rfl,by omega,by
    intro j hj
    by_cases e:j<i
    ·exact hno j e
    ·obtain rfl:j=i:=by omega
     exact hse,exU rfl,rfl⟩)
 ·refine Z9 ?_;refine jad (h) rfl Tryz.func215 rfl jab ?_;refine Zs ?_
  have hll:=rd.elen zA
  refine ⟨rfl,_,rfl,by unfold jfx;omega,⟨fun e=>by omega,fun e=>?_⟩⟩
  obtain ⟨j,hj,e2⟩:=List.mem_iff_getElem.1 e
  refine absurd ?_ (hno j zO)
  rw [List.getD_eq_getElem?_getD,List.getElem?_eq_getElem hj];exact e2.symm
theorem f169_c (m:Md Tryz.prog B) (h:Hp) {c:Nat} (rd:RdS B h 1 (.slice p n c) n (jaC ss)) (hn:n≤100000) (s:Str):FnC m 169 #[.slice p n c,str s] h fun v h'=>h'=h∧IsB (s∈ss) v:=by
 refine jaf Tryz.func169 rfl rfl (l:=(.slice p n c)::(str s)::uu7) rfl ?_
 intro cf cs K hK
 refine Z8 ?_;refine jag (Post:=fun v=> ∃x:Int,v= .int .i64 x∧jfx x∧(0≤x↔s∈ss)) rfl zq zK (fun H' hH=>f215_c m H' (rd.keeps (sq hH)) hn s) ?_
 rintro v ⟨x,rfl,hx64,hxi⟩;refine Zs ?_
 refine jcH rfl zq (fun hc=>?_) (fun hc=>?_)
 ·refine Z3 ?_;refine jad (h) rfl Tryz.func169 rfl jab ?_;refine Zs ?_
  exact ⟨rfl,IsB.yes (hxi.1 hc)⟩
 ·refine Z3 ?_;refine jad (h) rfl Tryz.func169 rfl jab ?_;refine Zs ?_
  exact ⟨rfl,IsB.no fun e=>absurd (hxi.2 e) zO⟩
theorem f121_c (m:Md Tryz.prog B) (h:Hp) (rds:RdS B h 1 (.slice ps ns ks) ns (jaC b.sts)) (hcs:ns≤ks) (hns:ns≤1000) (hsl: ∀s∈b.sts,s.length≤100000):FnC m 121 #[tbV b ps ns ks pw nw cw pb nb cb] h fun v h'=>h'=h∧v= .int .i64 (jfd b):=by
 have hml:=rds.elen zA
 refine jaf Tryz.func121 rfl rfl (l:=(tbV b ps ns ks pw nw cw pb nb cb)::uu39) rfl ?_
 intro cf cs K hK
 refine Z2 ?_
 refine jaX rfl zq (fun q1=>jau (jae ?_));refine Z9 ?_;refine D27 ?_
 rintro v (⟨hc,rfl⟩|⟨hc,rfl⟩)
 ·refine Z11 ?_;refine D27 ?_
  rintro v (⟨hc,rfl⟩|⟨hc,rfl⟩)
  ·refine Z17 ?_
   refine jai (fun nn l h'=> ∃(i:Nat),nn=ns-i∧(i≤ns)∧(jdc [] b.sts=jdc (b.sts.take i) (b.sts.drop i))∧(∃U:Nat→Value,l=((tbV b ps ns ks pw nw cw pb nb cb)::(.pointer (some ⟨q1,0,none⟩))::vw18 U 2 ((.slice ps ns ks)::(.int .i64 (ns:Int))::(.int .i64 (i:Int))::vw17 U 23 [])))∧h++[⟨true,q1,.cells (tbL b ps ns ks pw nw cw pb nb cb).toArray 127 (0,0)⟩]=h') _ ⟨0,rfl,by omega,by simp,exU rfl,rfl⟩ ?_;rintro nn l h' ⟨i,rfl,hi,hnm,⟨U,rfl⟩,rfl⟩ hnext;refine Z2 ?_
   refine jao rfl zq (fun hc=>?_) (fun hc=>?_)
   ·refine Z9 ?_
    obtain ⟨rds_b,rds_o,rfl⟩:=rds.ptr zO
    refine D0 ?_;refine jaW rfl zq (rds.sat i zO zO) ?_;refine Z5 ?_
    have hdr:b.sts.drop i=b.sts.getD i []::b.sts.drop (i+1):=drop_at zO
    have hsi:(b.sts.getD i []).length≤100000:=hsl _ (jah (l:=b.sts) zO)
    have rdt:=rds.pre (m:=i) zO
    rw [Nat.mul_one,←jle] at rdt
    refine Z2 ?_;refine jag (Post:=fun v=>IsB _ v) rfl zq zK (fun H' hH=>f168_c m H' _ hsi) ?_
    rintro v (⟨hc,rfl⟩|⟨hc,rfl⟩)
    ·refine Z11 ?_;refine jp8 (b:=i) rfl zq rds.okp rfl zO ?_;refine Zs ?_;refine jag (Post:=fun v=>IsB _ v) rfl zq zK (fun H' hH=>f169_c m H' (rdt.keeps (sq hH)) zO _) ?_
     rintro v (⟨hc,rfl⟩|⟨hc,rfl⟩)
     ·refine Z9 ?_;refine D107 ?_;refine Zs ?_
      refine ⟨rfl,congrArg (Value.int .i64) ?_⟩
      first
       |exact (jdN zO).symm
       |exact (jdM zO zO).symm
       |(rw [jbM zO zO,hnm,hdr];exact E22)
       |(rw [jbM zO zO,hnm,List.drop_eq_nil_of_le zO];rfl)
     ·refine Z11 ?_
      exact m.weak jab (hnext _ _ _ zO ⟨i+1,rfl,by omega,by rw [hnm,hdr,jp2 zD zD,←jkM b.sts i zO],exU rfl,rfl⟩)
    ·refine Z10 ?_;refine D107 ?_;refine Zs ?_
     refine ⟨rfl,congrArg (Value.int .i64) ?_⟩
     first
      |exact (jdN zO).symm
      |exact (jdM zO zO).symm
      |(rw [jbM zO zO,hnm,hdr];exact E22)
      |(rw [jbM zO zO,hnm,List.drop_eq_nil_of_le zO];rfl)
   ·refine Z9 ?_;refine D107 ?_;refine Zs ?_
    refine ⟨rfl,congrArg (Value.int .i64) ?_⟩
    first
     |exact (jdN zO).symm
     |exact (jdM zO zO).symm
     |(rw [jbM zO zO,hnm,hdr];exact E22)
     |(rw [jbM zO zO,hnm,List.drop_eq_nil_of_le zO];rfl)
  ·refine Z10 ?_;refine D107 ?_;refine Zs ?_
   refine ⟨rfl,congrArg (Value.int .i64) ?_⟩
   first
    |exact (jdN zO).symm
    |exact (jdM zO zO).symm
    |(rw [jbM zO zO,hnm,hdr];exact E22)
    |(rw [jbM zO zO,hnm,List.drop_eq_nil_of_le zO];rfl)
 ·refine Z10 ?_;refine D107 ?_;refine Zs ?_
  refine ⟨rfl,congrArg (Value.int .i64) ?_⟩
  first
   |exact (jdN zO).symm
   |exact (jdM zO zO).symm
   |(rw [jbM zO zO,hnm,hdr];exact E22)
   |(rw [jbM zO zO,hnm,List.drop_eq_nil_of_le zO];rfl)
end
section
variable [LaidO B]
theorem ja8 (h:0<i):joG ls i=some (ls.getD (i-1) default).lat:=by
 match i,h with
 |i+1,_=>rfl
theorem ja1 (lps:List Lp) (i:Nat) (h:i<lps.length):(lps.map (·.ln)).getD i default=(lps.getD i default).ln:=by
 rw [List.getD_eq_getElem?_getD,List.getElem?_map,List.getElem?_eq_getElem h,List.getD_eq_getElem?_getD,List.getElem?_eq_getElem h];rfl
theorem f170_c (m:Md Tryz.prog B) (h:Hp) (rds:RdS B h 1 (.slice ps ns ks) ns (jaC b.sts)) (hcs:ns≤ks) (hns:ns≤1000) (hsl: ∀s∈b.sts,s.length≤100000) (hln:RdLn B h (.slice pl nl cl) nl lns) (hnl:nl≤1000) (hsm: ∀l∈lns,l.figs.length≤1000∧ ∀f∈l.figs,f.length≤100000):FnC m 170 #[tbV b ps ns ks pw nw cw pb nb cb,.slice pl nl cl] h fun v h'=>h'=h∧v= .int .i64 (jaR b.sts.length lns):=by
 have hml:=rds.elen zA
 obtain ⟨lps,rfl,rl,hfig⟩:=hln
 have hll:=rl.elen zA
 refine jaf Tryz.func170 rfl rfl (l:=(tbV b ps ns ks pw nw cw pb nb cb)::(.slice pl nl cl)::uu67) rfl ?_
 intro cf cs K hK
 refine Z2 ?_
 refine jaX rfl zq (fun q2=>jau (jae ?_));refine Z7 ?_
 refine jaY rfl zq (fun hc=>?_) (fun hc=>?_)
 ·refine Z7 ?_;refine D59 ?_;refine Zs ?_
  refine ⟨rfl,congrArg (Value.int .i64) ?_⟩
  first
   |(rw [jaR,if_pos zI];done)
   |(rw [jaR,if_neg zI,hlm];first
     |(rw [List.drop_eq_nil_of_le zI];rfl)
     |(rw [hdr];first
       |exact (jcO zO).symm
       |exact E23
       |exact E24
       |exact E25))
 ·refine Z11 ?_
  refine jai (fun nn l h'=> ∃(i:Nat),nn=nl-i∧(i≤nl)∧(jcG b.sts.length none (lps.map (·.ln))=jcG b.sts.length (joG (lps.map (·.ln)) i) ((lps.map (·.ln)).drop i))∧(∃U:Nat→Value,l=((tbV b ps ns ks pw nw cw pb nb cb)::(.slice pl nl cl)::(.pointer (some ⟨q2,0,none⟩))::vw11 U 3 ((.slice pl nl cl)::(.int .i64 (nl:Int))::(.int .i64 (i:Int))::vw52 U 17 [])))∧h++[⟨true,q2,.cells (tbL b ps ns ks pw nw cw pb nb cb).toArray 127 (0,0)⟩]=h') _ ⟨0,rfl,by omega,rfl,exU rfl,rfl⟩ ?_;rintro nn l h' ⟨i,rfl,hi,hlm,⟨U,rfl⟩,rfl⟩ hnext1;refine Z2 ?_
  refine jao rfl zq (fun hc=>?_) (fun hc=>?_)
  ·refine Z7 ?_
   obtain ⟨rl_b,rl_o,rfl⟩:=rl.ptr zO
   refine Z2 ?_;refine D12 ?_;refine jc5 (vs:=[.int .i64 (lps.getD i default).ln.lat,.slice (lps.getD i default).p (lps.getD i default).ln.figs.length (lps.getD i default).c]) rfl zq rfl (rl.eat i zO zO) ?_
   obtain ⟨x,hx⟩: ∃x,x=lps.getD i default:=⟨_,rfl⟩
   rw [←hx];refine jax rfl zq (fun q6=>jau (jae ?_));refine Zs ?_;refine D6 ?_;refine Z4 ?_
   have hxm:x∈lps:=hx▸jah zO
   obtain ⟨hxc,rdf0⟩:=hfig x hxm
   have hdr:(lps.map (·.ln)).drop i=x.ln::(lps.map (·.ln)).drop (i+1):=by rw [drop_at zI,ja1 _ _ zO,←hx]
   obtain ⟨hfl,hfs⟩:=hsm x.ln (List.mem_map.2 ⟨x,hxm,rfl⟩)
   refine Z3 ?_;refine D27 ?_
   rintro v (⟨hc,rfl⟩|⟨hc,rfl⟩)
   ·refine Z6 ?_;refine jar [Zp 0,Zp 1,Zp 2,Zp 3,Zp 5,Zp 6,Zp 7,Zp 8,Zp 9,Zr 4,Zr 10,Zp 11,Zp 12,Zp 13] zK zK (List.Sublist.refl _) ?_;refine Zs ?_
    refine jaY rfl zq (fun hc=>?_) (fun hc=>?_)
    ·refine Z4 ?_;refine D95 ?_;refine jcq rfl rfl rfl zO zO ?_;refine Z2 ?_;refine D108 ?_
     refine jcn rfl rfl (fun hc=>?_) (fun hc=>?_)
     ·refine Z9 ?_;refine D59 ?_;refine Zs ?_
      refine ⟨rfl,congrArg (Value.int .i64) ?_⟩
      first
       |(rw [jaR,if_pos zI];done)
       |(rw [jaR,if_neg zI,hlm];first
         |(rw [List.drop_eq_nil_of_le zI];rfl)
         |(rw [hdr];first
           |exact (jcO zO).symm
           |exact E23
           |exact E24
           |exact E25))
     ·refine Z5 ?_
      have hnu: ¬jiz (joG (lps.map (·.ln)) i) x.ln.lat:=by
       rintro ⟨y,e1,e2⟩;first
        |(have hi0:i=0:=by omega
          subst hi0
          cases e1)
        |(rw [ja8 zO,ja1 _ _ zO] at e1;have e3:=Option.some.inj e1;omega)
      refine Z8 ?_
      refine jbK rfl zq (fun hc=>?_) (fun hc=>?_)
      ·refine Z8 ?_;refine D59 ?_;refine Zs ?_
       refine ⟨rfl,congrArg (Value.int .i64) ?_⟩
       first
        |(rw [jaR,if_pos zI];done)
        |(rw [jaR,if_neg zI,hlm];first
          |(rw [List.drop_eq_nil_of_le zI];rfl)
          |(rw [hdr];first
            |exact (jcO zO).symm
            |exact E23
            |exact E24
            |exact E25))
      ·refine Z13 ?_
       refine jai (fun nn l h'=> ∃(k:Nat),nn=x.ln.figs.length-k∧(k≤x.ln.figs.length)∧(∀j,j<k→jbx (x.ln.figs.getD j [])=true)∧(∃U:Nat→Value,l=((tbV b ps ns ks pw nw cw pb nb cb)::(.slice (some ⟨rl_b,rl_o,none⟩) nl cl)::(.pointer (some ⟨q2,0,none⟩))::vw11 U 3 ((.slice (some ⟨rl_b,rl_o,none⟩) nl cl)::(.int .i64 (nl:Int))::(.int .i64 (i:Int))::vw33 U 17 ((.slice x.p x.ln.figs.length x.c)::(.int .i64 (x.ln.figs.length:Int))::(.int .i64 (k:Int))::vw16 U 53 []))))∧h++[⟨true,q2,.cells (tbL b ps ns ks pw nw cw pb nb cb).toArray 127 (0,0)⟩,⟨true,q6,.cells [.int .i64 x.ln.lat,.slice x.p x.ln.figs.length x.c].toArray 121 (0,0)⟩]=h') _ ⟨0,rfl,by omega,fun j hj=>absurd hj zO,exU rfl,rfl⟩ ?_;rintro nn l h' ⟨k,rfl,hk,hfk,⟨U,rfl⟩,rfl⟩ hnext2;refine Z2 ?_
       refine jao rfl zq (fun hc=>?_) (fun hc=>?_)
       ·refine Z7 ?_
        have rdf:=rdf0 zO
        obtain ⟨fb,fo,hfp⟩:=rdf.ptr zO
        have rdg:=rdf
        rw [hfp] at rdg
        have hsk:(x.ln.figs.getD k []).length≤100000:=hfs _ (jah (l:=x.ln.figs) zO)
        refine Zs ?_;refine D54 ?_;refine D99 ?_;refine Z5 ?_;refine jag (Post:=fun v=>v=_) rfl zq zK (fun H' hH=>f119_c m H' _ hsk) ?_
        rintro v rfl;refine Z4 ?_
        refine jax rfl zq (fun q9=>jau (jae ?_));refine D55 ?_;refine Z3 ?_
        cases hfo:ja6 (x.ln.figs.getD k [])
        all_goals
         refine Z2 ?_
        ·refine Z3 ?_
         by_cases hda:x.ln.figs.getD k []=[45]
         ·refine jdL rfl rfl hda ?_;refine Z9 ?_;exact m.weak jab (hnext2 _ _ _ zO ⟨k+1,rfl,by omega,fun j hj=>by
           by_cases e:j<k
           ·exact hfk j e
           ·obtain rfl:j=k:=by omega
            first|(rw [jbx,hfo];rfl)|(rw [jbx,decide_eq_true (show x.ln.figs.getD j []=jbG from hda)];simp),exU rfl,rfl⟩)
         ·refine jhR rfl rfl hda ?_;refine Z8 ?_;refine D59 ?_;refine Zs ?_;refine ⟨rfl,congrArg (Value.int .i64) ?_⟩
          first
           |(rw [jaR,if_pos zI];done)
           |(rw [jaR,if_neg zI,hlm];first
             |(rw [List.drop_eq_nil_of_le zI];rfl)
             |(rw [hdr];first
               |exact (jcO zO).symm
               |exact E23
               |exact E24
               |exact E25))
        ·refine Z13 ?_
         exact m.weak jab (hnext2 _ _ _ zO ⟨k+1,rfl,by omega,fun j hj=>by
          by_cases e:j<k
          ·exact hfk j e
          ·obtain rfl:j=k:=by omega
           first|(rw [jbx,hfo];rfl)|(rw [jbx,decide_eq_true (show x.ln.figs.getD j []=jbG from hda)];simp),exU rfl,rfl⟩)
       ·refine Z5 ?_
        have hall: ∀f∈x.ln.figs,jbx f=true:=fun f hf=>by
         obtain ⟨j,hj,e⟩:=List.mem_iff_getElem.1 hf
         have:=hfk j zO
         rw [List.getD_eq_getElem?_getD,List.getElem?_eq_getElem hj] at this
         exact e▸this
        refine Z4 ?_
        exact E26
    ·refine Z15 ?_
     have hnu: ¬jiz (joG (lps.map (·.ln)) i) x.ln.lat:=by
      rintro ⟨y,e1,e2⟩;first
       |(have hi0:i=0:=by omega
         subst hi0
         cases e1)
       |(rw [ja8 zO,ja1 _ _ zO] at e1;have e3:=Option.some.inj e1;omega)
     refine Z8 ?_
     refine jbK rfl zq (fun hc=>?_) (fun hc=>?_)
     ·refine Z8 ?_;refine D59 ?_;refine Zs ?_
      refine ⟨rfl,congrArg (Value.int .i64) ?_⟩
      first
       |(rw [jaR,if_pos zI];done)
       |(rw [jaR,if_neg zI,hlm];first
         |(rw [List.drop_eq_nil_of_le zI];rfl)
         |(rw [hdr];first
           |exact (jcO zO).symm
           |exact E23
           |exact E24
           |exact E25))
     ·refine Z13 ?_
      refine jai (fun nn l h'=> ∃(k:Nat),nn=x.ln.figs.length-k∧(k≤x.ln.figs.length)∧(∀j,j<k→jbx (x.ln.figs.getD j [])=true)∧(∃U:Nat→Value,l=((tbV b ps ns ks pw nw cw pb nb cb)::(.slice (some ⟨rl_b,rl_o,none⟩) nl cl)::(.pointer (some ⟨q2,0,none⟩))::vw11 U 3 ((.slice (some ⟨rl_b,rl_o,none⟩) nl cl)::(.int .i64 (nl:Int))::(.int .i64 (i:Int))::vw33 U 17 ((.slice x.p x.ln.figs.length x.c)::(.int .i64 (x.ln.figs.length:Int))::(.int .i64 (k:Int))::vw16 U 53 []))))∧h++[⟨true,q2,.cells (tbL b ps ns ks pw nw cw pb nb cb).toArray 127 (0,0)⟩,⟨true,q6,.cells [.int .i64 x.ln.lat,.slice x.p x.ln.figs.length x.c].toArray 121 (0,0)⟩]=h') _ ⟨0,rfl,by omega,fun j hj=>absurd hj zO,exU rfl,rfl⟩ ?_;rintro nn l h' ⟨k,rfl,hk,hfk,⟨U,rfl⟩,rfl⟩ hnext2;refine Z2 ?_
      refine jao rfl zq (fun hc=>?_) (fun hc=>?_)
      ·refine Z7 ?_
       have rdf:=rdf0 zO
       obtain ⟨fb,fo,hfp⟩:=rdf.ptr zO
       have rdg:=rdf
       rw [hfp] at rdg
       have hsk:(x.ln.figs.getD k []).length≤100000:=hfs _ (jah (l:=x.ln.figs) zO)
       refine Zs ?_;refine D54 ?_;refine D99 ?_;refine Z5 ?_;refine jag (Post:=fun v=>v=_) rfl zq zK (fun H' hH=>f119_c m H' _ hsk) ?_
       rintro v rfl;refine Z4 ?_
       refine jax rfl zq (fun q9=>jau (jae ?_));refine D55 ?_;refine Z3 ?_
       cases hfo:ja6 (x.ln.figs.getD k [])
       all_goals
        refine Z2 ?_
       ·refine Z3 ?_
        by_cases hda:x.ln.figs.getD k []=[45]
        ·refine jdL rfl rfl hda ?_;refine Z9 ?_;exact m.weak jab (hnext2 _ _ _ zO ⟨k+1,rfl,by omega,fun j hj=>by
          by_cases e:j<k
          ·exact hfk j e
          ·obtain rfl:j=k:=by omega
           first|(rw [jbx,hfo];rfl)|(rw [jbx,decide_eq_true (show x.ln.figs.getD j []=jbG from hda)];simp),exU rfl,rfl⟩)
        ·refine jhR rfl rfl hda ?_;refine Z8 ?_;refine D59 ?_;refine Zs ?_;refine ⟨rfl,congrArg (Value.int .i64) ?_⟩
         first
          |(rw [jaR,if_pos zI];done)
          |(rw [jaR,if_neg zI,hlm];first
            |(rw [List.drop_eq_nil_of_le zI];rfl)
            |(rw [hdr];first
              |exact (jcO zO).symm
              |exact E23
              |exact E24
              |exact E25))
       ·refine Z13 ?_
        exact m.weak jab (hnext2 _ _ _ zO ⟨k+1,rfl,by omega,fun j hj=>by
         by_cases e:j<k
         ·exact hfk j e
         ·obtain rfl:j=k:=by omega
          first|(rw [jbx,hfo];rfl)|(rw [jbx,decide_eq_true (show x.ln.figs.getD j []=jbG from hda)];simp),exU rfl,rfl⟩)
      ·refine Z5 ?_
       have hall: ∀f∈x.ln.figs,jbx f=true:=fun f hf=>by
        obtain ⟨j,hj,e⟩:=List.mem_iff_getElem.1 hf
        have:=hfk j zO
        rw [List.getD_eq_getElem?_getD,List.getElem?_eq_getElem hj] at this
        exact e▸this
       refine Z4 ?_
       exact E26
   ·refine Z10 ?_;refine D59 ?_;refine Zs ?_
    refine ⟨rfl,congrArg (Value.int .i64) ?_⟩
    first
     |(rw [jaR,if_pos zI];done)
     |(rw [jaR,if_neg zI,hlm];first
       |(rw [List.drop_eq_nil_of_le zI];rfl)
       |(rw [hdr];first
         |exact (jcO zO).symm
         |exact E23
         |exact E24
         |exact E25))
  ·refine Z9 ?_;refine D59 ?_;refine Zs ?_
   refine ⟨rfl,congrArg (Value.int .i64) ?_⟩
   first
    |(rw [jaR,if_pos zI];done)
    |(rw [jaR,if_neg zI,hlm];first
      |(rw [List.drop_eq_nil_of_le zI];rfl)
      |(rw [hdr];first
        |exact (jcO zO).symm
        |exact E23
        |exact E24
        |exact E25))
end
section
variable [LaidO B]
def halvesL:List Value:=[str [119,97,116,101,114],.bool false,.func (.func 261) #[] #[],str [98,117,116,116],.bool true,.func (.func 262) #[] #[]]
def hwS (i:Nat):Str:=if i=0 then [119,97,116,101,114] else [98,117,116,116]
def hbS (i:Nat):Bool:=decide (i≠0)
def hL (b:Tb) (i:Nat):List Ln:=if i=0 then b.waters else b.butts
theorem half_get (i:Nat) (hi:i<2):(halvesL.drop ((i:Int).toNat*3)).take 3=[str (hwS i),.bool (hbS i),.func (.func (261+i)) #[] #[]]:=by
 rcases (by omega:i=0∨i=1) with rfl|rfl<;>rfl
theorem jjQ (i:Nat) (hi:i<2):jcF Tryz.prog (261+i)=true:=by
 rcases (by omega:i=0∨i=1) with rfl|rfl<;>kernel_rfl
theorem jfB {α:Type} [Inhabited α] (f:α→Nat) (xs:List α) (k:Nat) (h:k<xs.length):((xs.take (k+1)).map f).sum=((xs.take k).map f).sum+f (xs.getD k default):=by
 rw [jcs xs k h,List.map_append,List.sum_append];simp
theorem ji9 {α:Type} (f:α→Nat) (c:Nat): ∀(xs:List α),(∀x∈xs,f x≤c)→(xs.map f).sum≤xs.length*c
 |[],_=>by simp
 |x::r,h=>by
  have h1:=h x zS
  have h2:=ji9 f c r fun y hy=>h y (by simp [hy])
  simp only [List.map_cons,List.sum_cons,List.length_cons,Nat.add_mul]
  omega
theorem jjf (s:Str):jb0 s≤3:=by
 have:=List.countP_le_length (p:=fun x:Int=>decide (x= -1)) (l:=jal s)
 rw [(jbi s).len] at this
 exact this
theorem jlH {l:Ln} (h:l.figs.length≤1000):jcQ l≤3000:=by
 have:=ji9 jb0 3 l.figs fun s _=>jjf s
 unfold jcQ
 omega
theorem jsC (h:ls.length≤1000) (hf: ∀l∈ls,l.figs.length≤1000):jb1 ls≤3000000:=by
 have:=ji9 jcQ 3000 ls fun l hl=>jlH (hf l hl)
 unfold jb1
 omega
theorem jaV {c:Nat} (r:RdLn B h (.slice p n c) n ls):ls.length=n:=by
 obtain ⟨lps,hle,rl,_⟩:=r
 rw [←hle,List.length_map,rl.elen zA]
def jkD (b:Tb) (i:Nat):Nat:=((List.range i).map fun j=>jb1 (hL b j)).sum
theorem juv (b:Tb) (i:Nat):jkD b (i+1)=jkD b i+jb1 (hL b i):=by
 rw [jkD,List.range_succ,List.map_append,List.sum_append];simp [jkD]
theorem f261_c (m:Md Tryz.prog B) (h:Hp) (q:Nat):FnC m 261 #[.pointer (some ⟨q,0,none⟩)] h fun v h'=>h'=h∧v= .pointer (some ⟨q,2,none⟩):=by
 refine jaf Tryz.func261 rfl rfl (l:=[.pointer (some ⟨q,0,none⟩),undef,undef,undef,undef,undef]) rfl ?_
 intro cf cs K hK
 refine Z12 ?_;refine jad (h) rfl Tryz.func261 rfl jab ?_;refine Zs ?_
 exact ⟨rfl,rfl⟩
theorem f262_c (m:Md Tryz.prog B) (h:Hp) (q:Nat):FnC m 262 #[.pointer (some ⟨q,0,none⟩)] h fun v h'=>h'=h∧v= .pointer (some ⟨q,3,none⟩):=by
 refine jaf Tryz.func262 rfl rfl (l:=[.pointer (some ⟨q,0,none⟩),undef,undef,undef,undef,undef]) rfl ?_
 intro cf cs K hK
 refine Z12 ?_;refine jad (h) rfl Tryz.func262 rfl jab ?_;refine Zs ?_
 exact ⟨rfl,rfl⟩
theorem jt3 (m:Md Tryz.prog B) (h:Hp) (q i:Nat) (hi:i<2):FnC m (261+i) #[.pointer (some ⟨q,0,none⟩)] h fun v h'=>h'=h∧v= .pointer (some ⟨q,2+i,none⟩):=by
 rcases (by omega:i=0∨i=1) with rfl|rfl
 ·exact f261_c m h q
 ·exact f262_c m h q
theorem jt1 (rdw:RdLn B h (.slice pw nw cw) nw b.waters) (hw:nw≤1000) (rdb:RdLn B h (.slice pb nb cb) nb b.butts) (hb:nb≤1000) (i:Nat) (hi:i<2):
  ∃pl nl cl,(tbL b ps ns ks pw nw cw pb nb cb)[2+i]?=some (.slice pl nl cl)∧RdLn B h (.slice pl nl cl) nl (hL b i)∧nl≤1000:=by
 rcases (by omega:i=0∨i=1) with rfl|rfl
 ·exact ⟨pw,nw,cw,rfl,rdw,hw⟩
 ·exact ⟨pb,nb,cb,rfl,rdb,hb⟩
theorem rd_nth {o:Nat} {rw:Bool} {t:TypeId} {v:Value} [x:Has h q rw (.cells cs.toArray t f)] (e:cs[o]?=some v):Rd B h ⟨q,o,none⟩ v:=Rd.held x.mem (by simpa using e)
theorem f122_c (m:Md Tryz.prog B) (h:Hp) (rds:RdS B h 1 (.slice ps ns ks) ns (jaC b.sts)) (hcs:ns≤ks) (hns:ns≤1000) (hsl: ∀s∈b.sts,s.length≤100000) (rdw:RdLn B h (.slice pw nw cw) nw b.waters) (hnw:nw≤1000) (rdb:RdLn B h (.slice pb nb cb) nb b.butts) (hnb:nb≤1000) (hsm:TbSm b):FnC m 122 #[tbV b ps ns ks pw nw cw pb nb cb] h fun v h'=>h'=h∧v= .int .i64 (jke b):=by
 have hml:=rds.elen zA
 have hsw:=jsC (ls:=b.waters) (by rw [jaV rdw];exact hnw) fun l hl=>(hsm.wat l hl).1
 have hsb:=jsC (ls:=b.butts) (by rw [jaV rdb];exact hnb) fun l hl=>(hsm.but l hl).1
 refine jaf Tryz.func122 rfl rfl (l:=(tbV b ps ns ks pw nw cw pb nb cb)::uu56) rfl ?_
 intro cf cs K hK
 refine Z2 ?_
 refine jaX rfl zq (fun q1=>jau (jae ?_));refine Z9 ?_;refine jc5 (vs:=halvesL) rfl zq rfl jgL ?_;refine Z3 ?_
 refine jai (fun nn l h'=> ∃(i:Nat),nn=2-i∧(i≤2)∧(∀j,j<i→jaR b.sts.length (hL b j)=0)∧(∃U:Nat→Value,l=((tbV b ps ns ks pw nw cw pb nb cb)::(.pointer (some ⟨q1,0,none⟩))::(U 2)::(.int .i64 (jkD b i:Int))::vw10 U 4 ((.agg halvesL.toArray)::(.int .i64 (i:Int))::vw41 U 16 [])))∧h++[⟨true,q1,.cells (tbL b ps ns ks pw nw cw pb nb cb).toArray 127 (0,0)⟩]=h') _ ⟨0,rfl,by omega,fun j hj=>absurd hj zO,exU rfl,rfl⟩ ?_;rintro nn l h' ⟨i,rfl,hi,hz,⟨U,rfl⟩,rfl⟩ hnext1;have hcb:jkD b i≤i*3000000:=by
  rcases (by omega:i=0∨i=1∨i=2) with rfl|rfl|rfl<;>simp [jkD,List.range_succ,hL]<;>omega
 refine Z2 ?_
 refine jao rfl zq (fun hc=>?_) (fun hc=>?_)
 ·refine Z8 ?_;refine jqa rfl zq zO zO (half_get i zO) ?_
  refine jax rfl zq (fun q5=>jau (jae ?_));refine D6 ?_;refine Z2 ?_
  obtain ⟨pl,nl,cl,hsl1,hln,hnl⟩:=jt1 (B:=B) (b:=b) (ps:=ps) (ns:=ns) (ks:=ks) rdw hnw rdb hnb i zO
  have hsmi: ∀l∈hL b i,l.figs.length≤1000∧ ∀f∈l.figs,f.length≤100000:=by
   unfold hL
   split
   ·exact hsm.wat
   ·exact hsm.but
  refine Z4 ?_;refine D89 ?_
  rintro v rfl;refine Z2 ?_;refine jaW (v:= .slice pl nl cl) rfl zq (rd_nth hsl1) ?_;refine Z7 ?_;refine jag (Post:=fun v=>v=_) rfl zq zK (fun H' hH=>f170_c m H' (rds.keeps (sq hH)) hcs hns hsl (hln.keeps (sq hH)) hnl hsmi) ?_
  rintro v rfl;refine Z6 ?_
  refine jbK rfl zq (fun hc=>?_) (fun hc=>?_)
  ·refine Z8 ?_;refine jad (h) rfl Tryz.func122 rfl jab ?_;refine Zs ?_
   refine ⟨rfl,congrArg (Value.int .i64) ?_⟩
   rcases (by omega:i=0∨i=1) with rfl|rfl
   ·rw [jke,if_pos (show jaR b.sts.length b.waters≠0 by assumption)];rfl
   ·rw [jke,if_neg (fun e=>e (hz 0 zO)),if_pos (show jaR b.sts.length b.butts≠0 by assumption)];rfl
  ·refine Z4 ?_
   obtain ⟨lps,hle,rl,hfig⟩:=hln
   have hll:=rl.elen zA
   have hln2:(hL b i).length=nl:=by rw [←hle,List.length_map,hll]
   refine Z6 ?_
   rw [show (jkD b i:Int)=((jkD b i+((hL b i).take 0|>.map jcQ).sum:Nat):Int) by simp];refine jai (fun nn l h'=> ∃(k:Nat),nn=nl-k∧(k≤nl)∧(∃U:Nat→Value,l=((tbV b ps ns ks pw nw cw pb nb cb)::(.pointer (some ⟨q1,0,none⟩))::(U 2)::(.int .i64 ((jkD b i+((hL b i).take k|>.map jcQ).sum:Nat):Int))::vw10 U 4 ((.agg halvesL.toArray)::(.int .i64 (i:Int))::vw14 U 16 ((.slice pl nl cl)::(.int .i64 (nl:Int))::(.int .i64 (k:Int))::vw24 U 33 []))))∧h++[⟨true,q1,.cells (tbL b ps ns ks pw nw cw pb nb cb).toArray 127 (0,0)⟩,⟨true,q5,.cells [str (hwS i),.bool (hbS i),.func (.func (261+i)) #[] #[]].toArray 184 (0,0)⟩]=h') _ ⟨0,rfl,by omega,exU rfl,rfl⟩ ?_;rintro nn l h' ⟨k,rfl,hk,⟨U,rfl⟩,rfl⟩ hnext2;have hsk:((hL b i).take k|>.map jcQ).sum≤k*3000:=Nat.le_trans (ji9 jcQ 3000 _ fun l hl=>jlH (hsmi l (List.mem_of_mem_take hl)).1) (Nat.mul_le_mul_right _ zN)
   refine Z2 ?_
   refine jao rfl zq (fun hc=>?_) (fun hc=>?_)
   ·refine Z7 ?_
    obtain ⟨rl_b,rl_o,rfl⟩:=rl.ptr zO
    refine Zs ?_;refine D12 ?_;refine D58 ?_
    obtain ⟨x,hx⟩: ∃x,x=lps.getD k default:=⟨_,rfl⟩
    rw [←hx];refine jax rfl zq (fun q9=>jau (jae ?_));refine D6 ?_;refine Z2 ?_
    have hxm:x∈lps:=hx▸jah zO
    obtain ⟨hxc,rdf0⟩:=hfig x hxm
    have hxl:(hL b i).getD k default=x.ln:=by rw [←hle,ja1 _ _ zO,←hx]
    obtain ⟨hfl,hfs⟩:=hsmi x.ln (hxl▸jah zO)
    have hkb:k*3000≤1000*3000:=Nat.mul_le_mul_right _ zO
    refine Z7 ?_
    rw [show ((jkD b i+((hL b i).take k|>.map jcQ).sum:Nat):Int)=((jkD b i+((hL b i).take k|>.map jcQ).sum+((x.ln.figs.take 0).map jb0).sum:Nat):Int) by simp];refine jai (fun nn l h'=> ∃(j:Nat),nn=x.ln.figs.length-j∧(j≤x.ln.figs.length)∧(∃U:Nat→Value,l=((tbV b ps ns ks pw nw cw pb nb cb)::(.pointer (some ⟨q1,0,none⟩))::(U 2)::(.int .i64 ((jkD b i+((hL b i).take k|>.map jcQ).sum+((x.ln.figs.take j).map jb0).sum:Nat):Int))::vw10 U 4 ((.agg halvesL.toArray)::(.int .i64 (i:Int))::vw14 U 16 ((.slice (some ⟨rl_b,rl_o,none⟩) nl cl)::(.int .i64 (nl:Int))::(.int .i64 (k:Int))::vw4 U 33 ((.slice x.p x.ln.figs.length x.c)::(.int .i64 (x.ln.figs.length:Int))::(.int .i64 (j:Int))::vw17 U 40 [])))))∧h++[⟨true,q1,.cells (tbL b ps ns ks pw nw cw pb nb cb).toArray 127 (0,0)⟩,⟨true,q5,.cells [str (hwS i),.bool (hbS i),.func (.func (261+i)) #[] #[]].toArray 184 (0,0)⟩,⟨true,q9,.cells [.int .i64 x.ln.lat,.slice x.p x.ln.figs.length x.c].toArray 121 (0,0)⟩]=h') _ ⟨0,rfl,by omega,exU rfl,rfl⟩ ?_;rintro nn l h' ⟨j,rfl,hj,⟨U,rfl⟩,rfl⟩ hnext3;have hsj:((x.ln.figs.take j).map jb0).sum≤j*3:=Nat.le_trans (ji9 jb0 3 _ fun s _=>jjf s) (Nat.mul_le_mul_right _ zN)
    refine Z2 ?_
    refine jao rfl zq (fun hc=>?_) (fun hc=>?_);refine Z7 ?_
    have rdf:=rdf0 zO
    obtain ⟨fb,fo,hfp⟩:=rdf.ptr zO
    have rdg:=rdf
    rw [hfp] at rdg
    have hsk2:(x.ln.figs.getD j []).length≤100000:=hfs _ (jah (l:=x.ln.figs) zO)
    refine Zs ?_;refine D54 ?_;refine jaW rfl zq (rdg.sat j zO zO) ?_;refine Z5 ?_;refine jag (Post:=fun v=>v=_) rfl zq zK (fun H' hH=>f119_c m H' _ hsk2) ?_
    rintro v rfl;refine Z4 ?_
    refine jax rfl zq (fun q12=>jau (jae ?_));refine D55 ?_;refine Z4 ?_;refine D40 ?_;refine jag (Post:=fun v=>v= .int .i64 (jb0 (x.ln.figs.getD j []):Int)) rfl zq zK (fun H' hH=>f171_c m H' (jbi _).len) ?_
    rintro v rfl;refine Zs ?_
    have hfj:=jjf (x.ln.figs.getD j [])
    refine Z4 ?_
    rotate_left
    refine Z5 ?_
    have hjn:j=x.ln.figs.length:=by omega
    all_goals
     refine Z4 ?_
    ·rw [hjn,List.take_of_length_le (Nat.le_refl _),show jkD b i+((hL b i).take k|>.map jcQ).sum+(x.ln.figs.map jb0).sum=jkD b i+((hL b i).take (k+1)|>.map jcQ).sum by rw [jfB jcQ _ _ zO,hxl,Nat.add_assoc];rfl];exact m.weak jab (hnext2 _ _ _ zO ⟨k+1,rfl,by omega,exU rfl,rfl⟩)
    ·rw [show ((jkD b i+((hL b i).take k|>.map jcQ).sum+((x.ln.figs.take j).map jb0).sum:Nat):Int)+(jb0 (x.ln.figs.getD j []):Int)=((jkD b i+((hL b i).take k|>.map jcQ).sum+((x.ln.figs.take (j+1)).map jb0).sum:Nat):Int) by rw [jfB jb0 _ _ zO];show _+((jb0 (x.ln.figs.getD j default):Nat):Int)=_;omega];exact m.weak jab (hnext3 _ _ _ zO ⟨j+1,rfl,by omega,exU rfl,rfl⟩)
   ·refine Z5 ?_
    have hkn:k=nl:=by omega
    have hin2:i<2:=by omega
    refine Z4 ?_
    rw [hkn,List.take_of_length_le zO,show jkD b i+((hL b i).map jcQ).sum=jkD b (i+1) from (juv b i).symm];exact m.weak jab (hnext1 _ _ _ zO ⟨i+1,rfl,by omega,fun j hj=>by
     by_cases e:j<i
     ·exact hz j e
     ·obtain rfl:j=i:=by omega
      omega,exU rfl,rfl⟩)
 ·refine Z6 ?_
  have hi2:i=2:=by omega
  subst hi2
  have hz0:=hz 0 zO
  have hz1:=hz 1 zO
  rw [show hL b 0=b.waters from rfl] at hz0
  rw [show hL b 1=b.butts from rfl] at hz1
  have hc2:jkD b 2=jb1 b.waters+jb1 b.butts:=by simp [jkD,List.range_succ,hL]
  refine Z2 ?_
  refine jaY rfl zq (fun hc=>?_) (fun hc=>?_);refine Z2 ?_
  rotate_left
  refine Z3 ?_
  all_goals
   refine Z5 ?_;refine jad (h) rfl Tryz.func122 rfl jab ?_;refine Zs ?_
  ·exact ⟨rfl,by rw [jke,if_neg (fun e=>e hz0),if_neg (fun e=>e hz1),if_neg zO]⟩
  ·exact ⟨rfl,by rw [jke,if_neg (fun e=>e hz0),if_neg (fun e=>e hz1),if_pos zO]⟩
end
section
variable [LaidO B]
def chkT (b:Tb) (k:Nat):Int:=if k=0 then jfd b else jke b
theorem joe (hk:k<2) (h: ∀i,i<k→chkT b i=0) (hs:chkT b k≠0):tbS b=chkT b k:=by
 rcases (by omega:k=0∨k=1) with rfl|rfl
 ·rw [tbS,if_pos (show jfd b≠0 from hs)];rfl
 ·rw [tbS,if_neg (fun e=>e (show jfd b=0 from h 0 zO))];rfl
theorem jli (h: ∀i,i<2→chkT b i=0):tbS b=0:=by
 rw [tbS,if_neg (fun e=>e (show jfd b=0 from h 0 zO))];exact h 1 zO
theorem chkT_get (v:Value) (k:Nat) (hk:k<2):([Value.func (.func 121) #[v] #[],.func (.func 122) #[v] #[]].toArray)[(k:Int).toNat*1]?=some (.func (.func (121+k)) #[v] #[]):=by
 rcases (by omega:k=0∨k=1) with rfl|rfl<;>rfl
theorem juz (k:Nat) (hk:k<2):jcF Tryz.prog (121+k)=true:=by
 rcases (by omega:k=0∨k=1) with rfl|rfl<;>kernel_rfl
theorem chkT_c (m:Md Tryz.prog B) (h:Hp) (rds:RdS B h 1 (.slice ps ns ks) ns (jaC b.sts)) (hcs:ns≤ks) (hns:ns≤1000) (hsl: ∀s∈b.sts,s.length≤100000) (rdw:RdLn B h (.slice pw nw cw) nw b.waters) (hnw:nw≤1000) (rdb:RdLn B h (.slice pb nb cb) nb b.butts) (hnb:nb≤1000) (hsm:TbSm b) (k:Nat) (hk:k<2):FnC m (121+k) #[tbV b ps ns ks pw nw cw pb nb cb] h fun v h'=>h'=h∧v= .int .i64 (chkT b k):=by
 rcases (by omega:k=0∨k=1) with rfl|rfl
 ·exact f121_c m h rds hcs hns hsl
 ·exact f122_c m h rds hcs hns hsl rdw hnw rdb hnb hsm
theorem f65_c (m:Md Tryz.prog B) (h:Hp) (rds:RdS B h 1 (.slice ps ns ks) ns (jaC b.sts)) (hcs:ns≤ks) (hns:ns≤1000) (hsl: ∀s∈b.sts,s.length≤100000) (rdw:RdLn B h (.slice pw nw cw) nw b.waters) (hnw:nw≤1000) (rdb:RdLn B h (.slice pb nb cb) nb b.butts) (hnb:nb≤1000) (hsm:TbSm b):FnC m 65 #[tbV b ps ns ks pw nw cw pb nb cb] h fun v h'=>h'=h∧v= .int .i64 (tbS b):=by
 refine jaf Tryz.func65 rfl rfl (l:=(tbV b ps ns ks pw nw cw pb nb cb)::jpn) rfl ?_
 intro cf cs K hK
 refine Z2 ?_
 refine jaX rfl zq (fun q1=>jau (jae ?_));refine Z5 ?_;refine D37 ?_
 refine jax rfl zq (fun q3=>jau (jae ?_));refine D6 ?_;refine Z5 ?_;refine jiB rfl zq ?_;refine Zs ?_;refine jiB rfl zq ?_
 refine jdk kdq rfl zq zA zA rfl (fun q13=>jau (jae ?_));refine Z4 ?_
 refine jai (fun nn l h'=> ∃(k:Nat),nn=2-k∧(k≤2)∧(∀i,i<k→chkT b i=0)∧(∃U:Nat→Value,l=((tbV b ps ns ks pw nw cw pb nb cb)::vw12 U 1 ((.slice (some ⟨q13,0,none⟩) 2 2)::(.int .i64 (2:Int))::(.int .i64 (k:Int))::vw9 U 16 [])))∧h++[⟨true,q1,.cells (tbL b ps ns ks pw nw cw pb nb cb).toArray 25 (0,0)⟩,⟨true,q3,.cells (tbL b ps ns ks pw nw cw pb nb cb).toArray 127 (0,0)⟩,⟨true,q13,.cells [.func (.func 121) #[tbV b ps ns ks pw nw cw pb nb cb] #[],.func (.func 122) #[tbV b ps ns ks pw nw cw pb nb cb] #[]].toArray 158 (0,0)⟩]=h') _ ⟨0,rfl,by omega,fun i hi=>by omega,exU rfl,rfl⟩ ?_;rintro nn l h' ⟨k,rfl,hk3,he,⟨U,rfl⟩,rfl⟩ hnext;refine Z2 ?_
 refine jao rfl zq (fun hc=>?_) (fun hc=>?_)
 ·refine Z8 ?_;refine D12 ?_;refine jaW (v:= .func (.func (121+k)) #[tbV b ps ns ks pw nw cw pb nb cb] #[]) rfl zq (Rd.held (Has.mem (b:=q13)) (by simpa using chkT_get _ k zO)) ?_;refine Z5 ?_;refine jgt (Post:=fun v=>v=_) rfl zq (juz k zO) (fun H' hH=>chkT_c m H' (rds.keeps (sq hH)) hcs hns hsl (rdw.keeps (sq hH)) hnw (rdb.keeps (sq hH)) hnb hsm k zO) ?_
  rintro v rfl;refine Z6 ?_
  refine jbK rfl zq (fun hc=>?_) (fun hc=>?_)
  ·refine Z8 ?_;refine jad (h) rfl Tryz.func65 rfl jab ?_;refine Zs ?_
   refine ⟨rfl,congrArg (Value.int .i64) ?_⟩
   first
    |exact (joe zO he zD).symm
    |exact (jli (fun i hi=>he i zO)).symm
  ·refine Z8 ?_
   exact m.weak jab (hnext _ _ _ zO ⟨k+1,rfl,by omega,fun i hi=>by
    by_cases e:i<k
    ·exact he i e
    ·obtain rfl:i=k:=by omega
     first|assumption|omega,exU rfl,rfl⟩)
 ·refine Z9 ?_;refine jad (h) rfl Tryz.func65 rfl jab ?_;refine Zs ?_
  refine ⟨rfl,congrArg (Value.int .i64) ?_⟩
  first
   |exact (joe zO he zD).symm
   |exact (jli (fun i hi=>he i zO)).symm
end
section
theorem jnS (h:i<s.length):s[((i:Nat):Int).toNat]?=some (s.getD i 0):=by
 rw [Int.toNat_natCast,List.getElem?_eq_getElem h,List.getD_eq_getElem?_getD,List.getElem?_eq_getElem h];rfl
theorem jmf (h:0<s.length):s[(0:Int).toNat]?=some (s.getD 0 0):=jnS (i:=0) h
def jhy (s:Str):Nat:=s.countP fun c=>decide (c.toNat=63)
theorem jj8 {α:Type} [Inhabited α] (p:α→Bool) (xs:List α) (k:Nat) (h:k<xs.length):(xs.take (k+1)).countP p=(xs.take k).countP p+if p (xs.getD k default) then 1 else 0:=by
 rw [jcs xs k h,List.countP_append];simp
def smuK (s:Str) (i:Nat):Nat:=jhy (s.take i)
theorem smuK_le (s:Str) (i:Nat):smuK s i≤i:=Nat.le_trans List.countP_le_length zN
theorem smuK_yes (h:i<s.length) (e:((s.getD i 0).toNat:Int)=63):(smuK s i:Int)+1=(smuK s (i+1):Int):=by
 have:=jj8 (fun c:UInt8=>decide (c.toNat=63)) s i h
 rw [show s.getD i default=s.getD i 0 from rfl,if_pos (decide_eq_true zO)] at this
 show ((_:Nat):Int)+1=((_:Nat):Int)
 unfold smuK jhy
 omega
theorem smuK_no (h:i<s.length) (e: ¬((s.getD i 0).toNat:Int)=63):(smuK s i:Int)=(smuK s (i+1):Int):=by
 have:=jj8 (fun c:UInt8=>decide (c.toNat=63)) s i h
 rw [show s.getD i default=s.getD i 0 from rfl,if_neg (fun e2=>e (by have:=of_decide_eq_true e2;omega))] at this
 unfold smuK jhy
 omega
theorem smuK_all (h:i=s.length):smuK s i=jhy s:=by rw [smuK,List.take_of_length_le zO]
theorem f172_c (m:Md Tryz.prog B) (h:Hp) (c:UInt8):FnC m 172 #[.int .u8 (c.toNat:Int)] h fun v h'=>h'=h∧IsB (48≤c.toNat∧c.toNat≤57) v:=by
 refine jaf Tryz.func172 rfl rfl (l:=(.int .u8 (c.toNat:Int))::uu8) rfl ?_
 intro cf cs K hK
 refine Z7 ?_
 refine jcH rfl zq (fun hc=>?_) (fun hc=>?_)
 ·refine Z2 ?_
  refine jcn rfl rfl (fun hc=>?_) (fun hc=>?_);all_goals
   refine Z4 ?_;refine jad (h) rfl Tryz.func172 rfl jab ?_;refine Zs ?_
   exact E0
 ·refine Z7 ?_;refine jad (h) rfl Tryz.func172 rfl jab ?_;refine Zs ?_
  exact E0
theorem f123_c (m:Md Tryz.prog B) (h:Hp) (s:Str) (hl:s.length≤100000):FnC m 123 #[str s] h fun v h'=>h'=h∧IsB (jim s) v:=by
 refine jaf Tryz.func123 rfl rfl (l:=(str s)::uu39) rfl ?_
 intro cf cs K hK
 refine Z6 ?_;refine rr13 ?_;refine Z2 ?_
 refine jao rfl zq (fun hc=>?_) (fun hc=>?_)
 ·refine Z17 ?_;refine D91 ?_;refine Zs ?_
  first
   |exact E27
   |exact E28
   |exact E29
   |exact E30
 ·refine Z2 ?_;refine jnC rfl rfl jgR ?_
  refine jaY rfl rfl (fun hc=>?_) (fun hc=>?_)
  ·refine Z13 ?_;refine D91 ?_;refine Zs ?_
   first
    |exact E27
    |exact E28
    |exact E29
    |exact E30
  ·refine Z3 ?_;refine jiq (c:=s.getD 0 0) rfl rfl jgR zO (jmf zO) ?_;refine jag (Post:=fun v=>IsB _ v) rfl rfl zK (fun H' hH=>f172_c m H' _) ?_
   rintro v (⟨hc,rfl⟩|⟨hc,rfl⟩)
   ·refine Z9 ?_;refine D91 ?_;refine Zs ?_
    first
     |exact E27
     |exact E28
     |exact E29
     |exact E30
   ·refine Z11 ?_
    refine jai (fun nn l h'=> ∃(i:Nat),nn=s.length-i∧(i≤s.length)∧(∀j,j<i→jka j (s.getD j 0))∧(∃U:Nat→Value,l=((str s)::(U 1)::(U 2)::(.int .i64 (i:Int))::vw36 U 4 []))∧h=h') _ ⟨0,rfl,by omega,fun j hj=>absurd hj zO,exU rfl,rfl⟩ ?_;rintro nn l h' ⟨i,rfl,hi,hch,⟨U,rfl⟩,rfl⟩ hnext;refine Z6 ?_
    refine jao rfl zq (fun hc=>?_) (fun hc=>?_)
    ·refine Z6 ?_;refine rr17 ?_;refine Z2 ?_;refine jiq (c:=s.getD i 0) rfl zq jgR zO (jnS zO) ?_
     obtain ⟨ch,hcc⟩: ∃ch,ch=s.getD i 0:=⟨_,rfl⟩
     rw [←hcc];have hcb:=ch.toNat_lt
     refine D44 ?_
     rintro v (⟨hc,rfl⟩|⟨hc,rfl⟩)
     ·refine Z23 ?_
      exact m.weak jab (hnext _ _ _ zO ⟨i+1,rfl,by omega,by
       intro j hj
       by_cases e:j<i
       ·exact hch j e
       ·obtain rfl:j=i:=by omega
        rw [←hcc];have hct:=congrArg UInt8.toNat hcc
        rcases Nat.eq_zero_or_pos j with rfl|hp<;>unfold jka<;>omega,exU rfl,rfl⟩)
     ·refine Z5 ?_;refine D109 ?_
      rw [←hcc];refine jao rfl rfl (fun hc=>?_) (fun hc=>?_)
      ·refine Z14 ?_;refine D91 ?_;refine Zs ?_
       first
        |exact E27
        |exact E28
        |exact E29
        |exact E30
      ·refine Z3 ?_;refine D109 ?_
       rw [←hcc];refine jaY rfl rfl (fun hc=>?_) (fun hc=>?_)
       ·refine Z9 ?_;refine D91 ?_;refine Zs ?_
        first
         |exact E27
         |exact E28
         |exact E29
         |exact E30
       ·refine Z11 ?_
        exact m.weak jab (hnext _ _ _ zO ⟨i+1,rfl,by omega,by
         intro j hj
         by_cases e:j<i
         ·exact hch j e
         ·obtain rfl:j=i:=by omega
          rw [←hcc];have hct:=congrArg UInt8.toNat hcc
          rcases Nat.eq_zero_or_pos j with rfl|hp<;>unfold jka<;>omega,exU rfl,rfl⟩)
    ·refine Z8 ?_;refine D91 ?_;refine Zs ?_
     first
      |exact E27
      |exact E28
      |exact E29
      |exact E30
theorem f126_c (m:Md Tryz.prog B) (h:Hp) (s:Str) (hl:s.length≤100000):FnC m 126 #[str s] h fun v h'=>h'=h∧v= .int .i64 (jhy s:Int):=by
 refine jaf Tryz.func126 rfl rfl (l:=(str s)::uu17) rfl ?_
 intro cf cs K hK
 refine Z14 ?_
 refine jai (fun nn l h'=> ∃(i:Nat),nn=s.length-i∧(i≤s.length)∧(∃U:Nat→Value,l=((str s)::(U 1)::(U 2)::(.int .i64 (smuK s i:Int))::(.int .i64 (i:Int))::vw13 U 5 []))∧h=h') _ ⟨0,rfl,by omega,exU rfl,rfl⟩ ?_;rintro nn l h' ⟨i,rfl,hi,⟨U,rfl⟩,rfl⟩ hnext;have hcl:=smuK_le s i
 refine Z6 ?_
 refine jao rfl zq (fun hc=>?_) (fun hc=>?_)
 ·refine Z9 ?_;refine jiq (c:=s.getD i 0) rfl zq jgR zO (jnS zO) ?_
  refine jaS rfl zq (fun hc=>?_) (fun hc=>?_);refine Z7 ?_
  rotate_left
  refine Z3 ?_
  all_goals
   refine Z6 ?_
   first
    |rw [smuK_yes zO zD]
    |rw [smuK_no zO zD]
   exact m.weak jab (hnext _ _ _ zO ⟨i+1,rfl,by omega,exU rfl,rfl⟩)
 ·refine Z9 ?_;refine jad (h) rfl Tryz.func126 rfl jab ?_;refine Zs ?_
  exact ⟨rfl,by rw [smuK_all zO]⟩
theorem f124_c (m:Md Tryz.prog B) (h:Hp) {c:Nat} (rd:RdS B h 1 (.slice p n c) n (jaC ss)) (hn:n≤100000) (s:Str):FnC m 124 #[.slice p n c,str s] h fun v h'=>h'=h∧ ∃x:Int,v= .int .i64 x∧jfx x∧(0≤x↔s∈ss):=by
 have hll0:=rd.elen zA
 refine jaf Tryz.func124 rfl rfl (l:=(.slice p n c)::(str s)::uu17) rfl ?_
 intro cf cs K hK
 refine Z10 ?_
 refine jai (fun nn l h'=> ∃(i:Nat),nn=n-i∧(i≤n)∧(∀j,j<i→ss.getD j []≠s)∧(∃U:Nat→Value,l=((.slice p n c)::(str s)::(U 2)::(U 3)::(U 4)::(.int .i64 (i:Int))::vw13 U 6 []))∧h=h') _ ⟨0,rfl,by omega,fun j hj=>absurd hj zO,exU rfl,rfl⟩ ?_;rintro nn l h' ⟨i,rfl,hi,hno,⟨U,rfl⟩,rfl⟩ hnext;refine Z6 ?_
 refine jao rfl zq (fun hc=>?_) (fun hc=>?_)
 ·refine Z9 ?_
  obtain ⟨rd_b,rd_o,rfl⟩:=rd.ptr zO
  refine D0 ?_;refine jaW rfl zq (rd.sat i zO zO) ?_;refine Zs ?_
  by_cases hse:ss.getD i []=s
  ·refine jhS rfl zq hse ?_;refine Z8 ?_;refine jad (h) rfl Tryz.func124 rfl jab ?_;refine Zs ?_;have hll:=rd.elen zA
   exact E21
  ·refine jhT rfl zq hse ?_;refine Z9 ?_;exact m.weak jab (hnext _ _ _ zO ⟨i+1,rfl,by omega,by
    intro j hj
    by_cases e:j<i
    ·exact hno j e
    ·obtain rfl:j=i:=by omega
     exact hse,exU rfl,rfl⟩)
 ·refine Z8 ?_;refine jad (h) rfl Tryz.func124 rfl jab ?_;refine Zs ?_
  have hll:=rd.elen zA
  refine ⟨rfl,_,rfl,by unfold jfx;omega,⟨fun e=>by omega,fun e=>?_⟩⟩
  obtain ⟨j,hj,e2⟩:=List.mem_iff_getElem.1 e
  refine absurd ?_ (hno j zO)
  rw [List.getD_eq_getElem?_getD,List.getElem?_eq_getElem hj];exact e2
end
section
def jcE (s:Str) (c:UInt8):Nat→List Str×Nat
 |0=>([],0)
 |i+1=>if i=s.length∨s.getD i 0=c then ((jcE s c i).1++[(s.take i).drop (jcE s c i).2],i+1) else jcE s c i
def jfw (s:Str) (c:UInt8):List Str:=(jcE s c (s.length+1)).1
theorem jmn {c:UInt8} (h:i=s.length∨s.getD i 0=c):jcE s c (i+1)=((jcE s c i).1++[(s.take i).drop (jcE s c i).2],i+1):=by rw [jcE,if_pos h]
theorem cut_no {c:UInt8} (h:i≠s.length) (h2:s.getD i 0≠c):jcE s c (i+1)=jcE s c i:=by rw [jcE,if_neg (by rintro (e|e);exact h e;exact h2 e)]
theorem jqq (s:Str) (c:UInt8): ∀i,(jcE s c i).2≤i∧(jcE s c i).1.length≤i
 |0=>by simp [jcE]
 |i+1=>by
  have:=jqq s c i
  unfold jcE
  split
  ·simp
   omega
  ·omega
theorem byte_eq {c:UInt8} (h:(a.toNat:Int)=c.toNat):a=c:=UInt8.toNat_inj.1 zO
theorem byte_ne {c:UInt8} (h: ¬(a.toNat:Int)=c.toNat):a≠c:=fun e=>h (by rw [e])
theorem jlf (ss:List Str) (s:Str):jaC (ss++[s])=jaC ss++[str s]:=by rw [jbT,jbT,List.map_append];rfl
theorem f63_c (m:Md Tryz.prog B) (h:Hp) (s:Str) (hl:s.length≤100000) (c:UInt8):FnC m 63 #[str s,.int .u8 (c.toNat:Int)] h fun w h'=> ∃new,h'=h++new∧OwnS 9 1 w (jfw s c).length (jaC (jfw s c)) new:=by
 refine jaf Tryz.func63 rfl rfl (l:=(str s)::(.int .u8 (c.toNat:Int))::uu33) rfl ?_
 intro cf cs K hK
 refine Z18 ?_
 refine jai (fun nn l h'=> ∃(i:Nat) (wp:Option Addr) (wc:Nat) (M:Hp) (f:Nat),nn=s.length+1-i∧(i≤s.length+1)∧(f=(jcE s c i).2)∧(OwnS 9 1 (.slice wp (jcE s c i).1.length wc) (jcE s c i).1.length (jaC (jcE s c i).1) M)∧(∃U:Nat→Value,l=((str s)::(.int .u8 (c.toNat:Int))::(U 2)::(U 3)::(U 4)::(.slice wp (jcE s c i).1.length wc)::(.int .i64 (f:Int))::(.int .i64 (i:Int))::vw27 U 8 []))∧h++M=h') _ ⟨0,none,0,[],0,rfl,by omega,rfl,OwnS.nil,exU rfl,zS⟩ ?_;rintro nn l h' ⟨i,wp,wc,M,f,rfl,hi,hf,how,⟨U,rfl⟩,rfl⟩ hnext;obtain ⟨hfl,hpl⟩:=jqq s c i
 refine Z6 ?_
 refine jcn rfl zq (fun hc=>?_) (fun hc=>?_)
 ·refine Z10 ?_
  refine jaS rfl zq (fun hc=>?_) (fun hc=>?_)
  ·refine Z15 ?_;refine jiQ (j:=f) (k:=i) rfl zq jgR zO zO ?_
   refine jdk kdq rfl zq zA zA rfl (fun q30=>jau (jae ?_));refine jbL rfl zq rfl how kdq zO zO (fun w9 n9 o9=>jae ?_);obtain ⟨p9,c9,rfl,hc9,r9⟩:=jav (B:=B) o9
   refine Z13 ?_
   have hks:=jmn (s:=s) (c:=c) (i:=i) (.inl zO)
   have hkl:(jcE s c (i+1)).1.length=(jcE s c i).1.length+1:=by rw [hks];simp
   have hk2:(jcE s c (i+1)).2=i+1:=by rw [hks]
   rw [←hkl];exact E31
  ·refine Z3 ?_;refine D109 ?_;refine Zs ?_
   refine jaS rfl rfl (fun hc=>?_) (fun hc=>?_);refine Z9 ?_;refine jiQ (j:=f) (k:=i) rfl zq jgR zO zO ?_
   refine jdk kdq rfl zq zA zA rfl (fun q30=>jau (jae ?_));refine jbL rfl zq rfl how kdq zO zO (fun w9 n9 o9=>jae ?_);obtain ⟨p9,c9,rfl,hc9,r9⟩:=jav (B:=B) o9
   refine Z7 ?_
   rotate_left
   refine Z4 ?_
   all_goals
    refine Z6 ?_
   ·have hks:jcE s c (i+1)=jcE s c i:=cut_no zO (byte_ne zD)
    rw [←hks];exact m.weak jab (hnext _ _ _ zO ⟨i+1,wp,wc,M,f,rfl,by omega,by rw [hks];exact hf,by rw [hks];exact how,exU rfl,rfl⟩)
   ·have hks:=jmn (s:=s) (c:=c) (i:=i) (.inr (byte_eq zD))
    have hkl:(jcE s c (i+1)).1.length=(jcE s c i).1.length+1:=by rw [hks];simp
    have hk2:(jcE s c (i+1)).2=i+1:=by rw [hks]
    rw [←hkl];exact E31
 ·refine Z9 ?_;refine jad (h++M) rfl Tryz.func63 rfl jab ?_;refine Zs ?_
  obtain rfl:i=s.length+1:=by omega
  exact ⟨M,rfl,how⟩
end
section
variable [LaidO B]
def jgh (c:UInt8):Prop:=48≤c.toNat∧c.toNat≤57
instance (c:UInt8):Decidable (jgh c):=by unfold jgh;infer_instance
def negS (s:Str):Prop:=0<s.length∧s.getD 0 0=45
instance (s:Str):Decidable (negS s):=by unfold negS;infer_instance
def ja4 (s:Str):Str:=if negS s then s.drop 1 else s
def joo (s:Str):Int:=if negS s then-1 else 1
def jkp (t:Str) (i:Nat):Nat:=(t.take i).foldl (fun n c=>10*n+(c.toNat-48)) 0
def jfL (s:Str):Prop:=(1≤(ja4 s).length∧(ja4 s).length≤9)∧ ¬((ja4 s).getD 0 0=48∧s≠[48])∧ ∀i,i<(ja4 s).length→jgh ((ja4 s).getD i 0)
instance (s:Str):Decidable (jfL s):=by unfold jfL;infer_instance
def jrZ (s:Str):Int:=if jfL s then joo s*(jkp (ja4 s) (ja4 s).length:Int) else 0
theorem jpI (s:Str):(ja4 s).length≤s.length:=by
 unfold ja4
 split
 ·simp
 ·exact Nat.le_refl _
theorem jfz (h:i<t.length):jkp t (i+1)=10*jkp t i+((t.getD i 0).toNat-48):=by
 rw [jkp,jcs t i h,List.foldl_append];rfl
theorem valK_lt (i:Nat) (hi:i≤t.length) (hd: ∀j,j<i→jgh (t.getD j 0)):jkp t i<10^i:=by
 induction i with
 |zero=>simp [jkp]
 |succ i ih=>
  have h1:=ih zO fun j hj=>hd j zO
  have h2:=hd i zO
  unfold jgh at h2
  rw [jfz zO,Nat.pow_succ];omega
theorem jpm (hi:i≤t.length) (h9:t.length≤9) (hd: ∀j,j<i→jgh (t.getD j 0)):jkp t i<1000000000:=
 Nat.lt_of_lt_of_le (valK_lt i hi hd) (Nat.le_trans (Nat.pow_le_pow_right zA (show i≤9 by omega)) zA)
theorem sgn_or (s:Str):joo s= -1∨joo s=1:=by
 unfold joo
 split
 ·exact .inl rfl
 ·exact .inr rfl
theorem jbt (hn:n<256):(a.toNat:Int)=n↔a=UInt8.ofNat n:=by
 constructor
 ·intro h
  refine UInt8.toNat_inj.1 ?_
  rw [UInt8.toNat_ofNat'];omega
 ·rintro rfl;rw [UInt8.toNat_ofNat'];omega
abbrev numV (s:Str):Value:= .tuple [.int .i64 (jrZ s),.bool (decide (jfL s))].toArray
theorem jbs (h: ¬jfL s): .tuple [.int .i64 0,.bool false].toArray=numV s:=by rw [numV,jrZ,if_neg h,decide_eq_false h]
theorem jdb (h:jfL s): .tuple [.int .i64 (joo s*(jkp (ja4 s) (ja4 s).length:Int)),.bool true].toArray=numV s:=by rw [numV,jrZ,if_pos h,decide_eq_true h]
theorem f166_c (m:Md Tryz.prog B) (h:Hp) (s:Str) (hl:s.length≤100000):FnC m 166 #[str s] h fun v h'=>h'=h∧v=numV s:=by
 obtain ⟨s',hs'⟩: ∃s',s'=s:=⟨_,rfl⟩
 obtain ⟨sg,hsg⟩: ∃x:Int,x=1:=⟨_,rfl⟩
 have hls:s'.length=s.length:=by rw [hs']
 refine jaf Tryz.func166 rfl rfl (l:=(str s)::uu57) rfl ?_
 intro cf cs K hK
 refine Z8 ?_;refine k_asE (show str s=str s' by rw [hs']) rfl zq ?_;refine k_asE (show Value.int .i64 1= .int .i64 sg by rw [hsg]) rfl zq ?_;refine Z6 ?_
 refine jaY rfl zq (fun hc=>?_) (fun hc=>?_)
 ·refine Z2 ?_;refine jiq (c:=s'.getD 0 0) rfl rfl jgR zO (jmf zO) ?_
  refine jaS rfl rfl (fun hc=>?_) (fun hc=>?_);refine Z5 ?_;refine k_ssfrom (j:=1) rfl zq jgR zO ?_
  have hng:negS s:=by rw [←hs'];exact ⟨by omega,(jbt (n:=45) zA).1 zD⟩
  refine k_asE (show str (s'.drop 1)=str (ja4 s) by rw [ja4,if_pos hng,hs']) rfl zq ?_;refine k_asE (show Value.int .i64 (-1)= .int .i64 (joo s) by rw [joo,if_pos hng]) rfl zq ?_;refine Zs ?_;rotate_left
  refine Z4 ?_
  all_goals
   refine Z2 ?_
   have hrl:=jpI s
   first
    |(have hng: ¬negS s:=by
       rw [←hs'];rintro ⟨e1,e2⟩;first|omega|exact absurd ((jbt (n:=45) zA).2 e2) zD
      rw [show s'=ja4 s by rw [ja4,if_neg hng,hs'],show sg=joo s by rw [joo,if_neg hng,hsg]])
    |skip
   refine rr17 ?_;refine Z2 ?_;refine jao rfl zq (fun hc=>?_) (fun hc=>?_)
   ·refine Z22 ?_;refine jqA ?_
    refine ⟨rfl,?_⟩
    first
     |exact jbs fun e=>by have:=e.1;omega
     |exact E32
     |exact E33
     |(obtain rfl:i=(ja4 s).length:=by omega
       refine jdb ⟨by omega,fun e=>?_,hdg⟩
       first
        |exact e.2 hz
        |exact E34)
   ·refine Z2 ?_;refine jnC rfl rfl jgR ?_
    refine jaY rfl rfl (fun hc=>?_) (fun hc=>?_)
    ·refine Z18 ?_;refine jqA ?_
     refine ⟨rfl,?_⟩
     first
      |exact jbs fun e=>by have:=e.1;omega
      |exact E32
      |exact E33
      |(obtain rfl:i=(ja4 s).length:=by omega
        refine jdb ⟨by omega,fun e=>?_,hdg⟩
        first
         |exact e.2 hz
         |exact E34)
    ·refine Z3 ?_;refine jiq (c:=(ja4 s).getD 0 0) rfl rfl jgR zO (jmf zO) ?_
     refine jaS rfl rfl (fun hc=>?_) (fun hc=>?_)
     ·refine Z2 ?_
      by_cases hz:s=[48]
      ·refine jdL rfl rfl hz ?_;refine Z15 ?_;refine jai (fun nn l h'=> ∃(i:Nat),nn=(ja4 s).length-i∧(i≤(ja4 s).length)∧(∀j,j<i→jgh ((ja4 s).getD j 0))∧(∃U:Nat→Value,l=((str s)::(U 1)::(U 2)::(U 3)::(str (ja4 s))::(.int .i64 (joo s))::(.int .i64 (jkp (ja4 s) i:Int))::(.int .i64 (i:Int))::vw50 U 8 []))∧h=h') _ ⟨0,rfl,by omega,fun j hj=>absurd hj zO,exU rfl,rfl⟩ ?_;rintro nn l h' ⟨i,rfl,hi,hdg,⟨U,rfl⟩,rfl⟩ hnext;have hvb:=jpm hi zO hdg
       have hcb:=((ja4 s).getD i 0).toNat_lt
       refine Z6 ?_
       refine jao rfl zq (fun hc=>?_) (fun hc=>?_);refine Z6 ?_
       rotate_left
       refine Z3 ?_
       all_goals
        refine Z4 ?_
       ·refine D67 ?_;refine Z4 ?_;refine jqA ?_
        refine ⟨rfl,?_⟩
        first
         |exact jbs fun e=>by have:=e.1;omega
         |exact E32
         |exact E33
         |(obtain rfl:i=(ja4 s).length:=by omega
           refine jdb ⟨by omega,fun e=>?_,hdg⟩
           first
            |exact e.2 hz
            |exact E34)
       ·refine D31 ?_;refine D44 ?_
        rintro v (⟨hc,rfl⟩|⟨hc,rfl⟩)
        ·refine Z7 ?_;refine D23 ?_;refine Z2 ?_;refine D31 ?_;refine D47 ?_;refine Z10 ?_
         have hdi:jgh ((ja4 s).getD i 0):=by assumption
         rw [show 10*(jkp (ja4 s) i:Int)+(((ja4 s).getD i 0).toNat:Int)-48=(jkp (ja4 s) (i+1):Int) by rw [jfz zO];unfold jgh at hdi;omega];exact m.weak jab (hnext _ _ _ zO ⟨i+1,rfl,by omega,fun j hj=>by
          by_cases e:j<i
          ·exact hdg j e
          ·obtain rfl:j=i:=by omega
           assumption,exU rfl,rfl⟩)
        ·refine Z10 ?_;refine jqA ?_
         refine ⟨rfl,?_⟩
         first
          |exact jbs fun e=>by have:=e.1;omega
          |exact E32
          |exact E33
          |(obtain rfl:i=(ja4 s).length:=by omega
            refine jdb ⟨by omega,fun e=>?_,hdg⟩
            first
             |exact e.2 hz
             |exact E34)
      ·refine jhR rfl rfl hz ?_;refine Z10 ?_;refine jqA ?_;refine ⟨rfl,?_⟩
       first
        |exact jbs fun e=>by have:=e.1;omega
        |exact E32
        |exact E33
        |(obtain rfl:i=(ja4 s).length:=by omega
          refine jdb ⟨by omega,fun e=>?_,hdg⟩
          first
           |exact e.2 hz
           |exact E34)
     ·refine Z18 ?_
      refine jai (fun nn l h'=> ∃(i:Nat),nn=(ja4 s).length-i∧(i≤(ja4 s).length)∧(∀j,j<i→jgh ((ja4 s).getD j 0))∧(∃U:Nat→Value,l=((str s)::(U 1)::(U 2)::(U 3)::(str (ja4 s))::(.int .i64 (joo s))::(.int .i64 (jkp (ja4 s) i:Int))::(.int .i64 (i:Int))::vw50 U 8 []))∧h=h') _ ⟨0,rfl,by omega,fun j hj=>absurd hj zO,exU rfl,rfl⟩ ?_;rintro nn l h' ⟨i,rfl,hi,hdg,⟨U,rfl⟩,rfl⟩ hnext;have hvb:=jpm hi zO hdg
      have hcb:=((ja4 s).getD i 0).toNat_lt
      refine Z6 ?_
      refine jao rfl zq (fun hc=>?_) (fun hc=>?_);refine Z6 ?_
      rotate_left
      refine Z3 ?_
      all_goals
       refine Z4 ?_
      ·refine D67 ?_;refine Z4 ?_;refine jqA ?_
       refine ⟨rfl,?_⟩
       first
        |exact jbs fun e=>by have:=e.1;omega
        |exact E32
        |exact E33
        |(obtain rfl:i=(ja4 s).length:=by omega
          refine jdb ⟨by omega,fun e=>?_,hdg⟩
          first
           |exact e.2 hz
           |exact E34)
      ·refine D31 ?_;refine D44 ?_
       rintro v (⟨hc,rfl⟩|⟨hc,rfl⟩)
       ·refine Z7 ?_;refine D23 ?_;refine Z2 ?_;refine D31 ?_;refine D47 ?_;refine Z10 ?_
        have hdi:jgh ((ja4 s).getD i 0):=by assumption
        rw [show 10*(jkp (ja4 s) i:Int)+(((ja4 s).getD i 0).toNat:Int)-48=(jkp (ja4 s) (i+1):Int) by rw [jfz zO];unfold jgh at hdi;omega];exact m.weak jab (hnext _ _ _ zO ⟨i+1,rfl,by omega,fun j hj=>by
         by_cases e:j<i
         ·exact hdg j e
         ·obtain rfl:j=i:=by omega
          assumption,exU rfl,rfl⟩)
       ·refine Z10 ?_;refine jqA ?_
        refine ⟨rfl,?_⟩
        first
         |exact jbs fun e=>by have:=e.1;omega
         |exact E32
         |exact E33
         |(obtain rfl:i=(ja4 s).length:=by omega
           refine jdb ⟨by omega,fun e=>?_,hdg⟩
           first
            |exact e.2 hz
            |exact E34)
 ·refine Z10 ?_
  have hrl:=jpI s
  first
   |(have hng: ¬negS s:=by
      rw [←hs'];rintro ⟨e1,e2⟩;first|omega|exact absurd ((jbt (n:=45) zA).2 e2) zD
     rw [show s'=ja4 s by rw [ja4,if_neg hng,hs'],show sg=joo s by rw [joo,if_neg hng,hsg]])
   |skip
  refine rr17 ?_;refine Z2 ?_;refine jao rfl zq (fun hc=>?_) (fun hc=>?_)
  ·refine Z22 ?_;refine jqA ?_
   refine ⟨rfl,?_⟩
   first
    |exact jbs fun e=>by have:=e.1;omega
    |exact E32
    |exact E33
    |(obtain rfl:i=(ja4 s).length:=by omega
      refine jdb ⟨by omega,fun e=>?_,hdg⟩
      first
       |exact e.2 hz
       |exact E34)
  ·refine Z2 ?_;refine jnC rfl rfl jgR ?_
   refine jaY rfl rfl (fun hc=>?_) (fun hc=>?_)
   ·refine Z18 ?_;refine jqA ?_
    refine ⟨rfl,?_⟩
    first
     |exact jbs fun e=>by have:=e.1;omega
     |exact E32
     |exact E33
     |(obtain rfl:i=(ja4 s).length:=by omega
       refine jdb ⟨by omega,fun e=>?_,hdg⟩
       first
        |exact e.2 hz
        |exact E34)
   ·refine Z3 ?_;refine jiq (c:=(ja4 s).getD 0 0) rfl rfl jgR zO (jmf zO) ?_
    refine jaS rfl rfl (fun hc=>?_) (fun hc=>?_)
    ·refine Z2 ?_
     by_cases hz:s=[48]
     ·refine jdL rfl rfl hz ?_;refine Z15 ?_;refine jai (fun nn l h'=> ∃(i:Nat),nn=(ja4 s).length-i∧(i≤(ja4 s).length)∧(∀j,j<i→jgh ((ja4 s).getD j 0))∧(∃U:Nat→Value,l=((str s)::(U 1)::(U 2)::(U 3)::(str (ja4 s))::(.int .i64 (joo s))::(.int .i64 (jkp (ja4 s) i:Int))::(.int .i64 (i:Int))::vw50 U 8 []))∧h=h') _ ⟨0,rfl,by omega,fun j hj=>absurd hj zO,exU rfl,rfl⟩ ?_;rintro nn l h' ⟨i,rfl,hi,hdg,⟨U,rfl⟩,rfl⟩ hnext;have hvb:=jpm hi zO hdg
      have hcb:=((ja4 s).getD i 0).toNat_lt
      refine Z6 ?_
      refine jao rfl zq (fun hc=>?_) (fun hc=>?_);refine Z6 ?_
      rotate_left
      refine Z3 ?_
      all_goals
       refine Z4 ?_
      ·refine D67 ?_;refine Z4 ?_;refine jqA ?_
       refine ⟨rfl,?_⟩
       first
        |exact jbs fun e=>by have:=e.1;omega
        |exact E32
        |exact E33
        |(obtain rfl:i=(ja4 s).length:=by omega
          refine jdb ⟨by omega,fun e=>?_,hdg⟩
          first
           |exact e.2 hz
           |exact E34)
      ·refine D31 ?_;refine D44 ?_
       rintro v (⟨hc,rfl⟩|⟨hc,rfl⟩)
       ·refine Z7 ?_;refine D23 ?_;refine Z2 ?_;refine D31 ?_;refine D47 ?_;refine Z10 ?_
        have hdi:jgh ((ja4 s).getD i 0):=by assumption
        rw [show 10*(jkp (ja4 s) i:Int)+(((ja4 s).getD i 0).toNat:Int)-48=(jkp (ja4 s) (i+1):Int) by rw [jfz zO];unfold jgh at hdi;omega];exact m.weak jab (hnext _ _ _ zO ⟨i+1,rfl,by omega,fun j hj=>by
         by_cases e:j<i
         ·exact hdg j e
         ·obtain rfl:j=i:=by omega
          assumption,exU rfl,rfl⟩)
       ·refine Z10 ?_;refine jqA ?_
        refine ⟨rfl,?_⟩
        first
         |exact jbs fun e=>by have:=e.1;omega
         |exact E32
         |exact E33
         |(obtain rfl:i=(ja4 s).length:=by omega
           refine jdb ⟨by omega,fun e=>?_,hdg⟩
           first
            |exact e.2 hz
            |exact E34)
     ·refine jhR rfl rfl hz ?_;refine Z10 ?_;refine jqA ?_;refine ⟨rfl,?_⟩
      first
       |exact jbs fun e=>by have:=e.1;omega
       |exact E32
       |exact E33
       |(obtain rfl:i=(ja4 s).length:=by omega
         refine jdb ⟨by omega,fun e=>?_,hdg⟩
         first
          |exact e.2 hz
          |exact E34)
    ·refine Z18 ?_
     refine jai (fun nn l h'=> ∃(i:Nat),nn=(ja4 s).length-i∧(i≤(ja4 s).length)∧(∀j,j<i→jgh ((ja4 s).getD j 0))∧(∃U:Nat→Value,l=((str s)::(U 1)::(U 2)::(U 3)::(str (ja4 s))::(.int .i64 (joo s))::(.int .i64 (jkp (ja4 s) i:Int))::(.int .i64 (i:Int))::vw50 U 8 []))∧h=h') _ ⟨0,rfl,by omega,fun j hj=>absurd hj zO,exU rfl,rfl⟩ ?_;rintro nn l h' ⟨i,rfl,hi,hdg,⟨U,rfl⟩,rfl⟩ hnext;have hvb:=jpm hi zO hdg
     have hcb:=((ja4 s).getD i 0).toNat_lt
     refine Z6 ?_
     refine jao rfl zq (fun hc=>?_) (fun hc=>?_);refine Z6 ?_
     rotate_left
     refine Z3 ?_
     all_goals
      refine Z4 ?_
     ·refine D67 ?_;refine Z4 ?_;refine jqA ?_
      refine ⟨rfl,?_⟩
      first
       |exact jbs fun e=>by have:=e.1;omega
       |exact E32
       |exact E33
       |(obtain rfl:i=(ja4 s).length:=by omega
         refine jdb ⟨by omega,fun e=>?_,hdg⟩
         first
          |exact e.2 hz
          |exact E34)
     ·refine D31 ?_;refine D44 ?_
      rintro v (⟨hc,rfl⟩|⟨hc,rfl⟩)
      ·refine Z7 ?_;refine D23 ?_;refine Z2 ?_;refine D31 ?_;refine D47 ?_;refine Z10 ?_
       have hdi:jgh ((ja4 s).getD i 0):=by assumption
       rw [show 10*(jkp (ja4 s) i:Int)+(((ja4 s).getD i 0).toNat:Int)-48=(jkp (ja4 s) (i+1):Int) by rw [jfz zO];unfold jgh at hdi;omega];exact m.weak jab (hnext _ _ _ zO ⟨i+1,rfl,by omega,fun j hj=>by
        by_cases e:j<i
        ·exact hdg j e
        ·obtain rfl:j=i:=by omega
         assumption,exU rfl,rfl⟩)
      ·refine Z10 ?_;refine jqA ?_
       refine ⟨rfl,?_⟩
       first
        |exact jbs fun e=>by have:=e.1;omega
        |exact E32
        |exact E33
        |(obtain rfl:i=(ja4 s).length:=by omega
          refine jdb ⟨by omega,fun e=>?_,hdg⟩
          first
           |exact e.2 hz
           |exact E34)
end
section
variable [LaidO B]
def jbZ (s:Str):Int:=if s=[63] then-1 else jrZ s
def jft (s:Str) (k:Nat):Prop:=s=[63]∨(jfL s∧(0≤jrZ s∧jrZ s≤mosts.getD k 0))
instance (s:Str) (k:Nat):Decidable (jft s k):=by unfold jft;infer_instance
def okR (s:Str):Prop:=(jfw s 45).length=3∧ ∀k,k<3→jft ((jfw s 45).getD k []) k
def jmG (s:Str) (k:Nat):List Int:=((jfw s 45).take k).map jbZ
theorem ix3 (hk:k<3):([Value.int .i64 9,.int .i64 11,.int .i64 7]:List Value)[0+((k:Nat):Int).toNat*1]?=some (.int .i64 (mosts.getD k 0)):=by
 rcases (by omega:k=0∨k=1∨k=2) with rfl|rfl|rfl<;>rfl
theorem jpa (s:Str) (c:UInt8): ∀i,∀p∈(jcE s c i).1,p.length≤s.length
 |0,p,h=>by simp [jcE] at h
 |i+1,p,h=>by
  unfold jcE at h
  split at h
  ·rcases List.mem_append.1 h with h|h
   ·exact jpa s c i p h
   ·obtain rfl:p=_:=by simpa using h
    simp
    omega
  ·exact jpa s c i p h
theorem f167_c (m:Md Tryz.prog B) (h:Hp) (k:Nat) (hk:k<3):FnC m 167 #[.int .i64 (k:Int)] h fun v h'=>h'=h∧v= .int .i64 (mosts.getD k 0):=by
 refine jaf Tryz.func167 rfl rfl (l:=(.int .i64 (k:Int))::uu6) rfl ?_
 intro cf cs K hK
 refine Z6 ?_
 refine jdk kdq rfl zq zA zA rfl (fun q3=>jau (jae ?_));refine Zs ?_;refine D12 ?_;refine jaW rfl zq (Rd.held (Has.mem (b:=q3)) (by simpa using ix3 hk)) ?_;refine Z3 ?_;refine jad (h) rfl Tryz.func167 rfl jab ?_;refine Zs ?_
 exact ⟨rfl,rfl⟩
theorem f116_c (m:Md Tryz.prog B) (h:Hp) (s:Str) (hl:s.length≤100000) (k:Nat) (hk:k<3):FnC m 116 #[str s,.int .i64 (k:Int)] h fun v h'=>h'=h∧ ∃b,IsB (jft s k) b∧v= .tuple [.int .i64 (jbZ s),b].toArray:=by
 refine jaf Tryz.func116 rfl rfl (l:=(str s)::(.int .i64 (k:Int))::uu21) rfl ?_
 intro cf cs K hK
 refine Z9 ?_
 by_cases hq:s=[63]
 ·refine jhS rfl zq hq ?_;refine Z8 ?_;refine jad (h) rfl Tryz.func116 rfl jab ?_;refine Zs ?_;first
   |exact E35
   |exact E36
   |exact E37
   |exact E38
 ·refine jhT rfl zq hq ?_;refine Z6 ?_;refine jag (Post:=fun v=>v=_) rfl zq zK (fun H' hH=>f166_c m H' s hl) ?_;rintro v rfl;refine Z8 ?_
  cases hno:decide (jfL s)
  all_goals
   refine Z4 ?_
  ·refine Z9 ?_;refine jad (h) rfl Tryz.func116 rfl jab ?_;refine Zs ?_
   first
    |exact E35
    |exact E36
    |exact E37
    |exact E38
  ·refine Z2 ?_;refine jag (Post:=fun v=>v=_) rfl rfl zK (fun H' hH=>f167_c m H' k hk) ?_
   rintro v rfl;refine Zs ?_;refine jag (Post:=fun v=>IsB _ v) rfl rfl zK (fun H' hH=>f57_c m H' _ _ _) ?_
   rintro v (⟨hc,rfl⟩|⟨hc,rfl⟩);all_goals
    refine Z6 ?_;refine jad (h) rfl Tryz.func116 rfl jab ?_;refine Zs ?_
    first
     |exact E35
     |exact E36
     |exact E37
     |exact E38
end
section
variable [LaidO B]
theorem jr8 (h:k<(jfw s 45).length):jmG s (k+1)=jmG s k++[jbZ ((jfw s 45).getD k [])]:=by
 rw [jmG,jcs _ k h,List.map_append];rfl
theorem valR_len (h:k≤(jfw s 45).length):(jmG s k).length=k:=by simp [jmG];omega
instance (s:Str):Decidable (okR s):=by unfold okR;infer_instance
def jg9 (s:Str):List Int:=if okR s then jmG s 3 else []
theorem f55_c (m:Md Tryz.prog B) (h:Hp) (s:Str) (hl:s.length≤100000):FnC m 55 #[str s] h fun v h'=> ∃new,h'=h++new∧ ∃w b,OwnS 3 1 w (jg9 s).length (jaI (jg9 s)) new∧IsB (okR s) b∧v= .tuple [w,b].toArray:=by
 refine jaf Tryz.func55 rfl rfl (l:=(str s)::uu33) rfl ?_
 intro cf cs K hK
 refine Z8 ?_;refine jaD rfl zq zK (Post:=fun w new=>OwnS 9 1 w (jfw s 45).length (jaC (jfw s 45)) new) (fun H' hH=>f63_c m H' s hl 45) ?_
 rintro w n4 o4;refine jaH (jae ?_);obtain ⟨p4,c4,rfl,hc4,r4⟩:=jav (B:=B) o4
 have hcl:=(jqq s 45 (s.length+1)).2
 have hle:=fun k=>show (((jfw s 45).getD k []).length≤100000) from by
  rcases Nat.lt_or_ge k (jfw s 45).length with e|e
  ·exact Nat.le_trans (jpa s 45 _ _ (jah (l:=jfw s 45) e)) hl
  ·rw [List.getD_eq_getElem?_getD,List.getElem?_eq_none e];simp
 refine Z7 ?_
 refine jbK rfl zq (fun hc=>?_) (fun hc=>?_)
 ·refine Z8 ?_;refine jad (h) rfl Tryz.func55 rfl jab ?_;refine Zs ?_
  have hno: ¬okR s:=fun e=>by have:=e.1;omega
  exact ⟨[],by simp,_,_,by rw [jg9,if_neg hno];exact OwnS.nil,IsB.no hno,rfl⟩
 ·refine Z13 ?_
  refine jai (fun nn l h'=> ∃(k:Nat) (wp:Option Addr) (wc:Nat) (M:Hp),nn=3-k∧(k≤3)∧(OwnS 3 1 (.slice wp (jmG s k).length wc) (jmG s k).length (jaI (jmG s k)) M)∧(∀j,j<k→jft ((jfw s 45).getD j []) j)∧(∃U:Nat→Value,l=((str s)::(U 1)::(U 2)::(U 3)::(.slice p4 (jfw s 45).length c4)::(.slice wp (jmG s k).length wc)::(.int .i64 (k:Int))::vw27 U 7 []))∧h++n4++M=h') _ ⟨0,none,0,[],rfl,by omega,OwnS.nil,fun j hj=>absurd hj zO,exU rfl,zS⟩ ?_;rintro nn l h' ⟨k,wp,wc,M,rfl,hk,how,hpk,⟨U,rfl⟩,rfl⟩ hnext;have hvl:=valR_len (s:=s) (k:=k) zO
  refine Z4 ?_
  refine jao rfl zq (fun hc=>?_) (fun hc=>?_)
  ·refine Z6 ?_
   have hkn:k<(jfw s 45).length:=by omega
   obtain ⟨b4,o4_,hp4⟩:=r4.ptr zO
   subst hp4
   refine Z3 ?_;refine D12 ?_;refine jaW rfl zq (r4.sat k zO zO) ?_;refine Zs ?_;refine jag (Post:=fun v=> ∃b,IsB (jft ((jfw s 45).getD k []) k) b∧v= .tuple [.int .i64 (jbZ ((jfw s 45).getD k [])),b].toArray) rfl zq zK (fun H' hH=>f116_c m H' _ (hle k) k zO) ?_
   rintro v ⟨b8,hb8,rfl⟩;refine Z9 ?_
   rcases hb8 with ⟨hc8,rfl⟩|⟨hc8,rfl⟩
   ·refine Z9 ?_
    refine jdk kdq rfl zq zA zA rfl (fun q31=>jau (jae ?_));refine jbL rfl zq rfl how kdq zO zO (fun w9 n9 o9=>jae ?_);obtain ⟨p9,c9,rfl,hc9,r9⟩:=jav (B:=B) o9
    refine Z8 ?_
    have hks:=jr8 (s:=s) (k:=k) zO
    have hkl:(jmG s (k+1)).length=(jmG s k).length+1:=by rw [hks];simp
    rw [←hkl];exact m.weak jab (hnext _ _ _ zO ⟨k+1,p9,c9,n9,rfl,by omega,by rw [hkl,hks,jcx];exact o9,fun j hj=>by
     by_cases e:j<k
     ·exact hpk j e
     ·obtain rfl:j=k:=by omega
      exact hc8,exU rfl,rfl⟩)
   ·refine Z11 ?_;refine jad (h) rfl Tryz.func55 rfl jab ?_;refine Zs ?_
    have hno: ¬okR s:=fun e=>hc8 (e.2 k zO)
    exact ⟨[],by simp,_,_,by rw [jg9,if_neg hno];exact OwnS.nil,IsB.no hno,rfl⟩
  ·refine Z10 ?_;refine jad (h++M) rfl Tryz.func55 rfl jab ?_;refine Zs ?_
   obtain rfl:k=3:=by omega
   have hok:okR s:=⟨by omega,hpk⟩
   have e:jg9 s=jmG s 3:=by rw [jg9,if_pos hok]
   exact ⟨M,rfl,_,_,by rw [e];exact how,IsB.yes hok,rfl⟩
end
end Go.Proofs
namespace Go.Proofs
open Go.Lo
def spl (c:UInt8):Str→List Str
 |[]=>[[]]
 |x::r=>if x=c then []::spl c r else match spl c r with
  |[]=>[[x]]
  |p::q=>(x::p)::q
theorem jmW (c:UInt8) (s:Str):spl c s≠[]:=by
 cases s with
 |nil=>simp [spl]
 |cons x r=>
  unfold spl
  split
  ·simp
  ·split<;>simp
theorem jlF (c y:UInt8): ∀(xs:Str) (A:List Str) (l:Str),spl c xs=A++[l]→spl c (xs++[y])=if y=c then A++[l]++[[]] else A++[l++[y]]
 |[],A,l,h=>by
  have h2:A=[]∧l=[]:=by
   cases A with
   |nil=>simpa [spl,eq_comm] using h
   |cons a A=>simp [spl] at h
  obtain ⟨rfl,rfl⟩:=h2
  by_cases e:y=c<;>simp [spl,e]
 |x::r,A,l,h=>by
  by_cases hx:x=c
  ·rw [spl,if_pos hx] at h
   cases A with
   |nil=>
    have:spl c r=[]:=by simpa using (List.cons.inj h).2
    exact absurd this (jmW c r)
   |cons a A=>
    obtain ⟨rfl,h2⟩:=List.cons.inj h
    have:=jlF c y r A l h2
    rw [List.cons_append,spl,if_pos hx,this];split<;>simp
  ·obtain ⟨p,q,hpq⟩: ∃p q,spl c r=p::q:=by
    cases e:spl c r with
    |nil=>exact absurd e (jmW c r)
    |cons p q=>exact ⟨p,q,rfl⟩
   rw [spl,if_neg hx,hpq] at h
   simp only at h
   have hr: ∃A' l',spl c r=A'++[l']∧((A'=[]∧A=[]∧l=x::l')∨(∃A2,A'=p::A2∧A=(x::p)::A2∧l=l')):=by
    cases A with
    |nil=>
     have h3:x::p=l∧q=[]:=by simpa using h
     exact ⟨[],p,by rw [hpq,h3.2];rfl,.inl ⟨rfl,rfl,h3.1.symm⟩⟩
    |cons a A=>
     obtain ⟨h3,h4⟩:=List.cons.inj h
     exact ⟨p::A,l,by rw [hpq,h4];rfl,.inr ⟨A,rfl,by rw [h3],rfl⟩⟩
   obtain ⟨A',l',he,hc⟩:=hr
   have ih:=jlF c y r A' l' he
   rw [List.cons_append,spl,if_neg hx,ih];rcases hc with ⟨rfl,rfl,rfl⟩|⟨A2,rfl,rfl,rfl⟩<;>by_cases e:y=c<;>simp [e]
theorem jus (s:Str) (c:UInt8): ∀i,i≤s.length→spl c (s.take i)=(jcE s c i).1++[(s.take i).drop (jcE s c i).2]
 |0,_=>by simp [spl,jcE]
 |i+1,h=>by
  have ih:=jus s c i zO
  have hle:=(jqq s c i).1
  rw [jcs s i zO,jlF c (s.getD i default) _ _ _ ih];by_cases e:s.getD i 0=c
  ·rw [if_pos (show s.getD i default=c from e),jmn (.inr e)];simp only
   congr 1
   rw [List.drop_eq_nil_of_le];simp
   omega
  ·rw [if_neg (show¬s.getD i default=c from e),cut_no zO e,List.drop_append_of_le_length zN]
theorem jj7 (s:Str) (c:UInt8):jfw s c=spl c s:=by
 have:=jus s c s.length (Nat.le_refl _)
 rw [List.take_length] at this
 rw [jfw,jmn (.inl rfl),this,List.take_length]
def jdi (x:Nat) (p:Str):Nat:=p.foldl (fun n c=>10*n+(c.toNat-48)) x
theorem jmi: ∀(p:Str) (x:Nat),1≤x→x+p.length≤jdi x p
 |[],x,_=>by simp [jdi]
 |c::r,x,h=>by
  have:=jmi r (10*x+(c.toNat-48)) zO
  show _≤jdi (10*x+(c.toNat-48)) r
  simp only [List.length_cons]
  omega
abbrev failV:List Int×Bool:=([0,0,0],false)
theorem set_set {x y:Int}:(v.set k x).set k y=v.set k y:=List.set_set ..
theorem jsP: ∀(p r:Str) (v:List Int) (k n x:Nat),v.length=3→k≤2→0<n→1≤x→v.getD k 0=(x:Int)→(x:Int)≤mosts.getD k 0→(∀c∈p,c≠45)→
  rdF mosts (p++r) v k n=if (∀c∈p,jgh c)∧(jdi x p:Int)≤mosts.getD k 0 then rdF mosts r (v.set k (jdi x p:Int)) k (n+p.length) else failV
 |[],r,v,k,n,x,hv,hk,hn,hx,hvx,hm,_=>by
  have e:v.set k (x:Int)=v:=by
   rw [←hvx];rw [List.getD_eq_getElem?_getD,List.getElem?_eq_getElem zO];simp
  rw [if_pos ⟨fun c hc=>by simp at hc,by simpa [jdi] using hm⟩];simp [jdi,e]
 |c::p,r,v,k,n,x,hv,hk,hn,hx,hvx,hm,hd=>by
  have hc45:c.toNat≠45:=fun e=>hd c zS (UInt8.toNat_inj.1 (by rw [e];rfl))
  rw [List.cons_append];by_cases hdg:jgh c
  ·have hdg':=hdg
   unfold jgh at hdg'
   have hset:(v.set k (10*v.getD k 0+((c.toNat:Int)-48))).getD k 0=10*v.getD k 0+((c.toNat:Int)-48):=jca zO
   have hy:10*v.getD k 0+((c.toNat:Int)-48)=((10*x+(c.toNat-48):Nat):Int):=by rw [hvx];omega
   by_cases hb:(v.set k (10*v.getD k 0+((c.toNat:Int)-48))).getD k 0>mosts.getD k 0
   ·rw [jlO ⟨hdg',.inr zO⟩ hb,if_neg];rintro ⟨-,h2⟩;have:=jmi p (10*x+(c.toNat-48)) zO
    rw [hset,hy] at hb
    have h3:(jdi (10*x+(c.toNat-48)) p:Int)≤mosts.getD k 0:=h2
    omega
   ·have hb':(v.set k (10*v.getD k 0+((c.toNat:Int)-48))).getD k 0≤mosts.getD k 0:=by omega
    rw [jlN ⟨hdg',.inr zO⟩ hb',jsP p r _ k (n+1) (10*x+(c.toNat-48)) (by simpa using hv) hk zO zO (by rw [hset,hy]) (by rw [hset,hy] at hb';exact hb') (fun c hc=>hd c (by simp [hc]))];have e1:((∀c∈p,jgh c)∧(jdi (10*x+(c.toNat-48)) p:Int)≤mosts.getD k 0)↔((∀c'∈c::p,jgh c')∧(jdi x (c::p):Int)≤mosts.getD k 0):=by
     constructor
     ·rintro ⟨a,b⟩;exact ⟨fun c' hc'=>by rcases List.mem_cons.1 hc' with rfl|h;exact hdg;exact a c' h,b⟩
     ·rintro ⟨a,b⟩;exact ⟨fun c' hc'=>a c' (by simp [hc']),b⟩
    by_cases h:(∀c∈p,jgh c)∧(jdi (10*x+(c.toNat-48)) p:Int)≤mosts.getD k 0
    ·rw [if_pos h,if_pos (e1.1 h),set_set];show rdF mosts r (v.set k (jdi (10*x+(c.toNat-48)) p:Int)) k (n+1+p.length)=rdF mosts r (v.set k (jdi (10*x+(c.toNat-48)) p:Int)) k (n+(p.length+1))
     rw [show n+1+p.length=n+(p.length+1) by omega]
    ·rw [if_neg h,if_neg (fun e=>h (e1.2 e))]
  ·rw [jdz zO zO (by rintro ⟨a,-⟩;exact hdg a),if_neg (fun e=>hdg (e.1 c zS))]
theorem jjW: ∀(p:Str) (x:Nat),1≤x→x+9*p.length≤jdi x p
 |[],x,_=>by simp [jdi]
 |c::r,x,h=>by
  have:=jjW r (10*x+(c.toNat-48)) zO
  show _≤jdi (10*x+(c.toNat-48)) r
  simp only [List.length_cons]
  omega
theorem neg_no {p:Str} (h: ∀c∈p,c≠45): ¬negS p:=fun ⟨e1,e2⟩=>h _ (jah (l:=p) e1) e2
theorem jsS {p:Str} (h: ∀c∈p,c≠45):ja4 p=p:=by rw [ja4,if_neg (neg_no h)]
theorem jl2 {p:Str} (h: ∀c∈p,c≠45):jfL p↔(1≤p.length∧p.length≤9)∧ ¬(p.getD 0 0=48∧p≠[48])∧ ∀c∈p,jgh c:=by
 rw [jfL,jsS h];refine and_congr_right fun _=>and_congr_right fun _=>⟨fun e c hc=>?_,fun e i hi=>e _ (jah (l:=p) hi)⟩
 obtain ⟨i,hi,rfl⟩:=List.mem_iff_getElem.1 hc
 have:=e i hi
 rwa [List.getD_eq_getElem?_getD,List.getElem?_eq_getElem hi] at this
theorem jjE {p:Str} (h: ∀c∈p,c≠45) (ok:jfL p):jrZ p=(jdi 0 p:Int):=by
 rw [jrZ,if_pos ok,jsS h,joo,if_neg (neg_no h),jkp,List.take_length,Int.one_mul];rfl
theorem most_bd (h:k≤2):7≤mosts.getD k 0∧mosts.getD k 0≤11:=jdW zO
theorem jpS (p r:Str) (v:List Int) (k:Nat) (hp:p≠[]) (hd: ∀c∈p,c≠45) (hv:v.length=3) (hk:k≤2) (h0:v.getD k 0=0):
  rdF mosts (p++r) v k 0=if jft p k then rdF mosts r (v.set k (jbZ p)) k p.length else failV:=by
 obtain ⟨c,q,rfl⟩:=List.exists_cons_of_ne_nil hp
 have hmb:=most_bd hk
 have hc45:c.toNat≠45:=fun e=>hd c zS (UInt8.toNat_inj.1 (by rw [e];rfl))
 have hq: ∀c∈q,c≠45:=fun c hc=>hd c (by simp [hc])
 have hni:=jl2 hd
 by_cases h63:c.toNat=63
 ·have hcc:c=63:=UInt8.toNat_inj.1 (by rw [h63];rfl)
  subst hcc
  have hno: ¬jfL (63::q):=fun e=>by have:=(hni.1 e).2.2 63 zS;unfold jgh at this;revert this;decide
  have hs:(v.set k (-1)).getD k 0= -1:=jca zO
  rw [List.cons_append,jsX ⟨rfl,rfl⟩ (by rw [hs];omega)];cases q with
  |nil=>
   rw [if_pos (.inl rfl)];show rdF mosts r (v.set k (-1)) k 1=rdF mosts r (v.set k (jbZ [63])) k 1
   rw [jbZ,if_pos rfl]
  |cons c2 q2=>
   have h2:c2.toNat≠45:=fun e=>hq c2 zS (UInt8.toNat_inj.1 (by rw [e];rfl))
   rw [List.cons_append,jdz zO zO (by rw [hs];omega),if_neg];rintro (e|e)
   ·simp at e
   ·exact hno e.1
 ·have hn63:c::q≠[63]:=fun e=>by
   obtain ⟨rfl,-⟩:=List.cons.inj e
   exact h63 rfl
  by_cases hdg:jgh c
  ·have hdg':=hdg
   unfold jgh at hdg'
   have hs:(v.set k (10*v.getD k 0+((c.toNat:Int)-48))).getD k 0=10*v.getD k 0+((c.toNat:Int)-48):=jca zO
   have hx:10*v.getD k 0+((c.toNat:Int)-48)=((c.toNat-48:Nat):Int):=by rw [h0];omega
   have hf:jdi 0 (c::q)=jdi (c.toNat-48) q:=by
    show jdi (10*0+(c.toNat-48)) q=_
    rw [Nat.mul_zero,Nat.zero_add]
   by_cases hb:(v.set k (10*v.getD k 0+((c.toNat:Int)-48))).getD k 0>mosts.getD k 0
   ·rw [List.cons_append,jlO ⟨hdg',.inl rfl⟩ hb,if_neg];rintro (e|⟨e1,e2⟩)
    ·exact hn63 e
    ·rw [jjE hd e1,hf] at e2
     rw [hs,hx] at hb
     have:=jmi q (c.toNat-48) zO
     omega
   ·have hb':(v.set k (10*v.getD k 0+((c.toNat:Int)-48))).getD k 0≤mosts.getD k 0:=by omega
    rw [List.cons_append,jlN ⟨hdg',.inl rfl⟩ hb'];by_cases hz:c.toNat=48
    ·have hcc:c=48:=UInt8.toNat_inj.1 (by rw [hz];rfl)
     subst hcc
     cases q with
     |nil=>
      have hok:jfL [48]:=hni.2 ⟨by decide,fun e=>e.2 rfl,fun c hc=>by rw [List.mem_singleton.1 hc];decide⟩
      have hns:=jjE hd hok
      have hz0:(jdi 0 ([48]:Str):Int)=0:=rfl
      rw [if_pos (.inr ⟨hok,by omega,by omega⟩),jbZ,if_neg hn63,hns,hz0,hx];rfl
     |cons c2 q2=>
      have h2:c2.toNat≠45:=fun e=>hq c2 zS (UInt8.toNat_inj.1 (by rw [e];rfl))
      rw [List.cons_append,jdz zO zO (by rw [hs,hx];rintro ⟨-,e⟩;rcases e with e|e;omega;simp at e),if_neg];rintro (e|e)
      ·exact hn63 e
      ·exact (hni.1 e.1).2.1 ⟨rfl,by simp⟩
    ·rw [jsP q r _ k (0+1) (c.toNat-48) (by simpa using hv) hk zO zO (by rw [hs,hx]) (by rw [hs,hx] at hb';exact hb') hq];by_cases hall:(∀c∈q,jgh c)∧(jdi (c.toNat-48) q:Int)≤mosts.getD k 0
     ·have h9:=jjW q (c.toNat-48) zO
      have hok:jfL (c::q):=hni.2 ⟨by simp only [List.length_cons];omega,fun e=>hz (by have:=e.1;rw [show c=48 from this];rfl),fun c' hc'=>by rcases List.mem_cons.1 hc' with rfl|e;exact hdg;exact hall.1 c' e⟩
      have hns:=jjE hd hok
      rw [hf] at hns
      rw [if_pos hall,if_pos (.inr ⟨hok,by omega,by omega⟩),set_set,jbZ,if_neg hn63,hns];simp only [List.length_cons]
      rw [Nat.zero_add,Nat.add_comm]
     ·rw [if_neg hall,if_neg];rintro (e|⟨e1,e2⟩)
      ·exact hn63 e
      ·rw [jjE hd e1,hf] at e2
       exact hall ⟨fun c' hc'=>(hni.1 e1).2.2 c' (by simp [hc']),e2.2⟩
  ·rw [List.cons_append,jdz zO zO (by rintro ⟨a,-⟩;exact hdg a),if_neg];rintro (e|e)
   ·exact hn63 e
   ·exact hdg ((hni.1 e.1).2.2 c zS)
theorem jje: ∀s:Str,∃p r,s=p++r∧(∀c∈p,c≠45)∧((r=[]∧spl 45 s=[p])∨ ∃r',r=45::r'∧spl 45 s=p::spl 45 r')
 |[]=>⟨[],[],rfl,by simp,.inl ⟨rfl,rfl⟩⟩
 |x::t=>by
  by_cases hx:x=45
  ·subst hx
   exact ⟨[],45::t,rfl,by simp,.inr ⟨t,rfl,by rw [spl,if_pos rfl]⟩⟩
  ·obtain ⟨p,r,rfl,hp,h⟩:=jje t
   refine ⟨x::p,r,rfl,fun c hc=>by rcases List.mem_cons.1 hc with rfl|e;exact hx;exact hp c e,?_⟩
   rcases h with ⟨e1,e2⟩|⟨r',e1,e2⟩
   ·exact .inl ⟨e1,by rw [spl,if_neg hx,e2]⟩
   ·exact .inr ⟨r',e1,by rw [spl,if_neg hx,e2]⟩
theorem jlQ (k:Nat): ¬jft [] k:=by
 rintro (e|e)
 ·simp at e
 ·have:=((jl2 (p:=[]) zS).1 e.1).1.1
  simp at this
def okP (k:Nat) (ps:List Str):Prop:=ps.length=3-k∧ ∀j,j<3-k→jft (ps.getD j []) (k+j)
theorem okP_cons {p:Str} {ps:List Str} (hk:k<2):okP k (p::ps)↔jft p k∧okP (k+1) ps:=by
 unfold okP
 constructor
 ·rintro ⟨a,b⟩;refine ⟨b 0 zO,by simp only [List.length_cons] at a;omega,fun j hj=>?_⟩
  have:=b (j+1) zO
  rw [show k+(j+1)=k+1+j by omega] at this
  simpa using this
 ·rintro ⟨a,b,c⟩;refine ⟨by simp only [List.length_cons];omega,fun j hj=>?_⟩
  cases j with
  |zero=>exact a
  |succ j=>
   have:=c j zO
   rw [show k+(j+1)=k+1+j by omega];simpa using this
theorem joP {p:Str} (hk:k≤2):okP k [p]↔k=2∧jft p k:=by
 unfold okP
 constructor
 ·rintro ⟨a,b⟩;simp only [List.length_cons,List.length_nil] at a
  exact ⟨by omega,b 0 zO⟩
 ·rintro ⟨rfl,b⟩;refine ⟨rfl,fun j hj=>?_⟩
  obtain rfl:j=0:=by omega
  exact b
theorem jsY (h: ¬(0<n∧k<2)):rdF mosts (45::r) v k n=failV:=jdz (fun e=>h e.2) (fun e=>absurd e.1 zA) (fun e=>absurd e.1 zA)
theorem fig_go: ∀(d k:Nat) (s:Str) (v:List Int),k+d=2→v.length=3→(∀j,k≤j→v.getD j 0=0)→
  ((rdF mosts s v k 0).2=true↔okP k (spl 45 s))∧(okP k (spl 45 s)→(rdF mosts s v k 0).1=v.take k++(spl 45 s).map jbZ):=by
 intro d
 induction d with
 |zero=>
  intro k s v hk hv h0
  obtain rfl:k=2:=by omega
  obtain ⟨p,r,rfl,hp,h⟩:=jje s
  by_cases hpn:p=[]
  ·subst hpn
   rcases h with ⟨rfl,e⟩|⟨r',rfl,e⟩
   ·rw [e];have: ¬okP 2 [([]:Str)]:=fun x=>jlQ 2 ((joP zO).1 x).2
    exact ⟨⟨fun x=>by simp [rdF] at x,fun x=>absurd x this⟩,fun x=>absurd x this⟩
   ·rw [e];have: ¬okP 2 (([]:Str)::spl 45 r'):=fun x=>jlQ 2 (x.2 0 zO)
    rw [List.nil_append,jsY zO];exact E39
  ·rw [jpS p r v 2 hpn hp hv zO (h0 2 zO)];by_cases hpp:jft p 2
   ·rw [if_pos hpp];rcases h with ⟨rfl,e⟩|⟨r',rfl,e⟩
    ·rw [e];have hl:0<p.length:=by cases p with|nil=>exact absurd rfl hpn|cons a b=>simp
     refine ⟨⟨fun _=>(joP zO).2 ⟨rfl,hpp⟩,fun _=>by simp [rdF,hl]⟩,fun _=>?_⟩
     obtain ⟨a,b,c,rfl⟩:=three hv
     rfl
    ·rw [e,jsY zO];have: ¬okP 2 (p::spl 45 r'):=fun x=>by
      have h1:=x.1
      have h2:0<(spl 45 r').length:=List.length_pos_iff.2 (jmW 45 r')
      simp only [List.length_cons] at h1
      omega
     exact E39
   ·rw [if_neg hpp];have: ¬okP 2 (spl 45 (p++r)):=by
     rcases h with ⟨-,e⟩|⟨r',-,e⟩<;>rw [e]<;>exact fun x=>hpp (x.2 0 zO)
    exact E39
 |succ d ih=>
  intro k s v hk hv h0
  obtain ⟨p,r,rfl,hp,h⟩:=jje s
  have hbad: ¬jft p k→ ¬okP k (spl 45 (p++r)):=fun hpp=>by
   rcases h with ⟨-,e⟩|⟨r',-,e⟩<;>rw [e]<;>exact fun x=>hpp (x.2 0 zO)
  by_cases hpn:p=[]
  ·subst hpn
   have:=hbad (jlQ k)
   rcases h with ⟨rfl,e⟩|⟨r',rfl,e⟩
   ·exact ⟨⟨fun x=>by simp [rdF] at x,fun x=>absurd x this⟩,fun x=>absurd x this⟩
   ·rw [show rdF mosts ([]++45::r') v k 0=failV from jsY zO];exact E39
  ·rw [jpS p r v k hpn hp hv zO (h0 k zO)];by_cases hpp:jft p k
   ·rw [if_pos hpp];rcases h with ⟨rfl,e⟩|⟨r',rfl,e⟩
    ·rw [e,joP zO];refine ⟨⟨fun x=>?_,fun x=>absurd x.1 zO⟩,fun x=>absurd x.1 zO⟩
     simp [rdF] at x
     omega
    ·have hl:0<p.length:=by cases p with|nil=>exact absurd rfl hpn|cons a b=>simp
     rw [e,jpO ⟨by decide,hl,by omega⟩,okP_cons zO];obtain ⟨i1,i2⟩:=ih (k+1) r' (v.set k (jbZ p)) zO (by simpa using hv) (fun j hj=>by rw [set_other zO];exact h0 j zO)
     refine ⟨i1.trans ⟨fun x=>⟨hpp,x⟩,fun x=>x.2⟩,fun x=>?_⟩
     rw [i2 x.2,List.map_cons];have:(v.set k (jbZ p)).take (k+1)=v.take k++[jbZ p]:=by
      rw [jcs _ k zN,List.take_set_of_le zO];congr 2
      exact jca zO
     rw [this,List.append_assoc];rfl
   ·rw [if_neg hpp];have:=hbad hpp
    exact E39
theorem jfK (s:Str):okR s↔ja6 s=true:=by
 have:=(fig_go 2 0 s [0,0,0] rfl rfl fun j _=>jmA j).1
 rw [ja6,this,okR,okP,jj7];refine and_congr_right fun _=>forall_congr' fun j=>?_
 rw [Nat.zero_add]
theorem jiN (s:Str):jg9 s=if ja6 s then jal s else []:=by
 by_cases h:okR s
 ·rw [jg9,if_pos h,if_pos ((jfK s).1 h)];have:=(fig_go 2 0 s [0,0,0] rfl rfl fun j _=>jmA j).2 (by
   have h2:=h
   rw [okR,jj7] at h2
   refine ⟨h2.1,fun j hj=>?_⟩
   rw [Nat.zero_add];exact h2.2 j hj)
  rw [jal,this,jmG,List.take_of_length_le (by have:=h.1;omega),jj7];rfl
 ·rw [jg9,if_neg h,if_neg (fun e=>h ((jfK s).2 e))]
end Go.Proofs
namespace Go.Proofs
open Go.Lo
open Go.Conc (G)
section
variable [LaidO B]
def joZ (s:Str):List Int:=if ja6 s then jal s else []
theorem juf (m:Md Tryz.prog B) (h:Hp) (s:Str) (hl:s.length≤100000):FnC m 55 #[str s] h fun v h'=> ∃new,h'=h++new∧ ∃w,OwnS 3 1 w (joZ s).length (jaI (joZ s)) new∧v= .tuple [w,.bool (ja6 s)].toArray:=
 CallF.mono (f55_c m h s hl) fun v h' ⟨new,e,w,b,o,hb,ev⟩=>⟨new,e,w,by rw [joZ,←jiN];exact o,by
  rcases hb with ⟨h1,rfl⟩|⟨h1,rfl⟩
  ·rw [(jfK s).1 h1];exact ev
  ·rw [show ja6 s=false from Bool.eq_false_iff.2 fun e=>h1 ((jfK s).2 e)];exact ev⟩
theorem jeS (s:Str):jbx s=true↔ja6 s=true∨s=[45]:=by rw [jbx,Bool.or_eq_true,decide_eq_true_iff];rfl
theorem f173_c (m:Md Tryz.prog B) (h:Hp) (s:Str) (hl:s.length≤100000):FnC m 173 #[str s] h fun v h'=>h'=h∧IsB (jbx s=true) v:=by
 refine jaf Tryz.func173 rfl rfl (l:=(str s)::uu14) rfl ?_
 intro cf cs K hK
 refine Z7 ?_;refine jaD rfl zq zK (Post:=fun v new=> ∃w,OwnS 3 1 w (joZ s).length (jaI (joZ s)) new∧v= .tuple [w,.bool (ja6 s)].toArray) (fun H' hH=>juf m H' s hl) ?_
 rintro v n1 ⟨w1,o1,rfl⟩;refine jaH (jae ?_);obtain ⟨p1,c1,rfl,hc1,r1⟩:=jav (B:=B) o1
 refine Z7 ?_
 cases hfo:ja6 s
 all_goals
  refine Z3 ?_
 ·refine Zs ?_
  by_cases hda:s=[45]
  refine jhS rfl rfl hda ?_;rotate_left
  refine jhT rfl rfl hda ?_;all_goals
   refine Z4 ?_;refine jad (h) rfl Tryz.func173 rfl jab ?_;refine Zs ?_
   first
    |exact ⟨rfl,IsB.yes ((jeS s).2 (.inl hfo))⟩
    |exact ⟨rfl,IsB.yes ((jeS s).2 (.inr hda))⟩
    |exact E40
 ·refine Z6 ?_;refine jad (h) rfl Tryz.func173 rfl jab ?_;refine Zs ?_
  first
   |exact ⟨rfl,IsB.yes ((jeS s).2 (.inl hfo))⟩
   |exact ⟨rfl,IsB.yes ((jeS s).2 (.inr hda))⟩
   |exact E40
end
section
variable [LaidO B]
theorem f125_c (m:Md Tryz.prog B) (h:Hp) (rds:RdS B h 1 (.slice ps ns ks) ns (jaC b.sts)) (hcs:ns≤ks) (hns:ns≤1000) (hsl: ∀s∈b.sts,s.length≤100000) (hln:RdLn B h (.slice pl nl cl) nl lns) (hnl:nl≤1000) (hsm: ∀l∈lns,l.figs.length≤1000∧ ∀f∈l.figs,f.length≤100000):FnC m 125 #[tbV b ps ns ks pw nw cw pb nb cb,.slice pl nl cl] h fun v h'=>h'=h∧v= .int .i64 (jaR b.sts.length lns):=by
 have hml:=rds.elen zA
 obtain ⟨lps,rfl,rl,hfig⟩:=hln
 have hll:=rl.elen zA
 refine jaf Tryz.func125 rfl rfl (l:=(tbV b ps ns ks pw nw cw pb nb cb)::(.slice pl nl cl)::uu67) rfl ?_
 intro cf cs K hK
 refine Z2 ?_
 refine jaX rfl zq (fun q2=>jau (jae ?_));refine Z7 ?_
 refine jaY rfl zq (fun hc=>?_) (fun hc=>?_)
 ·refine Z7 ?_;refine D60 ?_;refine Zs ?_
  refine ⟨rfl,congrArg (Value.int .i64) ?_⟩
  first
   |(rw [jaR,if_pos zI];done)
   |(rw [jaR,if_neg zI,hlm];first
     |(rw [List.drop_eq_nil_of_le zI];rfl)
     |(rw [hdr];first
       |exact (jcO zO).symm
       |exact E23
       |exact E24
       |exact E41))
 ·refine Z9 ?_
  refine jai (fun nn l h'=> ∃(i:Nat),nn=nl-i∧(i≤nl)∧(jcG b.sts.length none (lps.map (·.ln))=jcG b.sts.length (joG (lps.map (·.ln)) i) ((lps.map (·.ln)).drop i))∧(∃U:Nat→Value,l=((tbV b ps ns ks pw nw cw pb nb cb)::(.slice pl nl cl)::(.pointer (some ⟨q2,0,none⟩))::(U 3)::(U 4)::(.int .i64 (i:Int))::vw63 U 6 []))∧h++[⟨true,q2,.cells (tbL b ps ns ks pw nw cw pb nb cb).toArray 25 (0,0)⟩]=h') _ ⟨0,rfl,by omega,rfl,exU rfl,rfl⟩ ?_;rintro nn l h' ⟨i,rfl,hi,hlm,⟨U,rfl⟩,rfl⟩ hnext1;refine Z6 ?_
  refine jao rfl zq (fun hc=>?_) (fun hc=>?_)
  ·refine Z7 ?_
   obtain ⟨rl_b,rl_o,rfl⟩:=rl.ptr zO
   obtain ⟨x,hx⟩: ∃x,x=lps.getD i default:=⟨_,rfl⟩
   have hxm:x∈lps:=hx▸jah zO
   obtain ⟨hxc,rdf0⟩:=hfig x hxm
   have hdr:(lps.map (·.ln)).drop i=x.ln::(lps.map (·.ln)).drop (i+1):=by rw [drop_at zI,ja1 _ _ zO,←hx]
   obtain ⟨hfl,hfs⟩:=hsm x.ln (List.mem_map.2 ⟨x,hxm,rfl⟩)
   refine Z3 ?_;refine D12 ?_;refine Zs ?_;refine jaW (v:= .int .i64 (lps.getD i default).ln.lat) rfl zq (rl.fat i 0 zO zO rfl) ?_
   rw [←hx];refine D61 ?_
   rintro v (⟨hc,rfl⟩|⟨hc,rfl⟩)
   ·refine Z7 ?_;refine jar [Zp 0,Zp 1,Zp 2,Zp 3,Zp 4,Zp 5,Zp 6,Zp 8,Zp 9,Zp 10,Zp 11,Zp 12,Zr 7,Zr 13,Zp 14,Zp 15] zK zK (List.Sublist.refl _) ?_;refine Zs ?_
    refine jaY rfl zq (fun hc=>?_) (fun hc=>?_)
    ·refine Z3 ?_;refine jcq rfl rfl rfl zO zO ?_;refine Z3 ?_;refine D95 ?_;refine jcq rfl rfl rfl zO zO ?_;refine Zs ?_;refine jaW (v:= .int .i64 (lps.getD i default).ln.lat) rfl rfl (rl.fat i 0 zO zO rfl) ?_
     rw [←hx];refine D108 ?_
     refine jcn rfl rfl (fun hc=>?_) (fun hc=>?_)
     ·refine Z8 ?_;refine D60 ?_;refine Zs ?_
      refine ⟨rfl,congrArg (Value.int .i64) ?_⟩
      first
       |(rw [jaR,if_pos zI];done)
       |(rw [jaR,if_neg zI,hlm];first
         |(rw [List.drop_eq_nil_of_le zI];rfl)
         |(rw [hdr];first
           |exact (jcO zO).symm
           |exact E23
           |exact E24
           |exact E41))
     ·refine Z6 ?_
      have hnu: ¬jiz (joG (lps.map (·.ln)) i) x.ln.lat:=by
       rintro ⟨y,e1,e2⟩;first
        |(have hi0:i=0:=by omega
          subst hi0
          cases e1)
        |(rw [ja8 zO,ja1 _ _ zO] at e1;have e3:=Option.some.inj e1;omega)
      refine D63 ?_;refine Z2 ?_;refine D12 ?_;refine Z2 ?_;refine D16 ?_
      rw [←hx];refine Z3 ?_
      refine jbK rfl zq (fun hc=>?_) (fun hc=>?_)
      ·refine Z7 ?_;refine D60 ?_;refine Zs ?_
       refine ⟨rfl,congrArg (Value.int .i64) ?_⟩
       first
        |(rw [jaR,if_pos zI];done)
        |(rw [jaR,if_neg zI,hlm];first
          |(rw [List.drop_eq_nil_of_le zI];rfl)
          |(rw [hdr];first
            |exact (jcO zO).symm
            |exact E23
            |exact E24
            |exact E41))
      ·refine Z8 ?_
       refine jai (fun nn l h'=> ∃(k:Nat),nn=x.ln.figs.length-k∧(k≤x.ln.figs.length)∧(∀j,j<k→jbx (x.ln.figs.getD j [])=true)∧(∃U:Nat→Value,l=((tbV b ps ns ks pw nw cw pb nb cb)::(.slice (some ⟨rl_b,rl_o,none⟩) nl cl)::(.pointer (some ⟨q2,0,none⟩))::(U 3)::(U 4)::(.int .i64 (i:Int))::(.int .i64 (k:Int))::vw62 U 7 []))∧h++[⟨true,q2,.cells (tbL b ps ns ks pw nw cw pb nb cb).toArray 25 (0,0)⟩]=h') _ ⟨0,rfl,by omega,fun j hj=>absurd hj zO,exU rfl,rfl⟩ ?_;rintro nn l h' ⟨k,rfl,hk,hfk,⟨U,rfl⟩,rfl⟩ hnext2;refine Z6 ?_;refine D12 ?_;refine Zs ?_;refine D16 ?_
       rw [←hx];refine Zs ?_
       refine jao rfl zq (fun hc=>?_) (fun hc=>?_)
       ·refine Z6 ?_
        have rdf:=rdf0 zO
        obtain ⟨fb,fo,hfp⟩:=rdf.ptr zO
        have rdg:=rdf
        rw [hfp] at rdg
        have hsk:(x.ln.figs.getD k []).length≤100000:=hfs _ (jah (l:=x.ln.figs) zO)
        refine Z3 ?_;refine D12 ?_;refine Zs ?_;refine D16 ?_
        rw [←hx];refine Zs ?_;refine D54 ?_;refine D99 ?_;refine jag (Post:=fun v=>IsB _ v) rfl zq zK (fun H' hH=>f173_c m H' _ hsk) ?_
        rintro v (⟨hc,rfl⟩|⟨hc,rfl⟩)
        ·refine Z6 ?_
         skip
         refine Z5 ?_
         exact m.weak jab (hnext2 _ _ _ zO ⟨k+1,rfl,by omega,fun j hj=>by
          by_cases e:j<k
          ·exact hfk j e
          ·obtain rfl:j=k:=by omega
           assumption,exU rfl,rfl⟩)
        ·refine Z9 ?_;refine D60 ?_;refine Zs ?_
         refine ⟨rfl,congrArg (Value.int .i64) ?_⟩
         first
          |(rw [jaR,if_pos zI];done)
          |(rw [jaR,if_neg zI,hlm];first
            |(rw [List.drop_eq_nil_of_le zI];rfl)
            |(rw [hdr];first
              |exact (jcO zO).symm
              |exact E23
              |exact E24
              |exact E41))
       ·refine Z4 ?_
        have hall: ∀f∈x.ln.figs,jbx f=true:=fun f hf=>by
         obtain ⟨j,hj,e⟩:=List.mem_iff_getElem.1 hf
         have:=hfk j zO
         rw [List.getD_eq_getElem?_getD,List.getElem?_eq_getElem hj] at this
         exact e▸this
        refine Z5 ?_
        exact E26
    ·refine Z19 ?_
     have hnu: ¬jiz (joG (lps.map (·.ln)) i) x.ln.lat:=by
      rintro ⟨y,e1,e2⟩;first
       |(have hi0:i=0:=by omega
         subst hi0
         cases e1)
       |(rw [ja8 zO,ja1 _ _ zO] at e1;have e3:=Option.some.inj e1;omega)
     refine D63 ?_;refine Z2 ?_;refine D12 ?_;refine Z2 ?_;refine D16 ?_
     rw [←hx];refine Z3 ?_
     refine jbK rfl zq (fun hc=>?_) (fun hc=>?_)
     ·refine Z7 ?_;refine D60 ?_;refine Zs ?_
      refine ⟨rfl,congrArg (Value.int .i64) ?_⟩
      first
       |(rw [jaR,if_pos zI];done)
       |(rw [jaR,if_neg zI,hlm];first
         |(rw [List.drop_eq_nil_of_le zI];rfl)
         |(rw [hdr];first
           |exact (jcO zO).symm
           |exact E23
           |exact E24
           |exact E41))
     ·refine Z8 ?_
      refine jai (fun nn l h'=> ∃(k:Nat),nn=x.ln.figs.length-k∧(k≤x.ln.figs.length)∧(∀j,j<k→jbx (x.ln.figs.getD j [])=true)∧(∃U:Nat→Value,l=((tbV b ps ns ks pw nw cw pb nb cb)::(.slice (some ⟨rl_b,rl_o,none⟩) nl cl)::(.pointer (some ⟨q2,0,none⟩))::(U 3)::(U 4)::(.int .i64 (i:Int))::(.int .i64 (k:Int))::vw62 U 7 []))∧h++[⟨true,q2,.cells (tbL b ps ns ks pw nw cw pb nb cb).toArray 25 (0,0)⟩]=h') _ ⟨0,rfl,by omega,fun j hj=>absurd hj zO,exU rfl,rfl⟩ ?_;rintro nn l h' ⟨k,rfl,hk,hfk,⟨U,rfl⟩,rfl⟩ hnext2;refine Z6 ?_;refine D12 ?_;refine Zs ?_;refine D16 ?_
      rw [←hx];refine Zs ?_
      refine jao rfl zq (fun hc=>?_) (fun hc=>?_)
      ·refine Z6 ?_
       have rdf:=rdf0 zO
       obtain ⟨fb,fo,hfp⟩:=rdf.ptr zO
       have rdg:=rdf
       rw [hfp] at rdg
       have hsk:(x.ln.figs.getD k []).length≤100000:=hfs _ (jah (l:=x.ln.figs) zO)
       refine Z3 ?_;refine D12 ?_;refine Zs ?_;refine D16 ?_
       rw [←hx];refine Zs ?_;refine D54 ?_;refine D99 ?_;refine jag (Post:=fun v=>IsB _ v) rfl zq zK (fun H' hH=>f173_c m H' _ hsk) ?_
       rintro v (⟨hc,rfl⟩|⟨hc,rfl⟩)
       ·refine Z6 ?_
        skip
        refine Z5 ?_
        exact m.weak jab (hnext2 _ _ _ zO ⟨k+1,rfl,by omega,fun j hj=>by
         by_cases e:j<k
         ·exact hfk j e
         ·obtain rfl:j=k:=by omega
          assumption,exU rfl,rfl⟩)
       ·refine Z9 ?_;refine D60 ?_;refine Zs ?_
        refine ⟨rfl,congrArg (Value.int .i64) ?_⟩
        first
         |(rw [jaR,if_pos zI];done)
         |(rw [jaR,if_neg zI,hlm];first
           |(rw [List.drop_eq_nil_of_le zI];rfl)
           |(rw [hdr];first
             |exact (jcO zO).symm
             |exact E23
             |exact E24
             |exact E41))
      ·refine Z4 ?_
       have hall: ∀f∈x.ln.figs,jbx f=true:=fun f hf=>by
        obtain ⟨j,hj,e⟩:=List.mem_iff_getElem.1 hf
        have:=hfk j zO
        rw [List.getD_eq_getElem?_getD,List.getElem?_eq_getElem hj] at this
        exact e▸this
       refine Z5 ?_
       exact E26
   ·refine Z9 ?_;refine D60 ?_;refine Zs ?_
    refine ⟨rfl,congrArg (Value.int .i64) ?_⟩
    first
     |(rw [jaR,if_pos zI];done)
     |(rw [jaR,if_neg zI,hlm];first
       |(rw [List.drop_eq_nil_of_le zI];rfl)
       |(rw [hdr];first
         |exact (jcO zO).symm
         |exact E23
         |exact E24
         |exact E41))
  ·refine Z8 ?_;refine D60 ?_;refine Zs ?_
   refine ⟨rfl,congrArg (Value.int .i64) ?_⟩
   first
    |(rw [jaR,if_pos zI];done)
    |(rw [jaR,if_neg zI,hlm];first
      |(rw [List.drop_eq_nil_of_le zI];rfl)
      |(rw [hdr];first
        |exact (jcO zO).symm
        |exact E23
        |exact E24
        |exact E41))
end
end Go.Proofs
namespace Go.Proofs
open Go.Lo
theorem jjg (x:UInt8) (r:Str):jhy (x::r)=jhy r+if x.toNat=63 then 1 else 0:=by
 rw [jhy,List.countP_cons];simp [jhy]
theorem jmX: ∀s:Str,jhy s=((spl 45 s).map jhy).sum
 |[]=>rfl
 |x::r=>by
  have ih:=jmX r
  by_cases hx:x=45
  ·subst hx
   rw [spl,if_pos rfl,jjg,ih];simp [jhy]
  ·obtain ⟨p,q,hpq⟩: ∃p q,spl 45 r=p::q:=by
    cases e:spl 45 r with
    |nil=>exact absurd e (jmW 45 r)
    |cons p q=>exact ⟨p,q,rfl⟩
   rw [spl,if_neg hx,hpq,jjg,ih,hpq];simp only [List.map_cons,List.sum_cons,jjg]
   omega
theorem jg0: ∀(s:Str),∀p∈spl 45 s,∀c∈p,c≠45
 |[],p,h,c,hc=>by
  simp [spl] at h
  subst h
  simp at hc
 |x::r,p,h,c,hc=>by
  by_cases hx:x=45
  ·rw [spl,if_pos hx] at h
   rcases List.mem_cons.1 h with rfl|h
   ·simp at hc
   ·exact jg0 r p h c hc
  ·obtain ⟨p',q,hpq⟩: ∃p q,spl 45 r=p::q:=by
    cases e:spl 45 r with
    |nil=>exact absurd e (jmW 45 r)
    |cons p q=>exact ⟨p,q,rfl⟩
   rw [spl,if_neg hx,hpq] at h
   simp only at h
   rcases List.mem_cons.1 h with rfl|h
   ·rcases List.mem_cons.1 hc with rfl|hc
    ·exact hx
    ·exact jg0 r p' (by rw [hpq];simp) c hc
   ·exact jg0 r p (by rw [hpq];simp [h]) c hc
theorem part_smu {p:Str} (h:jft p k) (hd: ∀c∈p,c≠45):jhy p=if jbZ p= -1 then 1 else 0:=by
 by_cases hq:p=[63]
 ·subst hq
  rw [jbZ,if_pos rfl];rfl
 ·rcases h with e|⟨e1,e2,e3⟩
  ·exact absurd e hq
  ·rw [jbZ,if_neg hq,if_neg zO,jhy,List.countP_eq_zero];intro c hc e
   have h1:=((jl2 hd).1 e1).2.2 c hc
   have h2:=of_decide_eq_true e
   unfold jgh at h1
   omega
theorem jm1: ∀(l:List Str),(∀p∈l,(∃k,jft p k)∧ ∀c∈p,c≠45)→(l.map jbZ).countP (fun x=>decide (x= -1))=(l.map jhy).sum
 |[],_=>rfl
 |p::l,h=>by
  have ih:=jm1 l fun q hq=>h q (by simp [hq])
  obtain ⟨⟨k,hp⟩,hd⟩:=h p zS
  rw [List.map_cons,List.countP_cons,ih,List.map_cons,List.sum_cons,part_smu hp hd,Nat.add_comm];simp
theorem jsz (h:jbx s=true):jhy s=jb0 s:=by
 rw [jbx,Bool.or_eq_true] at h
 rcases h with h|h
 ·have hok:=(jfK s).2 h
  have hv:jal s=(spl 45 s).map jbZ:=by
   have:=jiN s
   rw [jg9,if_pos hok,if_pos h,jmG,List.take_of_length_le (by have:=hok.1;omega),jj7] at this
   exact this.symm
  have hok2:=hok
  rw [okR,jj7] at hok2
  rw [jb0,hv,jm1,jmX];intro p hp
  refine ⟨?_,jg0 s p hp⟩
  obtain ⟨j,hj,e⟩:=List.mem_iff_getElem.1 hp
  have:=hok2.2 j zO
  rw [List.getD_eq_getElem?_getD,List.getElem?_eq_getElem hj] at this
  exact ⟨j,e▸this⟩
 ·obtain rfl:s=jbG:=of_decide_eq_true h
  decide
theorem jnz {n:Nat}: ∀(ls:List Ln) (p:Option Int),jcG n p ls=0→ ∀l∈ls,l.figs.length=n∧ ∀f∈l.figs,jbx f=true
 |[],_,_,l,hl=>by simp at hl
 |x::r,p,h,l,hl=>by
  unfold jcG at h
  split at h
  ·omega
  ·split at h
   ·omega
   ·split at h
    ·omega
    ·split at h
     ·omega
     ·rename_i h3 h4
      rcases List.mem_cons.1 hl with rfl|hl
      ·exact ⟨Decidable.not_not.1 h3,Decidable.not_not.1 h4⟩
      ·exact jnz r _ h l hl
theorem jha (h:jaR n ls=0):ls.length≤2∧ ∀l∈ls,l.figs.length=n∧ ∀f∈l.figs,jbx f=true:=by
 unfold jaR at h
 split at h
 ·omega
 ·exact ⟨by omega,jnz ls _ h⟩
def jlJ (l:Ln):Nat:=(l.figs.map jhy).sum
theorem jlI {l:Ln} (h: ∀f∈l.figs,jbx f=true):jlJ l=jcQ l:=by
 rw [jlJ,jcQ,List.map_congr_left fun f hf=>jsz (h f hf)]
theorem jpB (h:jaR n ls=0):(ls.map jlJ).sum=jb1 ls:=by
 rw [jb1,List.map_congr_left fun l hl=>jlI ((jha h).2 l hl).2]
end Go.Proofs
