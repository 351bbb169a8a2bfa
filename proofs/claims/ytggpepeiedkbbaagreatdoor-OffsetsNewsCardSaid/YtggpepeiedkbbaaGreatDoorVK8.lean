/- A part of the proof of a law. Condition of each theorem: as its statement says. -/
import Derived.Test.YtggpepeiedkbbaaGreatDoorVK7
set_option linter.all false
variable {B:Array Go.Obj} {n q i ns ks nw cw nb cb k mm s qx qm qc must can N qw fid j:Nat} {H h h0 M:Go.Lo.Hp} {b:Go.Lo.Tb} {tv l vs args cs junk:List Go.Value} {ps pw pb p qv:Option Go.Addr} {xs ys ms:List Int} {z v st:Int} {e t ty:Go.TypeId} {f:Nat×Nat} {P:Go.Program} {yv:Go.Value} {YI:List Go.Lo.Bo→Go.Lo.Hp→Prop} {YS:Go.Lo.Hp→Prop} {L:List Go.Lo.Bo}
set_option maxHeartbeats 4000000
set_option maxRecDepth 100000
set_option synthInstance.maxHeartbeats 1000000
set_option synthInstance.maxSize 100000
namespace Go.Proofs
open Go.Lo
open Go.Conc (G)
section
variable [LaidO B]
def jfz (a c:Cd) (n m:Int):Bool:=!riC a c n m
theorem jaX {a c:Cd} {n m:Int} (h:a.st≠c.st):jfz a c n m=false:=by rw [jfz,riC,if_pos h];rfl
theorem jaW {a c:Cd} {n m:Int} (h:a.st=c.st) (hb:a.butt=c.butt):jfz a c n m=decide ((a.lat<c.lat∧m<n)∨(c.lat<a.lat∧n<m)):=by
 rw [jfz,riC,if_neg (fun e=>e h),if_pos hb];have:=jmY (la:=a.lat) (lc:=c.lat) (ma:=n) (mc:=m)
 cases hr:riL a.lat c.lat n m with
 |true=>have:=this.1 hr;exact (decide_eq_false zO).symm
 |false=>exact E34
theorem jaK {a c:Cd} {n m:Int} (h:a.st=c.st) (ha:a.butt=false) (hc:c.butt=true):jfz a c n m=decide ((m<a.lat∧n<c.lat)∨(a.lat<m∧c.lat<n)):=by
 rw [jfz,riC,if_neg (fun e=>e h),if_neg (by rw [ha,hc];simp),if_neg (by rw [ha];simp)];have:=riX_iff (la:=a.lat) (lc:=c.lat) (ma:=n) (mc:=m)
 cases hr:riX a.lat c.lat n m with
 |true=>have:=this.1 hr;exact (decide_eq_false zO).symm
 |false=>exact E34
theorem fall_turn {a c:Cd} {n m:Int}:jfz a c n m=jfz c a m n:=by rw [jfz,jfz,jfp]
section
variable {H H':Hp}
theorem Sheet.latI (s:Sheet B H b q tv) (hi:i<(jaa b).length):Rd B H ⟨q,6+(i:Int).toNat*1,none⟩ (.int .i64 (jd2 b ((jaa b).getD i default)).lat):=by
 rw [gm,Gw,←jaB b hi];exact s.lat i hi
end
theorem rdTb_of (rds:RdS B h 1 (.slice ps ns ks) ns (jaC b.sts)) (hcs:ns≤ks) (rdw:RdLn B h (.slice pw nw cw) nw b.waters) (rdb:RdLn B h (.slice pb nb cb) nb b.butts) (hsm:TbSm b) (k:TbOk b):RdTb B h b ps ns ks pw nw cw pb nb cb:=by
 have hml:b.sts.length=ns:=rds.elen zA
 have h1:=k.n1
 have h3:=k.n3
 have hw:=k.waters.two
 have hb:=k.butts.two
 rw [jbG rdw] at hw
 rw [jbG rdb] at hb
 exact ⟨rds,hcs,rdw,rdb,hsm,by omega,by omega,hw,hb,fun l hl=>⟨hml▸(k.waters.ok l hl).len,(k.waters.ok l hl).fig⟩,fun l hl=>⟨hml▸(k.butts.ok l hl).len,(k.butts.ok l hl).fig⟩⟩
theorem f98_b (m:Md Tryz.prog B) (h:Hp) (s i:Nat) (hs:s<4096) (hi:i<12):FnC m 98 #[.int .u64 (s:Int),.int .i64 (i:Int)] h fun v h'=>h'=h∧IsB (s.testBit i=true) v:=
 CallF.mono (f98_c m h s i hs hi) fun v h' ⟨e1,e2⟩=>⟨e1,by rw [e2];cases s.testBit i;exact .inr ⟨by simp,rfl⟩;exact .inl ⟨rfl,rfl⟩⟩
theorem f176n_c (m:Md Tryz.prog B) (h:Hp) (sh:Sheet B h b q tv) (hi:i<(jaa b).length) (hk:k<(jaa b).length) (mi mk:Int) (hn:(jd2 b ((jaa b).getD i default)).butt=(jd2 b ((jaa b).getD k default)).butt∨(jd2 b ((jaa b).getD i default)).butt=false):FnC m 176 #[.pointer (some ⟨q,0,none⟩),.int .i64 (i:Int),.int .i64 (k:Int),.int .i64 mi,.int .i64 mk] h fun v h'=>h'=h∧v= .bool (jfz (dA (cdT b) i) (dA (cdT b) k) mi mk):=by
 have h12:=sh.twelve
 obtain ⟨pc,cc,hcv,hcc,hcr⟩:=sh.cells
 obtain ⟨pcb,pco,hpc⟩:=hcr.ptr zO
 refine D60 ?_
 intro cf cs K hK
 refine Z5 ?_;refine D29 ?_;refine Z8 ?_;refine D58 ?_;refine D82 ?_;refine D41 ?_;refine D58 ?_;refine D82 ?_;refine D42 ?_
 refine jay rfl zq (fun q11=>jao (jad ?_));refine jay rfl zq (fun q12=>jao (jad ?_));refine D4 ?_;refine D4 ?_;refine Z9 ?_
 refine jaI rfl zq (fun hc=>?_) (fun hc=>?_)
 ·refine Z8 ?_;refine jjh ?_
  refine ⟨rfl,?_⟩
  rw [jaB b hi,jaB b hk];first
   |(rw [jaX zD];done)
   |(rw [jaW zD hbt];exact E35)
   |(rw [jaK zD hbf hbg];exact E35)
 ·refine Z9 ?_
  refine jdS rfl zq zK (fun hbt=>?_) (fun hbt=>?_)
  ·refine Z4 ?_;refine D9 ?_;refine Z10 ?_;refine D66 ?_;refine jaN rfl zq ((sh.latI (i:=k) zO).keeps SubH.sub) ?_
   refine jam rfl zq (fun hc=>?_) (fun hc=>?_)
   ·refine Z3 ?_
    refine jaJ rfl rfl (fun hc=>?_) (fun hc=>?_)
    ·refine Z24 ?_;refine jjh ?_
     refine ⟨rfl,?_⟩
     rw [jaB b hi,jaB b hk];first
      |(rw [jaX zD];done)
      |(rw [jaW zD hbt];exact E35)
      |(rw [jaK zD hbf hbg];exact E35)
    ·refine Z12 ?_;refine D31 ?_;refine D22 ?_
     refine jaJ rfl rfl (fun hc=>?_) (fun hc=>?_)
     ·refine Z3 ?_
      refine jam rfl rfl (fun hc=>?_) (fun hc=>?_);all_goals
       refine Z5 ?_;refine jjh ?_
       refine ⟨rfl,?_⟩
       rw [jaB b hi,jaB b hk];first
        |(rw [jaX zD];done)
        |(rw [jaW zD hbt];exact E35)
        |(rw [jaK zD hbf hbg];exact E35)
     ·refine Z9 ?_;refine jjh ?_
      refine ⟨rfl,?_⟩
      rw [jaB b hi,jaB b hk];first
       |(rw [jaX zD];done)
       |(rw [jaW zD hbt];exact E35)
       |(rw [jaK zD hbf hbg];exact E35)
   ·refine Z16 ?_;refine D31 ?_;refine D22 ?_
    refine jaJ rfl rfl (fun hc=>?_) (fun hc=>?_)
    ·refine Z3 ?_
     refine jam rfl rfl (fun hc=>?_) (fun hc=>?_);all_goals
      refine Z5 ?_;refine jjh ?_
      refine ⟨rfl,?_⟩
      rw [jaB b hi,jaB b hk];first
       |(rw [jaX zD];done)
       |(rw [jaW zD hbt];exact E35)
       |(rw [jaK zD hbf hbg];exact E35)
    ·refine Z9 ?_;refine jjh ?_
     refine ⟨rfl,?_⟩
     rw [jaB b hi,jaB b hk];first
      |(rw [jaX zD];done)
      |(rw [jaW zD hbt];exact E35)
      |(rw [jaK zD hbf hbg];exact E35)
  ·refine Z9 ?_
   refine jcl (fun hc=>?_) (fun hc=>?_)
   ·first|replace hc:=of_decide_eq_true hc|replace hc:=of_decide_eq_false hc|skip
    refine Zs ?_
    exact E37
   ·first|replace hc:=of_decide_eq_true hc|replace hc:=of_decide_eq_false hc|skip
    refine Z3 ?_
    have hbf:(jd2 b ((jaa b).getD i default)).butt=false:=hc
    have hbg:(jd2 b ((jaa b).getD k default)).butt=true:=by cases e:(jd2 b ((jaa b).getD k default)).butt;exact absurd (hbf.trans e.symm) hbt;rfl
    refine rr39 ?_;refine Z6 ?_;refine D66 ?_;refine jam rfl zq (fun hc=>?_) (fun hc=>?_);rotate_left
    refine Z10 ?_
    all_goals
     refine Z7 ?_
    ·refine D31 ?_
     refine jaJ rfl rfl (fun hc=>?_) (fun hc=>?_)
     ·refine Z7 ?_;refine D22 ?_
      refine jaJ rfl rfl (fun hc=>?_) (fun hc=>?_);all_goals
       refine Z5 ?_;refine jjh ?_
       refine ⟨rfl,?_⟩
       rw [jaB b hi,jaB b hk];first
        |(rw [jaX zD];done)
        |(rw [jaW zD hbt];exact E35)
        |(rw [jaK zD hbf hbg];exact E35)
     ·refine Z14 ?_;refine jjh ?_
      refine ⟨rfl,?_⟩
      rw [jaB b hi,jaB b hk];first
       |(rw [jaX zD];done)
       |(rw [jaW zD hbt];exact E35)
       |(rw [jaK zD hbf hbg];exact E35)
    ·refine D22 ?_
     refine jam rfl rfl (fun hc=>?_) (fun hc=>?_)
     ·refine Z24 ?_;refine jjh ?_
      refine ⟨rfl,?_⟩
      rw [jaB b hi,jaB b hk];first
       |(rw [jaX zD];done)
       |(rw [jaW zD hbt];exact E35)
       |(rw [jaK zD hbf hbg];exact E35)
     ·refine Z8 ?_;refine D31 ?_
      refine jaJ rfl rfl (fun hc=>?_) (fun hc=>?_)
      ·refine Z7 ?_;refine D22 ?_
       refine jaJ rfl rfl (fun hc=>?_) (fun hc=>?_);all_goals
        refine Z5 ?_;refine jjh ?_
        refine ⟨rfl,?_⟩
        rw [jaB b hi,jaB b hk];first
         |(rw [jaX zD];done)
         |(rw [jaW zD hbt];exact E35)
         |(rw [jaK zD hbf hbg];exact E35)
      ·refine Z14 ?_;refine jjh ?_
       refine ⟨rfl,?_⟩
       rw [jaB b hi,jaB b hk];first
        |(rw [jaX zD];done)
        |(rw [jaW zD hbt];exact E35)
        |(rw [jaK zD hbf hbg];exact E35)
theorem f176_c (m:Md Tryz.prog B) (h:Hp) (sh:Sheet B h b q tv) (hi:i<(jaa b).length) (hk:k<(jaa b).length) (mi mk:Int):FnC m 176 #[.pointer (some ⟨q,0,none⟩),.int .i64 (i:Int),.int .i64 (k:Int),.int .i64 mi,.int .i64 mk] h fun v h'=>h'=h∧v= .bool (jfz (dA (cdT b) i) (dA (cdT b) k) mi mk):=by
 have h12:=sh.twelve
 obtain ⟨pc,cc,hcv,hcc,hcr⟩:=sh.cells
 obtain ⟨pcb,pco,hpc⟩:=hcr.ptr zO
 refine D60 ?_
 intro cf cs K hK
 refine Z5 ?_;refine D29 ?_;refine Z8 ?_;refine D58 ?_;refine D82 ?_;refine D41 ?_;refine D58 ?_;refine D82 ?_;refine D42 ?_
 refine jay rfl zq (fun q11=>jao (jad ?_));refine jay rfl zq (fun q12=>jao (jad ?_));refine D4 ?_;refine D4 ?_;refine Z9 ?_
 refine jaI rfl zq (fun hc=>?_) (fun hc=>?_)
 ·refine Z8 ?_;refine jjh ?_
  first
   |exact E38
   |(refine ⟨rfl,?_⟩
     rw [jaB b hi,jaB b hk];first
      |(rw [jaX zD];done)
      |(rw [jaW zD hbt];exact E35)
      |(rw [jaK zD hbf hbg];exact E35))
 ·refine Z9 ?_
  refine jdS rfl zq zK (fun hbt=>?_) (fun hbt=>?_)
  ·refine Z4 ?_;refine D9 ?_;refine Z10 ?_;refine D66 ?_;refine jaN rfl zq ((sh.latI (i:=k) zO).keeps SubH.sub) ?_
   refine jam rfl zq (fun hc=>?_) (fun hc=>?_)
   ·refine Z3 ?_
    refine jaJ rfl rfl (fun hc=>?_) (fun hc=>?_)
    ·refine Z24 ?_;refine jjh ?_
     first
      |exact E38
      |(refine ⟨rfl,?_⟩
        rw [jaB b hi,jaB b hk];first
         |(rw [jaX zD];done)
         |(rw [jaW zD hbt];exact E35)
         |(rw [jaK zD hbf hbg];exact E35))
    ·refine Z12 ?_;refine D31 ?_;refine D22 ?_
     refine jaJ rfl rfl (fun hc=>?_) (fun hc=>?_)
     ·refine Z3 ?_
      refine jam rfl rfl (fun hc=>?_) (fun hc=>?_);all_goals
       refine Z5 ?_;refine jjh ?_
       first
        |exact E38
        |(refine ⟨rfl,?_⟩
          rw [jaB b hi,jaB b hk];first
           |(rw [jaX zD];done)
           |(rw [jaW zD hbt];exact E35)
           |(rw [jaK zD hbf hbg];exact E35))
     ·refine Z9 ?_;refine jjh ?_
      first
       |exact E38
       |(refine ⟨rfl,?_⟩
         rw [jaB b hi,jaB b hk];first
          |(rw [jaX zD];done)
          |(rw [jaW zD hbt];exact E35)
          |(rw [jaK zD hbf hbg];exact E35))
   ·refine Z16 ?_;refine D31 ?_;refine D22 ?_
    refine jaJ rfl rfl (fun hc=>?_) (fun hc=>?_)
    ·refine Z3 ?_
     refine jam rfl rfl (fun hc=>?_) (fun hc=>?_);all_goals
      refine Z5 ?_;refine jjh ?_
      first
       |exact E38
       |(refine ⟨rfl,?_⟩
         rw [jaB b hi,jaB b hk];first
          |(rw [jaX zD];done)
          |(rw [jaW zD hbt];exact E35)
          |(rw [jaK zD hbf hbg];exact E35))
    ·refine Z9 ?_;refine jjh ?_
     first
      |exact E38
      |(refine ⟨rfl,?_⟩
        rw [jaB b hi,jaB b hk];first
         |(rw [jaX zD];done)
         |(rw [jaW zD hbt];exact E35)
         |(rw [jaK zD hbf hbg];exact E35))
  ·refine Z9 ?_
   refine jcl (fun hc=>?_) (fun hc=>?_)
   ·first|replace hc:=of_decide_eq_true hc|replace hc:=of_decide_eq_false hc|skip
    refine Zs ?_
    have hab:(jd2 b ((jaa b).getD i default)).butt=true:=hc
    have hkb:(jd2 b ((jaa b).getD k default)).butt=false:=by cases e:(jd2 b ((jaa b).getD k default)).butt;rfl;exact absurd (hab.trans e.symm) hbt
    refine Z6 ?_;refine jaf (Post:=fun v=>v= .bool (jfz (dA (cdT b) k) (dA (cdT b) i) mk mi)) rfl zq zK (fun H' hH=>f176n_c m H' (sh.keeps (sq hH)) hk hi mk mi (.inr hkb)) ?_
    rintro v rfl;refine Z4 ?_;refine jjh ?_
    first
     |exact E38
     |(refine ⟨rfl,?_⟩
       rw [jaB b hi,jaB b hk];first
        |(rw [jaX zD];done)
        |(rw [jaW zD hbt];exact E35)
        |(rw [jaK zD hbf hbg];exact E35))
   ·first|replace hc:=of_decide_eq_true hc|replace hc:=of_decide_eq_false hc|skip
    refine Z3 ?_
    have hbf:(jd2 b ((jaa b).getD i default)).butt=false:=hc
    have hbg:(jd2 b ((jaa b).getD k default)).butt=true:=by cases e:(jd2 b ((jaa b).getD k default)).butt;exact absurd (hbf.trans e.symm) hbt;rfl
    refine rr39 ?_;refine Z6 ?_;refine D66 ?_;refine jam rfl zq (fun hc=>?_) (fun hc=>?_);rotate_left
    refine Z10 ?_
    all_goals
     refine Z7 ?_
    ·refine D31 ?_
     refine jaJ rfl rfl (fun hc=>?_) (fun hc=>?_)
     ·refine Z7 ?_;refine D22 ?_
      refine jaJ rfl rfl (fun hc=>?_) (fun hc=>?_);all_goals
       refine Z5 ?_;refine jjh ?_
       first
        |exact E38
        |(refine ⟨rfl,?_⟩
          rw [jaB b hi,jaB b hk];first
           |(rw [jaX zD];done)
           |(rw [jaW zD hbt];exact E35)
           |(rw [jaK zD hbf hbg];exact E35))
     ·refine Z14 ?_;refine jjh ?_
      first
       |exact E38
       |(refine ⟨rfl,?_⟩
         rw [jaB b hi,jaB b hk];first
          |(rw [jaX zD];done)
          |(rw [jaW zD hbt];exact E35)
          |(rw [jaK zD hbf hbg];exact E35))
    ·refine D22 ?_
     refine jam rfl rfl (fun hc=>?_) (fun hc=>?_)
     ·refine Z24 ?_;refine jjh ?_
      first
       |exact E38
       |(refine ⟨rfl,?_⟩
         rw [jaB b hi,jaB b hk];first
          |(rw [jaX zD];done)
          |(rw [jaW zD hbt];exact E35)
          |(rw [jaK zD hbf hbg];exact E35))
     ·refine Z8 ?_;refine D31 ?_
      refine jaJ rfl rfl (fun hc=>?_) (fun hc=>?_)
      ·refine Z7 ?_;refine D22 ?_
       refine jaJ rfl rfl (fun hc=>?_) (fun hc=>?_);all_goals
        refine Z5 ?_;refine jjh ?_
        first
         |exact E38
         |(refine ⟨rfl,?_⟩
           rw [jaB b hi,jaB b hk];first
            |(rw [jaX zD];done)
            |(rw [jaW zD hbt];exact E35)
            |(rw [jaK zD hbf hbg];exact E35))
      ·refine Z14 ?_;refine jjh ?_
       first
        |exact E38
        |(refine ⟨rfl,?_⟩
          rw [jaB b hi,jaB b hk];first
           |(rw [jaX zD];done)
           |(rw [jaW zD hbt];exact E35)
           |(rw [jaK zD hbf hbg];exact E35))
end
end Go.Proofs
namespace Go.Proofs
open Go.Lo
theorem jgA (n:Nat):(jbq n).length=n:=by simp [jbq]
theorem jgG: ∀xs:List Int,jbn xs xs=false
 |[]=>rfl
 |a::r=>by unfold jbn;rw [if_pos rfl];exact jgG r
theorem jhC: ∀xs ys zs:List Int,jbn xs ys=true→jbn ys zs=true→jbn xs zs=true
 |[],[],_,h,_=>by simp [jbn] at h
 |[],_::_,[],_,h=>by simp [jbn] at h
 |[],_::_,_::_,_,_=>rfl
 |_::_,[],_,h,_=>by simp [jbn] at h
 |_::_,_::_,[],_,h=>by simp [jbn] at h
 |a::r,c::s,d::t,h1,h2=>by
  unfold jbn at h1 h2⊢
  by_cases e1:a=c
  ·by_cases e2:c=d
   ·rw [if_pos e1] at h1
    rw [if_pos e2] at h2
    rw [if_pos (e1.trans e2)];exact jhC r s t h1 h2
   ·rw [if_neg e2] at h2
    rw [if_neg (e1▸e2),e1];exact h2
  ·rw [if_neg e1] at h1
   have h1:=of_decide_eq_true h1
   by_cases e2:c=d
   ·rw [if_neg (e2▸e1),←e2];exact decide_eq_true h1
   ·rw [if_neg e2] at h2
    have h2:=of_decide_eq_true h2
    rw [if_neg zO];exact decide_eq_true zO
theorem jhz (xs:List Int): ¬jdh xs xs:=by
 rintro (h|⟨_,h⟩)
 ·omega
 ·rw [jgG] at h
  cases h
theorem jf1 {zs:List Int} (h1:jdh xs ys) (h2:jdh ys zs):jdh xs zs:=by
 rcases h1 with h1|⟨h1,h1'⟩<;>rcases h2 with h2|⟨h2,h2'⟩
 ·exact .inl zO
 ·exact .inl zO
 ·exact .inl zO
 ·exact .inr ⟨by omega,jhC _ _ _ h1' h2'⟩
theorem jmC: ∀xs ys:List Int,xs=ys∨jbn xs ys=true∨jbn ys xs=true
 |[],[]=> .inl rfl
 |[],_::_=> .inr (.inl rfl)
 |_::_,[]=> .inr (.inr rfl)
 |a::r,c::s=>by
  unfold jbn
  by_cases e:a=c
  ·rw [if_pos e,if_pos e.symm];rcases jmC r s with h|h|h
   ·exact .inl (by rw [e,h])
   ·exact .inr (.inl h)
   ·exact .inr (.inr h)
  ·rw [if_neg e,if_neg (fun x=>e x.symm)];rcases Int.lt_or_gt_of_ne e with h|h
   ·exact .inr (.inl (decide_eq_true h))
   ·exact .inr (.inr (decide_eq_true h))
theorem jou (xs ys:List Int):xs=ys∨jdh xs ys∨jdh ys xs:=by
 unfold jdh
 rcases jmC xs ys with h|h|h
 ·exact .inl h
 ·rcases vR xs.length ys.length with e|e|e
  ·exact .inr (.inl (.inl e))
  ·exact .inr (.inl (.inr ⟨e,h⟩))
  ·exact .inr (.inr (.inl e))
 ·rcases vR xs.length ys.length with e|e|e
  ·exact .inr (.inl (.inl e))
  ·exact .inr (.inr (.inr ⟨e.symm,h⟩))
  ·exact .inr (.inr (.inl e))
theorem jg0 {p:Int→Bool}:z∈(jbq k).filter p↔ ∃i:Nat,i<k∧z=(i:Int)∧p i=true:=by
 rw [ga];unfold jbq
 rw [gR];constructor
 ·rintro ⟨⟨i,hi,rfl⟩,h⟩;exact ⟨i,gT.1 hi,rfl,h⟩
 ·rintro ⟨i,hi,rfl,h⟩;exact ⟨⟨i,gT.2 hi,rfl⟩,h⟩
theorem jpC (h:Asc xs) (p:Int→Bool):Asc (xs.filter p):=List.Pairwise.sublist VH h
theorem jpB (k:Nat):Asc (jbq k):=by
 unfold jbq
 refine Gi.2 ?_
 exact List.Pairwise.imp (fun h=>by omega) vt
theorem jmD (mm k:Nat):Asc (jbZ mm k):=jpC (jpB _) _
theorem jq5 (h:bitN mm k=1):jbZ mm (k+1)=jbZ mm k++[(k:Int)]:=by
 rw [jbZ,jf0,GA,←jbZ,Gt,gm,if_pos (decide_eq_true h)];rfl
theorem keptI_no (h:bitN mm k≠1):jbZ mm (k+1)=jbZ mm k:=by
 rw [jbZ,jf0,GA,←jbZ,Gt,gm,if_neg (by rw [decide_eq_true_iff];exact h)];simp
theorem jkN (mm k:Nat):(jbZ mm k).length≤k:=by
 have:=GX (fun i:Int=>decide (bitN mm i.toNat=1)) (jbq k)
 rw [jgA] at this
 exact this
def jja (p:Nat→Bool):Nat→Nat
 |0=>0
 |n+1=>if p n then 2^n+jja p n else jja p n
theorem ji9 (p:Nat→Bool): ∀n,jja p n<2^n
 |0=>Nat.one_pos
 |n+1=>by
  have:=ji9 p n
  rw [jja,xQ];split<;>omega
theorem jhd (p:Nat→Bool): ∀n i,i<n→(jja p n).testBit i=p i
 |0,i,h=>by omega
 |n+1,i,h=>by
  rw [jja];by_cases e:i=n
  ·subst e
   have h1:=VO (ji9 p i)
   split
   ·rw [Nat.testBit_two_pow_add_eq,h1];rename_i h
    rw [h];rfl
   ·rename_i h
    rw [h1];exact (gY.2 h).symm
  ·have ih:=jhd p n i zO
   split
   ·rw [Nat.testBit_two_pow_add_gt zO];exact ih
   ·exact ih
theorem jc6 (mm i:Nat):bitN mm i=1↔mm.testBit i=true:=by
 rw [Nat.testBit_eq_decide_div_mod_eq];unfold bitN
 simp
theorem jdG:z∈jbZ mm k↔ ∃i:Nat,i<k∧z=(i:Int)∧bitN mm i=1:=by
 unfold jbZ
 rw [jg0];simp
theorem jq4 (ha:Asc xs) (h: ∀x∈xs,0≤x∧x<n): ∃mm,mm<2^n∧xs=jbZ mm n:=by
 refine ⟨jja (fun i=>decide ((i:Int)∈xs)) n,ji9 _ _,Asc.eq ha (jmD _ _) fun z=>?_⟩
 rw [jdG];constructor
 ·intro hz
  have h1:=h z hz
  refine ⟨z.toNat,by omega,by omega,(jc6 _ _).2 ?_⟩
  rw [jhd _ _ _ zO,show ((z.toNat:Nat):Int)=z by omega];exact decide_eq_true hz
 ·rintro ⟨i,hi,rfl,hb⟩;have:=(jc6 _ _).1 hb
  rw [jhd _ _ _ hi] at this
  exact of_decide_eq_true this
theorem jjd (h:Asc ys):ys.Nodup:=List.Pairwise.imp (fun h=>by omega) h
theorem jje (h:Asc xs) (hx: ∀x∈xs,0≤x∧x<n):xs.length≤n:=by
 have:=Gd (l₂:=jbq n) (jjd h) fun z hz=>by
  obtain ⟨h1,h2⟩:=hx z hz
  unfold jbq
  exact gR.2 ⟨z.toNat,gT.2 zO,by omega⟩
 rwa [jgA] at this
end Go.Proofs
namespace Go.Proofs
open Go.Lo
open Go.Conc (G)
section
variable [LaidO B]
def btL (s:Nat) (ms:List Int):List Value:= .int .u64 (s:Int)::jav ms
abbrev btV (s:Nat) (ms:List Int):Value:= .agg (btL s ms).toArray
theorem btL_one (s:Nat) (ms:List Int): ∀u∈btL s ms,u.oneCell'=true:=by
 intro u hu
 rcases gU.1 hu with rfl|hu
 ·rfl
 ·obtain ⟨n,_,rfl⟩:=gR.1 hu
  rfl
instance:Ones (btL s ms):=⟨btL_one s ms⟩
instance:At (btL s ms) 0 (.int .u64 (s:Int)):=⟨rfl⟩
theorem bt_at {e:Nat} {rw:Bool} [x:Has h q rw (.cells (btL s ms).toArray e f)] (i:Nat) (hi:i<ms.length):Rd B h ⟨q,1+(i:Int).toNat*1,none⟩ (.int .i64 (ms.getD i 0)):=by
 refine Rd.held x.mem ?_
 rw [show 1+(i:Int).toNat*1=i+1 by omega,gd,btL,vQ,gX,gD hi,gC,gD hi];rfl
theorem jrl {p:Bool} {v:Value} (h:v= .bool p):IsB (p=true) v:=by
 rw [h];cases p
 exact .inr ⟨by simp,rfl⟩
 exact .inl ⟨rfl,rfl⟩
def fitsN (D:List Cd) (s:Nat) (ms:List Int) (i k:Nat):Prop:= ∀j,j<k→s.testBit j=false→riC (dA D j) (dA D i) (ms.getD j 0) (ms.getD i 0)=true
theorem f156_c (m:Md Tryz.prog B) (h:Hp) (s:Nat) (hs:s<4096):FnC m 156 #[.int .u64 (s:Int)] h fun v h'=> ∃new,h'=h++new∧OwnS 3 1 v (jbZ s 12).length (jav (jbZ s 12)) new:=by
 refine jae Tryz.func156 rfl rfl (l:=(.int .u64 (s:Int))::uu16) rfl ?_
 intro cf cs K hK
 refine Z14 ?_
 refine jag (fun nn l h'=> ∃(k:Nat) (wp:Option Addr) (wc:Nat) (M:Hp),nn=12-k∧(k≤12)∧(OwnS 3 1 (.slice wp (jbZ s k).length wc) (jbZ s k).length (jav (jbZ s k)) M)∧(∃U:Nat→Value,l=((.int .u64 (s:Int))::(U 1)::(U 2)::(.slice wp (jbZ s k).length wc)::(U 4)::(.int .i64 (k:Int))::vw11 U 6 []))∧h++M=h') _ ⟨0,none,0,[],rfl,by omega,OwnS.nil,exU rfl,zS⟩ ?_;rintro nn l h' ⟨k,wp,wc,M,rfl,hk,how,⟨U,rfl⟩,rfl⟩ hnext;have hkl:=jkN s k
 refine Z2 ?_
 refine jam rfl zq (fun hc=>?_) (fun hc=>?_);refine Z6 ?_
 rotate_left
 refine Z4 ?_
 all_goals
  refine Z5 ?_
 ·refine Zs ?_;refine jac (h++M) rfl Tryz.func156 rfl jab ?_;refine Zs ?_
  obtain rfl:k=12:=by omega
  exact ⟨M,rfl,how⟩
 ·refine Z4 ?_;refine jaf (Post:=fun v=>IsB _ v) rfl zq zK (fun H' hH=>f98_b m H' s k hs zO) ?_
  rintro v (⟨hc,rfl⟩|⟨hc,rfl⟩);refine Z6 ?_
  refine jb7 kdq rfl zq zA zA rfl (fun q13=>jao (jad ?_));refine ja6 rfl zq rfl how kdq zO zO (fun w9 n9 o9=>jad ?_);obtain ⟨p9,c9,rfl,hc9,r9⟩:=jas (B:=B) o9
  refine Z2 ?_
  rotate_left
  refine Z4 ?_
  all_goals
   refine Z5 ?_
  ·have hks:=keptI_no (mm:=s) (k:=k) (fun e=>hc ((jc6 s k).1 e))
   rw [←hks];exact E7
  ·have hks:=jq5 (mm:=s) (k:=k) ((jc6 s k).2 hc)
   have hkl1:(jbZ s (k+1)).length=(jbZ s k).length+1:=by rw [hks];simp
   rw [←hkl1];exact m.weak jab (hnext _ _ _ zO ⟨k+1,p9,c9,n9,rfl,by omega,by rw [hkl1,hks,jbo];exact o9,exU rfl,rfl⟩)
theorem f139_c (m:Md Tryz.prog B) (h:Hp) (sh:Sheet B h b q tv) (hi:i<(jaa b).length) (s:Nat) (hs:s<4096) (hm:ms.length=12):FnC m 139 #[.pointer (some ⟨q,0,none⟩),btV s ms,.int .i64 (i:Int)] h fun v h'=>h'=h∧IsB (fitsN (cdT b) s ms i i) v:=by
 have h12:=sh.twelve
 refine jae Tryz.func139 rfl rfl (l:=(.pointer (some ⟨q,0,none⟩))::(btV s ms)::(.int .i64 (i:Int))::uu29) rfl ?_
 intro cf cs K hK
 refine Z2 ?_
 refine jaA rfl zq (fun q4=>jao (jad ?_));refine Z9 ?_
 refine jag (fun nn l h'=> ∃(k:Nat),nn=i-k∧(k≤i)∧(fitsN (cdT b) s ms i k)∧(∃U:Nat→Value,l=((.pointer (some ⟨q,0,none⟩))::(btV s ms)::(.int .i64 (i:Int))::(U 3)::(.pointer (some ⟨q4,0,none⟩))::(U 5)::(U 6)::(U 7)::(.int .i64 (i:Int))::(.int .i64 (k:Int))::vw22 U 10 []))∧h++[⟨true,q4,.cells (btL s ms).toArray 136 (0,0)⟩]=h') _ ⟨0,rfl,by omega,fun j hj=>absurd hj zO,exU rfl,rfl⟩ ?_;rintro nn l h' ⟨k,rfl,hk,hno,⟨U,rfl⟩,rfl⟩ hnext;refine Z2 ?_
 refine jam rfl zq (fun hc=>?_) (fun hc=>?_)
 ·refine Z12 ?_;refine jaq [Zp 0,Zp 2,Zr 1,Zk 3,Zp 4,Zp 5,Zp 6,Zp 7,Zp 8,Zp 9,Zp 10,Zp 11,Zp 13,Zp 14,Zp 15,Zr 12,Zr 16,Zk 17,Zp 18] zK zK (gE _) ?_;refine Z3 ?_;refine jaf (Post:=fun v=>IsB _ v) rfl zq zK (fun H' hH=>f98_b m H' s k hs zO) ?_
  rintro v (⟨hc,rfl⟩|⟨hc,rfl⟩)
  ·refine Zs ?_
   have hbt:s.testBit k=true:=hc
   refine Z23 ?_
   exact m.weak jab (hnext _ _ _ zO ⟨k+1,rfl,by omega,fun j hj hb=>by
    by_cases e:j<k
    ·exact hno j e hb
    ·obtain rfl:j=k:=by omega
     first|(rw [hc] at hb;cases hb;done)|(rw [hbt] at hb;cases hb;done)|(have hf:=hc;rw [jfz] at hf;simpa using hf),exU rfl,rfl⟩)
  ·refine Zs ?_
   have hbf:s.testBit k=false:=by simpa using hc
   refine Z11 ?_;refine jaN rfl rfl (bt_at k zO) ?_;refine jaN rfl rfl (bt_at i zO) ?_;refine jaf (Post:=fun v=>IsB _ v) rfl rfl zK (fun H' hH=>CallF.mono (f176_c m H' (sh.keeps (sq hH)) (i:=k) (k:=i) zO hi (ms.getD k 0) (ms.getD i 0)) fun v h' ⟨e1,e2⟩=>⟨e1,jrl e2⟩) ?_
   rintro v (⟨hc,rfl⟩|⟨hc,rfl⟩)
   ·refine Z9 ?_;refine jac (h) rfl Tryz.func139 rfl jab ?_;refine Zs ?_
    refine ⟨rfl,IsB.no fun e=>?_⟩
    have:=e k zO hbf
    rw [jfz,this] at hc
    cases hc
   ·refine Z10 ?_
    exact m.weak jab (hnext _ _ _ zO ⟨k+1,rfl,by omega,fun j hj hb=>by
     by_cases e:j<k
     ·exact hno j e hb
     ·obtain rfl:j=k:=by omega
      first|(rw [hc] at hb;cases hb;done)|(rw [hbt] at hb;cases hb;done)|(have hf:=hc;rw [jfz] at hf;simpa using hf),exU rfl,rfl⟩)
 ·refine Z9 ?_;refine jac (h) rfl Tryz.func139 rfl jab ?_;refine Zs ?_
  obtain rfl:k=i:=by omega
  exact ⟨rfl,IsB.yes hno⟩
end
section
variable [LaidO B]
theorem jpD {D:List Cd} {x:Bo} {d:Cd} (h:x.length≤D.length):jaG d v D x=jaG d v (D.take x.length) x:=by
 have hl:x.length=(D.take x.length).length:=by rw [GO];omega
 have:=jdy (d:=d) (v:=v) (C:=D.drop x.length) hl
 rwa [vA] at this
theorem jj1 {D:List Cd} {x:Bo} (h:x.length<D.length) (h12:D.length≤12):fitsN D (jcL (x++[some v])) (jn6 (x++[some v])) x.length x.length↔jaG (dA D x.length) v D x=true:=by
 have hl:x.length=(D.take x.length).length:=by rw [GO];omega
 rw [jpD zO,jcX hl];have hv:(jn6 (x++[some v])).getD x.length 0=v:=by
  rw [jfU zO,xA,gC];simp
 have hj: ∀j,j<x.length→(jn6 (x++[some v])).getD j 0=(xA x j).getD 0:=fun j hj=>by
  rw [jfU zO,xA,xA,gC,gb hj,gC]
 have hd: ∀j,j<x.length→dA (D.take x.length) j=dA D j:=fun j hj=>by
  rw [dA,dA,gC,vC,if_pos hj,gC]
 have hb: ∀j,j<x.length→((jcL (x++[some v])).testBit j=false↔ ∃u,xA x j=some u):=fun j hj=>by
  rw [jka,jdJ];cases hx:xA x j with
  |none=>simp [hj]
  |some u=>simp
 constructor
 ·intro hh j u hu
  have hjl:j<x.length:=gt fun e=>by
   rw [xA,gC,gh zO] at hu
   cases hu
  have:=hh j hjl ((hb j hjl).2 ⟨u,hu⟩)
  rw [hv,hj j hjl,hu] at this
  rw [hd j hjl,jfp];exact this
 ·intro hh j hjl hbj
  obtain ⟨u,hu⟩:=(hb j hjl).1 hbj
  have:=hh j u hu
  rw [hd j hjl,jfp] at this
  rw [hv,hj j hjl,hu];exact this
theorem jkL (s:Str):(jdN s).length≤960:=by
 rw [jdN];split
 ·rw [jjV,gN];have:=GX (jfZ (jan s)) (List.range 960)
  rwa [Vs] at this
 ·simp
theorem can_960 (b:Tb) (hi:i<(jaa b).length):(dA (cdT b) i).can.length≤960:=by
 rw [jaB b hi];exact jkL _
theorem bo_some {x:Bo} (h:x.length<12):SetSeg (boL x) (1+(x.length:Int).toNat*1) [.int .i64 v] (boL (x++[some v])):=by
 refine jdv (by rw [jaP];omega) ?_
 rw [boL,boL,jka,jqH h,show 1+(x.length:Int).toNat*1=x.length+1 by omega,List.set_cons_succ,vf]
theorem jr2 {x:Bo} (h:x.length<12):SetSeg (boL x) 0 [.int .u64 ((jcL x|||2^x.length:Nat):Int)] (boL (x++[none])):=by
 refine jdv (by rw [jaP];omega) ?_
 rw [boL,boL,jpz,jqI h,List.set_cons_zero]
instance {x:Bo}:Ones (boL x):=⟨jr3 x⟩
instance {x:Bo}:LenIs (boL x) 13:=⟨jaP x⟩
instance {x:Bo}:At (boL x) 0 (.int .u64 (jcL x:Int)):=⟨rfl⟩
theorem seg_all (h:l.length=n):Seg l 0 n l:=⟨by rw [xf];exact gq zO,h⟩
instance {x:Bo}:Seg (boL x) 0 13 (boL x):=seg_all (jaP x)
theorem jjI {r:List Value} (h:l.length=r.length):SetSeg l 0 r r:=⟨by rw [gP zO];simp,by omega⟩
instance {v1 v2 v3 v4 v5 v6 v7 v8 v9 v10 v11 v12 v13:Value} {x:Bo}:SetSeg [v1,v2,v3,v4,v5,v6,v7,v8,v9,v10,v11,v12,v13] 0 (boL x) (boL x):=jjI (by rw [jaP];rfl)
theorem CallV.fn' {m:Md P B} {f:FuncId} {first cap vs:Array Value} {Post:Value→Hp→Prop} (hf:jcd P f=true) (e:first++args.toArray++cap=vs) (c:FnC m f vs h Post):CallV m (.func (.func f) first cap) args h Post:=CallV.fn hf (e▸c)
theorem jhY:jcd Tryz.prog 180=true:=by kernel_rfl
def EachO {P:Program} {B:Array Obj} (m:Md P B) (h0:Hp) (G:List Bo) (N:Nat) (yv:Value) (YI:List Bo→Hp→Prop) (YS:Hp→Prop):Prop:=
 ∀(F R:Hp) (dn:List Bo) (x:Bo),h0.Sublist F→x∈G→dn.length<N→YI dn R→CallV m yv [boV x] (F++R) fun v h'=> ∃R',h'=F++R'∧((v= .bool true∧YI (dn++[x]) R')∨(v= .bool false∧YS R'))
theorem f180_c (m:Md Tryz.prog B) (sh:Sheet B h0 b q tv) (rx:Rd B h0 ⟨qx,0,none⟩ (.pointer (some ⟨q,0,none⟩))) (rm:Rd B h0 ⟨qm,0,none⟩ (.int .u64 (must:Int))) (rc:Rd B h0 ⟨qc,0,none⟩ (.int .u64 (can:Int))) (hmu:must<4096) (hca:can<4096) [CellsV yv [yv]] {G:List Bo} (hY:EachO m h0 G N yv YI YS) (qy qn:Nat):
  ∀(d w:Nat) (x:Bo) (dn:List Bo) (X R:Hp),x.length+d=(jaa b).length→w≤100→(∀y∈jdT (cdT b) can must d w x,y∈G)→dn.length+(jdT (cdT b) can must d w x).length≤N→YI dn R→
   FnC m 180 #[boV x,.int .i64 (x.length:Int),.int .i64 (w:Int),.pointer (some ⟨qx,0,none⟩),.pointer (some ⟨qy,0,none⟩),.pointer (some ⟨qm,0,none⟩),.pointer (some ⟨qn,0,none⟩),.pointer (some ⟨qc,0,none⟩)] (((h0++[⟨true,qy,.cells [yv].toArray 220 (0,0)⟩,⟨true,qn,.cells [.func (.func 180) #[] [.pointer (some ⟨qx,0,none⟩),.pointer (some ⟨qy,0,none⟩),.pointer (some ⟨qm,0,none⟩),.pointer (some ⟨qn,0,none⟩),.pointer (some ⟨qc,0,none⟩)].toArray].toArray 221 (0,0)⟩])++X)++R) fun v h'=> ∃R',h'=((h0++[⟨true,qy,.cells [yv].toArray 220 (0,0)⟩,⟨true,qn,.cells [.func (.func 180) #[] [.pointer (some ⟨qx,0,none⟩),.pointer (some ⟨qy,0,none⟩),.pointer (some ⟨qm,0,none⟩),.pointer (some ⟨qn,0,none⟩),.pointer (some ⟨qc,0,none⟩)].toArray].toArray 221 (0,0)⟩])++X)++R'∧((v= .bool true∧YI (dn++jdT (cdT b) can must d w x) R')∨(v= .bool false∧YS R')):=by
 intro d
 induction d using Nat.strongRecOn
 rename_i d ih
 intro w x dn X R hid hw hok hdn hR
 have h12:=sh.twelve
 obtain ⟨pc,cc0,hcv,hcc,hcr0⟩:=sh.cells
 refine jae Tryz.func180 rfl rfl (l:=(boV x)::(.int .i64 (x.length:Int))::(.int .i64 (w:Int))::(.pointer (some ⟨qx,0,none⟩))::(.pointer (some ⟨qy,0,none⟩))::(.pointer (some ⟨qm,0,none⟩))::(.pointer (some ⟨qn,0,none⟩))::(.pointer (some ⟨qc,0,none⟩))::uu71) rfl ?_
 intro cf cs K hK
 refine Z2 ?_
 refine jaA rfl zq (fun q8=>jl4 (Weak.mid ((h0++[⟨true,qy,.cells [yv].toArray 220 (0,0)⟩,⟨true,qn,.cells [.func (.func 180) #[] [.pointer (some ⟨qx,0,none⟩),.pointer (some ⟨qy,0,none⟩),.pointer (some ⟨qm,0,none⟩),.pointer (some ⟨qn,0,none⟩),.pointer (some ⟨qc,0,none⟩)].toArray].toArray 221 (0,0)⟩])++X) R _) (jad ?_));refine Z6 ?_;refine D100 ?_;refine Z2 ?_;refine D58 ?_;refine Zs ?_
 refine jaE rfl zq (fun hc=>?_) (fun hc=>?_)
 ·obtain rfl:d=0:=by omega
  have hgn:jdT (cdT b) can must 0 w x=[x]:=rfl
  rw [hgn] at hdn hok
  refine Z6 ?_
  have hcv2:=hY (((h0++[⟨true,qy,.cells [yv].toArray 220 (0,0)⟩,⟨true,qn,.cells [.func (.func 180) #[] [.pointer (some ⟨qx,0,none⟩),.pointer (some ⟨qy,0,none⟩),.pointer (some ⟨qm,0,none⟩),.pointer (some ⟨qn,0,none⟩),.pointer (some ⟨qc,0,none⟩)].toArray].toArray 221 (0,0)⟩])++X)++[⟨true,q8,.cells (boL x).toArray 136 (0,0)⟩]) R dn x zS (hok x zS) (by simp at hdn;omega) hR
  refine jg5 rfl zq hcv2 ?_;rintro v h' ⟨R2,rfl,hh⟩;refine Z4 ?_;refine D7 ?_;refine Zs ?_
  exact ⟨R2,rfl,by rw [hgn];exact hh⟩
 ·obtain ⟨d1,rfl⟩: ∃d1,d=d1+1:=⟨d-1,by omega⟩
  have hxl:x.length<(jaa b).length:=by omega
  have hx12:x.length<12:=by omega
  have hbs:=jcW (x:=x) zO
  refine Z6 ?_;refine jaN rfl zq (rm.keeps SubH.sub) ?_;refine Zs ?_;refine jaf (Post:=fun v=>IsB _ v) rfl zq zK (fun H' hH=>f98_b m H' must x.length hmu hx12) ?_
  rintro v (⟨hc,rfl⟩|⟨hc,rfl⟩)
  ·refine Zs ?_
   have hmb:must.testBit x.length=true:=hc
   have hgm:=jiP (D:=cdT b) (can:=can) (f:=d1) (w:=w) hmb
   refine Z6 ?_
   first
    |have hpre: ∃pre,jdT (cdT b) can must (d1+1) w x=pre++(if w=0∨can.testBit x.length=false then [] else jdT (cdT b) can must d1 (w-1) (x++[none]))∧YI (dn++pre) R1:=⟨_,hgf j zO,hR1⟩
    |have hpre: ∃pre,jdT (cdT b) can must (d1+1) w x=pre++(if w=0∨can.testBit x.length=false then [] else jdT (cdT b) can must d1 (w-1) (x++[none]))∧YI (dn++pre) R:=⟨[],hgm,by rw [ge];exact hR⟩
   obtain ⟨pre,hgp,hRp⟩:=hpre
   refine Z2 ?_
   refine jaE rfl zq (fun hc=>?_) (fun hc=>?_)
   ·refine Z13 ?_;refine D18 ?_;refine Zs ?_
    exact E39
   ·refine Zs ?_;refine jaN rfl rfl (rc.keeps SubH.sub) ?_;refine Zs ?_;refine jaf (Post:=fun v=>IsB _ v) rfl rfl zK (fun H' hH=>f98_b m H' can x.length hca hx12) ?_
    rintro v (⟨hc,rfl⟩|⟨hc,rfl⟩)
    ·refine D115 ?_;refine Z9 ?_;refine D69 ?_
     rintro v rfl;refine Z2 ?_
     haveI hsn:=jr2 (x:=x) hx12
     refine D19 ?_;refine Z9 ?_
     have hw1:w≠0:=by omega
     have hcb:can.testBit x.length=true:=by assumption
     have hgg:(if w=0∨can.testBit x.length=false then [] else jdT (cdT b) can must d1 (w-1) (x++[none]))=jdT (cdT b) can must d1 (w-1) (x++[none]):=if_neg (by rw [hcb];simp;exact hw1)
     have hrec:=ih d1 zO (w-1) (x++[none]) (dn++pre) (X++[⟨true,q8,.cells (boL (x++[none])).toArray 136 (0,0)⟩]) _ zN zO (fun y hy=>hok y (by
      rw [hgp,hgg];exact GH _ hy)) (by
      rw [hgp,hgg,gH] at hdn
      rw [gH];omega) hRp
     rw [show (((x++[none]:Bo).length:Nat):Int)=(x.length:Int)+1 by simp,show ((w-1:Nat):Int)=(w:Int)-1 by omega,←gI (h0++_) X] at hrec
     have hcv2:=CallV.fn' (first:= #[]) (args:=[boV (x++[none]),.int .i64 ((x.length:Int)+1),.int .i64 ((w:Int)-1)]) (cap:=[Value.pointer (some ⟨qx,0,none⟩),Value.pointer (some ⟨qy,0,none⟩),Value.pointer (some ⟨qm,0,none⟩),Value.pointer (some ⟨qn,0,none⟩),Value.pointer (some ⟨qc,0,none⟩)].toArray) jhY zS hrec
     refine jg5 rfl zq hcv2 ?_;clear hcv2 hrec
     rintro v h' ⟨R2,rfl,hh⟩;refine Z4 ?_;refine D7 ?_;refine Zs ?_
     exact ⟨R2,rfl,by rw [hgp,hgg,←gI];exact hh⟩
    ·refine Zs ?_;refine jhw rfl rfl ?_;refine Z8 ?_;refine D18 ?_;refine Zs ?_
     exact E39
  ·refine Zs ?_
   have hmb:must.testBit x.length=false:=by simpa using hc
   have hgf:=fun j=>jrv (D:=cdT b) (can:=can) (f:=d1) (w:=w) (j:=j) hmb
   obtain ⟨cp,cc,hcan,hccl,hcr⟩:=sh.can x.length hxl
   have h960:=can_960 b hxl
   have hcan2:Rd B h0 ⟨q,18+(x.length:Int).toNat*1,none⟩ (.slice cp (dA (cdT b) x.length).can.length cc):=by rw [gm,Gw];exact hcan
   refine Z5 ?_;refine D100 ?_;refine Z4 ?_;refine jaN rfl zq (hcan2.keeps SubH.sub) ?_;refine Z4 ?_
   refine jag (fun nn l h'=> ∃(j:Nat) (R1:Hp),nn=(dA (cdT b) x.length).can.length-j∧(j≤(dA (cdT b) x.length).can.length)∧(YI (dn++jgy (cdT b) can must d1 w x j) R1)∧(∃U:Nat→Value,l=((boV x)::(.int .i64 (x.length:Int))::(.int .i64 (w:Int))::(.pointer (some ⟨qx,0,none⟩))::(.pointer (some ⟨qy,0,none⟩))::(.pointer (some ⟨qm,0,none⟩))::(.pointer (some ⟨qn,0,none⟩))::(.pointer (some ⟨qc,0,none⟩))::(.pointer (some ⟨q8,0,none⟩))::vw25 U 9 ((.slice cp (dA (cdT b) x.length).can.length cc)::(.int .i64 ((dA (cdT b) x.length).can.length:Int))::(.int .i64 (j:Int))::vw42 U 37 [])))∧(((h0++[⟨true,qy,.cells [yv].toArray 220 (0,0)⟩,⟨true,qn,.cells [.func (.func 180) #[] [.pointer (some ⟨qx,0,none⟩),.pointer (some ⟨qy,0,none⟩),.pointer (some ⟨qm,0,none⟩),.pointer (some ⟨qn,0,none⟩),.pointer (some ⟨qc,0,none⟩)].toArray].toArray 221 (0,0)⟩])++X)++[⟨true,q8,.cells (boL x).toArray 136 (0,0)⟩])++R1=h') _ ⟨0,R,rfl,by omega,by rw [jpp,ge];exact hR,exU rfl,rfl⟩ ?_;rintro nn l h' ⟨j,R1,rfl,hj,hR1,⟨U,rfl⟩,rfl⟩ hnext1;refine Z2 ?_
   refine jam rfl zq (fun hc=>?_) (fun hc=>?_)
   ·refine Z7 ?_
    obtain ⟨cpb,cpo,hcp⟩:=hcr.ptr zO
    have hcr':=hcr
    rw [hcp] at hcr'
    refine Zs ?_;refine jaL rfl zq hcp zO zO ?_;refine jaN rfl zq (hcr'.iat j zO zO) ?_;refine Z5 ?_
    refine jay rfl zq (fun q14=>jl4 (Weak.mid (((h0++[⟨true,qy,.cells [yv].toArray 220 (0,0)⟩,⟨true,qn,.cells [.func (.func 180) #[] [.pointer (some ⟨qx,0,none⟩),.pointer (some ⟨qy,0,none⟩),.pointer (some ⟨qm,0,none⟩),.pointer (some ⟨qn,0,none⟩),.pointer (some ⟨qc,0,none⟩)].toArray].toArray 221 (0,0)⟩])++X)++[⟨true,q8,.cells (boL x).toArray 136 (0,0)⟩]) R1 _) (jad ?_));refine jl5 rfl zq (jaP x) ?_;refine Z7 ?_;haveI hss:=bo_some (x:=x) (v:=((dA (cdT b) x.length).can.getD j 0)) hx12
    refine D19 ?_;refine Z2 ?_;refine rr13 ?_;refine D100 ?_;refine Z2 ?_;refine jaf (Post:=fun v=>IsB _ v) rfl zq zK (fun H' hH=>f139_c m H' (sh.keeps (sq hH)) hxl (jcL (x++[some ((dA (cdT b) x.length).can.getD j 0)])) (jcW zN) (ms:=jn6 (x++[some ((dA (cdT b) x.length).can.getD j 0)])) (jbO _)) ?_
    rintro v (⟨hc,rfl⟩|⟨hc,rfl⟩)
    ·refine Zs ?_
     have hag:=(jj1 (by rw [jau];exact hxl) (by rw [jau];exact h12)).1 hc
     have hgs:=jrw (D:=cdT b) (can:=can) (must:=must) (f:=d1) (w:=w) (j:=j) zO hag
     refine Z2 ?_;refine jhI rfl rfl ?_;refine Zs ?_;refine k_add rfl rfl (by unfold jeg;omega) ?_;refine Zs ?_
     have hle:=genMJ_le (D:=cdT b) (can:=can) (f:=d1) (w:=w) (j:=j+1) hmb
     have hgfl:=hgf _ (gM _)
     have hrec:=ih d1 zO w (x++[some ((dA (cdT b) x.length).can.getD j 0)]) (dn++jgy (cdT b) can must d1 w x j) (X++([⟨true,q8,.cells (boL x).toArray 136 (0,0)⟩]++[⟨true,q14,.cells (boL (x++[some ((dA (cdT b) x.length).can.getD j 0)])).toArray 136 (0,0)⟩])) R1 zN hw (fun y hy=>hok y (by
      rw [hgfl];refine GT _ ?_
      rw [jj0 (gM _)];refine vn.2 ⟨_,ga.2 ⟨?_,hag⟩,hy⟩
      rw [gC,gD zO];exact vF _)) (by
      rw [hgs,gH] at hle
      rw [gH];omega) hR1
     rw [show (((x++[some ((dA (cdT b) x.length).can.getD j 0)]).length:Nat):Int)=(x.length:Int)+1 by simp,←gI (h0++_) X,←gI (_++X) _ _] at hrec
     have hcv2:=CallV.fn' (first:= #[]) (args:=[boV (x++[some ((dA (cdT b) x.length).can.getD j 0)]),.int .i64 ((x.length:Int)+1),.int .i64 (w:Int)]) (cap:=[Value.pointer (some ⟨qx,0,none⟩),Value.pointer (some ⟨qy,0,none⟩),Value.pointer (some ⟨qm,0,none⟩),Value.pointer (some ⟨qn,0,none⟩),Value.pointer (some ⟨qc,0,none⟩)].toArray) jhY zS hrec
     refine jg5 rfl rfl hcv2 ?_;clear hcv2 hrec
     rintro v h' ⟨R2,rfl,(⟨rfl,hR2⟩|⟨rfl,hR2⟩)⟩
     ·refine D115 ?_;refine Z9 ?_
      exact m.weak jab (hnext1 _ _ _ zO ⟨j+1,R2,rfl,by omega,by rw [hgs,←gI];exact hR2,exU rfl,rfl⟩)
     ·refine Zs ?_;refine jhw rfl rfl ?_;refine Z8 ?_;refine D7 ?_;refine Zs ?_
      exact ⟨R2,rfl,.inr ⟨rfl,hR2⟩⟩
    ·refine Zs ?_
     have hag:jaG (dA (cdT b) x.length) ((dA (cdT b) x.length).can.getD j 0) (cdT b) x=false:=by
      cases e:jaG (dA (cdT b) x.length) ((dA (cdT b) x.length).can.getD j 0) (cdT b) x with
      |false=>rfl
      |true=>exact absurd ((jj1 (by rw [jau];exact hxl) (by rw [jau];exact h12)).2 e) hc
     have hgs:=genMJ_no (D:=cdT b) (can:=can) (must:=must) (f:=d1) (w:=w) (j:=j) zO hag
     refine Z17 ?_
     exact m.weak jab (hnext1 _ _ _ zO ⟨j+1,R1,rfl,by omega,by rw [hgs];exact hR1,exU rfl,rfl⟩)
   ·refine Z6 ?_
    first
     |have hpre: ∃pre,jdT (cdT b) can must (d1+1) w x=pre++(if w=0∨can.testBit x.length=false then [] else jdT (cdT b) can must d1 (w-1) (x++[none]))∧YI (dn++pre) R1:=⟨_,hgf j zO,hR1⟩
     |have hpre: ∃pre,jdT (cdT b) can must (d1+1) w x=pre++(if w=0∨can.testBit x.length=false then [] else jdT (cdT b) can must d1 (w-1) (x++[none]))∧YI (dn++pre) R:=⟨[],hgm,by rw [ge];exact hR⟩
    obtain ⟨pre,hgp,hRp⟩:=hpre
    refine Z2 ?_
    refine jaE rfl zq (fun hc=>?_) (fun hc=>?_)
    ·refine Z13 ?_;refine D17 ?_;refine Zs ?_
     exact E39
    ·refine Zs ?_;refine jaN rfl rfl (rc.keeps SubH.sub) ?_;refine Zs ?_;refine jaf (Post:=fun v=>IsB _ v) rfl rfl zK (fun H' hH=>f98_b m H' can x.length hca hx12) ?_
     rintro v (⟨hc,rfl⟩|⟨hc,rfl⟩)
     ·refine D115 ?_;refine Z9 ?_;refine D69 ?_
      rintro v rfl;refine Z2 ?_
      haveI hsn:=jr2 (x:=x) hx12
      refine D19 ?_;refine Z9 ?_
      have hw1:w≠0:=by omega
      have hcb:can.testBit x.length=true:=by assumption
      have hgg:(if w=0∨can.testBit x.length=false then [] else jdT (cdT b) can must d1 (w-1) (x++[none]))=jdT (cdT b) can must d1 (w-1) (x++[none]):=if_neg (by rw [hcb];simp;exact hw1)
      have hrec:=ih d1 zO (w-1) (x++[none]) (dn++pre) (X++[⟨true,q8,.cells (boL (x++[none])).toArray 136 (0,0)⟩]) _ zN zO (fun y hy=>hok y (by
       rw [hgp,hgg];exact GH _ hy)) (by
       rw [hgp,hgg,gH] at hdn
       rw [gH];omega) hRp
      rw [show (((x++[none]:Bo).length:Nat):Int)=(x.length:Int)+1 by simp,show ((w-1:Nat):Int)=(w:Int)-1 by omega,←gI (h0++_) X] at hrec
      have hcv2:=CallV.fn' (first:= #[]) (args:=[boV (x++[none]),.int .i64 ((x.length:Int)+1),.int .i64 ((w:Int)-1)]) (cap:=[Value.pointer (some ⟨qx,0,none⟩),Value.pointer (some ⟨qy,0,none⟩),Value.pointer (some ⟨qm,0,none⟩),Value.pointer (some ⟨qn,0,none⟩),Value.pointer (some ⟨qc,0,none⟩)].toArray) jhY zS hrec
      refine jg5 rfl zq hcv2 ?_;clear hcv2 hrec
      rintro v h' ⟨R2,rfl,hh⟩;refine Z4 ?_;refine D7 ?_;refine Zs ?_
      exact ⟨R2,rfl,by rw [hgp,hgg,←gI];exact hh⟩
     ·refine Zs ?_;refine jhw rfl rfl ?_;refine Z8 ?_;refine D17 ?_;refine Zs ?_
      exact E39
end
section
variable [LaidO B]
theorem jf8 {h' F1 L:Hp} [a:Off h' L F1] [s:SubH H F1]:Weak B h' (H++L):=(Weak.perm a.perm).trans ((Weak.sub s.sub).apps L)
theorem weak_beg (F nw:Hp) (a b c d:Chunk):Weak B ((F++[a,b])++c::(nw++[d])) (F++[a,b,c,d]++nw):=Weak.perm (by
 rw [gI,gI];refine Gz F ?_
 show (a::b::c::(nw++[d])).Perm (a::b::c::d::nw)
 exact .cons _ (.cons _ (.cons _ (vO (l₁:=nw) (l₂:=[d])))))
theorem weak179 (h0 R:Hp) (y n:Chunk):Weak B ((h0++R)++[y,n]) (((h0++[y,n])++[])++R):=Weak.perm (by
 rw [ge,gI,gI];exact Gz h0 vO)
theorem negs_smu (s:Str):negs (jan s)=jdM s:=by
 rw [negs,jdM];refine Vr fun x hx=>?_
 obtain ⟨j,hj,rfl⟩:=GK.1 hx
 have:=(ja9 s).lo j
 rw [gC,gD hj] at this
 simp only [gu] at this
 simp only [decide_eq_true_eq]
 omega
theorem smuF_nil:jdM []=0:=by decide
theorem smu_line {l:Ln} (h:l.figs.length≤n):((List.range n).map fun j=>jdM (l.figs.getD j [])).sum=jeU l:=by
 rw [jeU,←jjm (l.figs.map jdM) n (by simpa using h)];congr 1
 refine GP fun j _=>?_
 simp only [gC,gX]
 cases l.figs[j]? with
 |none=>simp [smuF_nil]
 |some f=>rfl
theorem jlx:jeU default=0:=by decide
theorem jp8 {ls:List Ln} (h:ls.length≤2):jeU (ls.getD 0 default)+jeU (ls.getD 1 default)=jeN ls:=by
 match ls,h with
 |[],_=>decide
 |[a],_=>simp [jeN,jlx]
 |[a,c],_=>simp [jeN]
theorem jqa (k:TbOk b):((jaa b).map fun c=>jdM (jbU b c)).sum≤2:=by
 have h1:((jaa b).map fun c=>jdM (jbU b c)).sum≤((jdD b.sts.length).map fun c=>jdM (jbU b c)).sum:=by
  rw [jcc];exact jgb _ _ _
 have row: ∀(bt:Bool) (i:Nat),((jqv b.sts.length bt i).map fun c=>jdM (jbU b c)).sum=jeU ((jaO b bt).getD i default):=by
  intro bt i
  have hl:((jaO b bt).getD i default).figs.length≤b.sts.length:=by
   by_cases hi:i<(jaO b bt).length
   ·rw [((k.lines bt).ok _ (jaj hi)).len];exact gM _
   ·rw [gC,gh zO];exact VP _
  rw [←smu_line hl,jqv,vu];congr 1
 have h2:((jdD b.sts.length).map fun c=>jdM (jbU b c)).sum=jeN b.waters+jeN b.butts:=by
  rw [jdD];simp only [GC,Ve,row]
  rw [show jaO b false=b.waters from rfl,show jaO b true=b.butts from rfl,jp8 k.waters.two,jp8 k.butts.two]
 have:=k.smu
 omega
theorem meaS_12 (s:Str):(jdN s).length≤12^jdM s:=by
 rw [jdN];split
 ·rw [←negs_smu];exact meaP_12 (ja9 s).len
 ·exact VP _
theorem jkD (k:TbOk b):jd6 (cdT b)≤144:=by
 have gen: ∀l:List Ce,jd6 (l.map (jd2 b))≤12^(l.map fun c=>jdM (jbU b c)).sum:=by
  intro l
  induction l with
  |nil=>simp [jd6]
  |cons c l ih=>
   rw [gx,jd6,gx,vH,Nat.pow_add];refine vo ?_ ih
   have h1:=meaS_12 (jbU b c)
   have h2:1≤12^jdM (jbU b c):=Nat.pow_pos zO
   show max 1 (jdN (jbU b c)).length≤_
   omega
 refine GI (gen _) ?_
 have:=GY (show 0<12 by omega) (jqa k)
 exact this
theorem jbr (k:TbOk b):(jah b).length≤12000:=by
 have h1:=jhc (cdT b) b.wrong.toNat
 have h2:=jkD k
 have h3:jic (cdT b).length b.wrong.toNat≤jic 12 2:=jeT (by rw [jau];exact ja3 k) (by have:=k.wrong;omega)
 have h4:jic 12 2=79:=by decide
 have h5:=vo (GI h3 (Nat.le_of_eq h4)) h2
 rw [jah];omega
instance {a:List Value}:AppL a [] a:=⟨ge a⟩
theorem jrN {x:Bo}:jaC [x]=boL x:=by simp [jaC,Enc.enc]
abbrev B4 (q qx qw qc qm w can must:Nat):Hp:=[⟨true,qx,.cells [.pointer (some ⟨q,0,none⟩)].toArray 109 (0,0)⟩,⟨true,qw,.cells [.int .i64 (w:Int)].toArray 3 (0,0)⟩,⟨true,qc,.cells [.int .u64 (can:Int)].toArray 134 (0,0)⟩,⟨true,qm,.cells [.int .u64 (must:Int)].toArray 134 (0,0)⟩]
theorem B4.x {w:Nat}:Rd B (h++B4 q qx qw qc qm w can must) ⟨qx,0,none⟩ (.pointer (some ⟨q,0,none⟩)):=Rd.held (c:=[.pointer (some ⟨q,0,none⟩)].toArray) (t:=109) (f:=(0,0)) (rw:=true) (GH _ gl) rfl
theorem B4.w {w:Nat}:Rd B (h++B4 q qx qw qc qm w can must) ⟨qw,0,none⟩ (.int .i64 (w:Int)):=Rd.held (c:=[.int .i64 (w:Int)].toArray) (t:=3) (f:=(0,0)) (rw:=true) (GH _ (gO _ gl)) rfl
theorem B4.c {w:Nat}:Rd B (h++B4 q qx qw qc qm w can must) ⟨qc,0,none⟩ (.int .u64 (can:Int)):=Rd.held (c:=[.int .u64 (can:Int)].toArray) (t:=134) (f:=(0,0)) (rw:=true) (GH _ (gO _ (gO _ gl))) rfl
theorem B4.m {w:Nat}:Rd B (h++B4 q qx qw qc qm w can must) ⟨qm,0,none⟩ (.int .u64 (must:Int)):=Rd.held (c:=[.int .u64 (must:Int)].toArray) (t:=134) (f:=(0,0)) (rw:=true) (GH _ (gO _ (gO _ (gO _ gl)))) rfl
theorem f148_c (m:Md Tryz.prog B) (h:Hp) {w:Nat}:FnC m 148 #[.pointer (some ⟨q,0,none⟩),.int .i64 (w:Int),.int .u64 (can:Int),.int .u64 (must:Int)] h fun v h'=> ∃qx qw qc qm,h'=h++B4 q qx qw qc qm w can must∧v= .func (.func 179) #[] [.pointer (some ⟨qx,0,none⟩),.pointer (some ⟨qm,0,none⟩),.pointer (some ⟨qc,0,none⟩),.pointer (some ⟨qw,0,none⟩)].toArray:=by
 refine jae Tryz.func148 rfl rfl (l:=(.pointer (some ⟨q,0,none⟩))::(.int .i64 (w:Int))::(.int .u64 (can:Int))::(.int .u64 (must:Int))::uu6) rfl ?_
 intro cf cs K hK
 refine Z2 ?_
 refine jaA rfl zq (fun qx=>jao (jad ?_));refine jaA rfl zq (fun qw=>jao (jad ?_));refine jaA rfl zq (fun qc=>jao (jad ?_));refine jaA rfl zq (fun qm=>jao (jad ?_));refine Z4 ?_;refine jhJ rfl zq ?_;refine Z3 ?_;refine jac (h++B4 q qx qw qc qm w can must) rfl Tryz.func148 rfl jab ?_;refine Zs ?_
 exact ⟨qx,qw,qc,qm,rfl,rfl⟩
theorem f179_c (m:Md Tryz.prog B) (sh:Sheet B h0 b q tv) (rx:Rd B h0 ⟨qx,0,none⟩ (.pointer (some ⟨q,0,none⟩))) (rm:Rd B h0 ⟨qm,0,none⟩ (.int .u64 (must:Int))) (rc:Rd B h0 ⟨qc,0,none⟩ (.int .u64 (can:Int))) (hmu:must<4096) (hca:can<4096) {w:Nat} (rw:Rd B h0 ⟨qw,0,none⟩ (.int .i64 (w:Int))) (hw:w≤100) [CellsV yv [yv]] {G:List Bo} (hY:EachO m h0 G N yv YI YS) (hG:G=jdT (cdT b) can must (jaa b).length w []) (hN:G.length≤N) {R:Hp} (hR:YI [] R):
  FnC m 179 #[yv,.pointer (some ⟨qx,0,none⟩),.pointer (some ⟨qm,0,none⟩),.pointer (some ⟨qc,0,none⟩),.pointer (some ⟨qw,0,none⟩)] (h0++R) fun v h'=>v= .tuple [].toArray∧ ∃R',h'=h0++R'∧(YI G R'∨YS R'):=by
 refine jae Tryz.func179 rfl rfl (l:=yv::(.pointer (some ⟨qx,0,none⟩))::(.pointer (some ⟨qm,0,none⟩))::(.pointer (some ⟨qc,0,none⟩))::(.pointer (some ⟨qw,0,none⟩))::uu7) rfl ?_
 intro cf cs K hK
 refine Z2 ?_
 refine jaA rfl zq (fun qy=>jao (jad ?_));refine Z3 ?_
 refine jay rfl zq (fun qn=>jao (jad ?_));refine Z3 ?_;refine jhJ rfl zq ?_;refine D19 ?_;refine Z3 ?_;refine D30 ?_;refine jaN rfl zq (rw.keeps SubH.sub) ?_;refine jl4 (weak179 h0 R _ _) ?_
 have hw2:=f180_c m sh rx rm rc hmu hca hY qy qn (jaa b).length w [] [] [] R zS hw (fun y hy=>hG▸hy) (by rw [←hG];simpa using hN) hR
 rw [←hG,GJ] at hw2
 have hcv:=CallV.fn' (first:= #[]) (args:=[boV [],.int .i64 0,.int .i64 (w:Int)]) (cap:=[Value.pointer (some ⟨qx,0,none⟩),Value.pointer (some ⟨qy,0,none⟩),Value.pointer (some ⟨qm,0,none⟩),Value.pointer (some ⟨qn,0,none⟩),Value.pointer (some ⟨qc,0,none⟩)].toArray) jhY zS hw2
 refine jg5 rfl zq hcv ?_;clear hcv hw2
 rintro v h' ⟨R2,rfl,hh⟩;refine Z2 ?_;refine jel rfl ?_;refine jac (h0++R2) rfl Tryz.func179 rfl jab ?_;refine Zs ?_
 exact ⟨rfl,R2,rfl,hh.elim (fun h=> .inl h.2) (fun h=> .inr h.2)⟩
theorem f96_c (m:Md Tryz.prog B) (h:Hp) {a1 a2 a3:Value} (sh:Sheet B h b q [.int .i64 b.wrong,a1,a2,a3]) (hk:TbOk b):FnC m 96 #[.pointer (some ⟨q,0,none⟩)] h fun v h'=> ∃nw,h'=h++nw∧OwnS 136 13 v (jah b).length (jaC (jah b)) nw:=by
 have hwr:=hk.wrong
 refine jae Tryz.func96 rfl rfl (l:=(.pointer (some ⟨q,0,none⟩))::uu19) rfl ?_
 intro cf cs K hK
 refine Z6 ?_
 refine jay rfl zq (fun q3=>jao (jad ?_));refine Z3 ?_;refine jaq [Zp 0,Zp 1,Zp 2,Zp 3,Zp 4,Zp 5,Zr 6,Zk 7,Zk 8] zK zK (gE _) ?_;refine Z6 ?_;refine jaN rfl zq ((sh.tb 0 zS).keeps SubH.sub) ?_;refine jaf (Post:=fun v=>v=_) rfl zq zK (fun H' hH=>f106_c m H' 12 zO) ?_
 rintro v rfl;refine Zs ?_
 refine jax (Post:=fun v nw=> ∃qx qw qc qm,nw=B4 q qx qw qc qm b.wrong.toNat 4095 0∧v= .func (.func 179) #[] [.pointer (some ⟨qx,0,none⟩),.pointer (some ⟨qm,0,none⟩),.pointer (some ⟨qc,0,none⟩),.pointer (some ⟨qw,0,none⟩)].toArray) rfl zq zK (fun H' hH=>by
  have h1:=f148_c m H' (q:=q) (w:=b.wrong.toNat) (can:=4095) (must:=0)
  rw [show ((b.wrong.toNat:Nat):Int)=b.wrong by omega] at h1
  exact CallF.mono h1 fun v h' ⟨qx,qw,qc,qm,e1,e2⟩=>⟨_,e1,qx,qw,qc,qm,rfl,e2⟩) ?_
 rintro v _ ⟨qx,qw,qc,qm,rfl,rfl⟩;refine Zs ?_;refine jl4 (Weak.mid h [⟨true,q3,.cells [.slice none 0 0].toArray 110 (0,0)⟩] (B4 q qx qw qc qm b.wrong.toNat 4095 0)) ?_;refine Z2 ?_
 refine jjJ rfl rfl zK (fun q11 q12=>?_);generalize hrec:jf5 _ _ _ _ _ _ LoopState.ready=rec0
 have hY:EachO m (h++B4 q qx qw qc qm b.wrong.toNat 4095 0) (jah b) 12000 (.func (.yield q12) #[] #[]) (fun dn R=> ∃bp bc nw,R=[⟨true,q3,.cells [.slice bp dn.length bc].toArray 110 (0,0)⟩,⟨true,q11,.deferred (some [])⟩,⟨true,q12,rec0⟩]++nw∧OwnS 136 13 (.slice bp dn.length bc) dn.length (jaC dn) nw) (fun _=>False):=?hY
 rotate_left
 intro F R dn x hF hx hdn hR
 obtain ⟨bp,bc,nw,rfl,ho⟩:=hR
 subst hrec
 haveI hsF:SubH (h++B4 q qx qw qc qm b.wrong.toNat 4095 0) F:=⟨hF⟩
 refine CallV.yield (rw:=true) (q1:=q11) (st:= .ready) (GH _ (GT _ (gO _ (gO _ gl)))) rfl (by simp;rfl) ?_
 intro cf2 cs2 K2 hK2
 ·refine Zs ?_
  refine jay rfl zq (fun q14=>jao (jad ?_));refine jl5 rfl zq (jaP x) ?_;refine Zs ?_;apply jfD (F:=F++[⟨true,q3,.cells [.slice bp dn.length bc].toArray 110 (0,0)⟩,⟨true,q11,.deferred (some [])⟩]) (E:=nw++[⟨true,q14,.cells (boL x).toArray 136 (0,0)⟩])
  case hh=>
   simp only [gI,gr,GJ]
   rfl
  generalize hbz:jf5 _ _ _ _ _ _ LoopState.busy=rec1
  refine m.weak (h':=F++[⟨true,q3,.cells [.slice bp dn.length bc].toArray 110 (0,0)⟩,⟨true,q11,.deferred (some [])⟩,⟨true,q12,rec1⟩,⟨true,q14,.cells (boL x).toArray 136 (0,0)⟩]++nw) (weak_beg _ _ _ _ _ _) ?_;refine Z4 ?_
  refine jb7 kdq rfl zq zA zA rfl (fun q17=>jao (jad ?_));refine ja6 rfl zq (jaP x) ho kdq zO zO (fun w9 n9 o9=>jad ?_);obtain ⟨p9,c9,rfl,hc9,r9⟩:=jas (B:=B) o9
  have e1:dn.length+1=(dn++[x]).length:=by simp
  have e2:jaC dn++boL x=jaC (dn++[x]):=by rw [ja0,jrN]
  have ho2:=o9
  rw [e2,e1] at ho2
  rw [e1];refine D19 ?_;refine Z2 ?_;refine m.weak (h':=F++[⟨true,q3,.cells [.slice p9 (dn++[x]).length c9].toArray 110 (0,0)⟩,⟨true,q11,.deferred (some [])⟩,⟨true,q12,rec1⟩]++n9) jf8 ?_
  subst hbz
  apply jlJ (F:=F++[⟨true,q3,.cells [.slice p9 (dn++[x]).length c9].toArray 110 (0,0)⟩,⟨true,q11,.deferred (some [])⟩]) (E:=n9)
  case hh=>
   simp only [gI,gr,GJ]
   rfl
  rw [show F++[⟨true,q3,.cells [.slice p9 (dn++[x]).length c9].toArray 110 (0,0)⟩,⟨true,q11,.deferred (some [])⟩]++(_::n9)=F++([⟨true,q3,.cells [.slice p9 (dn++[x]).length c9].toArray 110 (0,0)⟩,⟨true,q11,.deferred (some [])⟩,_]++n9) by simp;rfl];exact hK2 _ _ ⟨_,rfl,.inl ⟨rfl,_,_,n9,rfl,ho2⟩⟩
 ·have hl:=f179_c m (sh.keeps (gG _ _)) B4.x B4.m B4.c zO zO B4.w (by have:=hk.wrong;omega) hY (by rw [jah,←jau];exact (genM_all fun i hi=>by
   have:=ja3 hk
   rw [jau] at hi
   rw [show 4095=2^12-1 by rfl,Nat.testBit_two_pow_sub_one];exact decide_eq_true zO).symm) (jbr hk) (R:=[⟨true,q3,.cells [.slice none 0 0].toArray 110 (0,0)⟩,⟨true,q11,.deferred (some [])⟩,⟨true,q12,rec0⟩]) ⟨none,0,[],by simp,OwnS.nil⟩
  rw [show (h++B4 q qx qw qc qm b.wrong.toNat 4095 0)++[⟨true,q3,.cells [.slice none 0 0].toArray 110 (0,0)⟩,⟨true,q11,.deferred (some [])⟩,⟨true,q12,rec0⟩]=(h++B4 q qx qw qc qm b.wrong.toNat 4095 0)++[⟨true,q3,.cells [.slice none 0 0].toArray 110 (0,0)⟩]++[⟨true,q11,.deferred (some [])⟩,⟨true,q12,rec0⟩] by simp] at hl
  refine CallF.mono hl ?_
  rintro v h' ⟨rfl,R',rfl,(⟨bp,bc,nw,rfl,ho⟩|hF)⟩;case inr=>exact hF.elim
  subst hrec
  apply jhj (F:=(h++B4 q qx qw qc qm b.wrong.toNat 4095 0)++[⟨true,q3,.cells [.slice bp (jah b).length bc].toArray 110 (0,0)⟩,⟨true,q11,.deferred (some [])⟩]) (E:=nw)
  case hh=>
   simp only [gI,gr,GJ]
   rfl
  case hst=>exact .inl rfl
  refine Z7 ?_;refine jem (F:=(h++B4 q qx qw qc qm b.wrong.toNat 4095 0)++[⟨true,q3,.cells [.slice bp (jah b).length bc].toArray 110 (0,0)⟩]) (E:=nw) zS ?_;refine jac (h++nw) rfl Tryz.func96 rfl jab ?_;refine Zs ?_
  exact ⟨nw,rfl,ho⟩
theorem f104_c (m:Md Tryz.prog B) (h:Hp) (sh:Sheet B h b q tv) (hs:s<4096):FnC m 104 #[.pointer (some ⟨q,0,none⟩),.int .u64 (s:Int)] h fun v h'=>h'=h∧IsB (jfT (cdT b) (jdw s (jaa b).length)≠[]) v:=by
 refine jae Tryz.func104 rfl rfl (l:=(.pointer (some ⟨q,0,none⟩))::(.int .u64 (s:Int))::uu8) rfl ?_
 intro cf cs K hK
 refine Z2 ?_
 refine jay rfl zq (fun q4=>jao (jad ?_));refine Z7 ?_;refine jdp (Post:=fun v h'=> ∃qx qw qc qm,h'=h++[⟨true,q4,.cells [.bool false].toArray 4 (0,0)⟩]++B4 q qx qw qc qm 12 s s∧v= .func (.func 179) #[] [.pointer (some ⟨qx,0,none⟩),.pointer (some ⟨qm,0,none⟩),.pointer (some ⟨qc,0,none⟩),.pointer (some ⟨qw,0,none⟩)].toArray) rfl zq zK (f148_c m _ (q:=q) (w:=12) (can:=s) (must:=s)) ?_
 rintro v _ ⟨qx,qw,qc,qm,rfl,rfl⟩;refine Zs ?_;refine jl4 (Weak.mid h [⟨true,q4,.cells [.bool false].toArray 4 (0,0)⟩] (B4 q qx qw qc qm 12 s s)) ?_;refine Z2 ?_
 refine jjJ rfl rfl zK (fun q11 q12=>?_);generalize hrec:jf5 _ _ _ _ _ _ LoopState.ready=rec0
 obtain ⟨GS,hGS⟩: ∃GS,GS=jdT (cdT b) s s (jaa b).length 12 []:=⟨_,rfl⟩
 have hY:EachO m (h++B4 q qx qw qc qm 12 s s) GS (GS.length+1) (.func (.yield q12) #[] #[]) (fun dn R=>dn=[]∧R=[⟨true,q4,.cells [.bool false].toArray 4 (0,0)⟩,⟨true,q11,.deferred (some [])⟩,⟨true,q12,rec0⟩]) (fun R=>GS≠[]∧ ∃fn9 l9 ps9 a9 c9,R=[⟨true,q4,.cells [.bool true].toArray 4 (0,0)⟩,⟨true,q11,.deferred (some [])⟩,⟨true,q12,jpf fn9 l9 ps9 a9 c9 q11⟩]):=?hY
 rotate_left
 intro F R dn x hF hx hdn hR
 obtain ⟨rfl,rfl⟩:=hR
 subst hrec
 haveI hsF:SubH (h++B4 q qx qw qc qm 12 s s) F:=⟨hF⟩
 refine CallV.yield (rw:=true) (q1:=q11) (st:= .ready) (GH _ (gO _ (gO _ gl))) rfl (by simp;rfl) ?_
 intro cf2 cs2 K2 hK2
 ·refine Zs ?_
  apply jfD (F:=F++[⟨true,q4,.cells [.bool false].toArray 4 (0,0)⟩,⟨true,q11,.deferred (some [])⟩]) (E:=[])
  case hh=>
   simp only [gI,gr,GJ]
   rfl
  generalize hbz:jf5 _ _ _ _ _ _ LoopState.busy=rec1
  refine Z3 ?_;refine D19 ?_;refine Zs ?_
  subst hbz
  apply jlH (F:=F++[⟨true,q4,.cells [.bool true].toArray 4 (0,0)⟩,⟨true,q11,.deferred (some [])⟩]) (E:=[])
  case hh=>
   simp only [gI,gr,GJ]
   rfl
  rw [gI];exact hK2 _ _ ⟨_,rfl,.inr ⟨rfl,(fun e=>by rw [e] at hx;cases hx),_,_,_,_,_,rfl⟩⟩
 ·have hl:=f179_c m (sh.keeps (gG _ _)) B4.x B4.m B4.c hs hs B4.w zO hY hGS zO (R:=[⟨true,q4,.cells [.bool false].toArray 4 (0,0)⟩,⟨true,q11,.deferred (some [])⟩,⟨true,q12,rec0⟩]) ⟨rfl,rfl⟩
  rw [show (h++B4 q qx qw qc qm 12 s s)++[⟨true,q4,.cells [.bool false].toArray 4 (0,0)⟩,⟨true,q11,.deferred (some [])⟩,⟨true,q12,rec0⟩]=(h++B4 q qx qw qc qm 12 s s)++[⟨true,q4,.cells [.bool false].toArray 4 (0,0)⟩]++[⟨true,q11,.deferred (some [])⟩,⟨true,q12,rec0⟩] by simp] at hl
  have hG2:GS=jfT (cdT b) (jdw s (jaa b).length):=by
   rw [hGS,←jau];exact jmi (by rw [jau];exact sh.twelve)
  refine CallF.mono hl ?_
  rintro v h' ⟨rfl,R',rfl,(⟨hbo,rfl⟩|⟨hbo,fn9,l9,ps9,a9,c9,rfl⟩)⟩
  ·subst hrec
   apply jhj (F:=(h++B4 q qx qw qc qm 12 s s)++[⟨true,q4,.cells [.bool false].toArray 4 (0,0)⟩,⟨true,q11,.deferred (some [])⟩]) (E:=[])
   case hh=>
    simp only [gI,gr,GJ]
    rfl
   case hst=>exact .inl rfl
   refine Z3 ?_;refine D19 ?_;refine Z2 ?_;refine jem (F:=(h++B4 q qx qw qc qm 12 s s)++[⟨true,q4,.cells [.bool false].toArray 4 (0,0)⟩]) (E:=[]) zS ?_;refine jac (h) rfl Tryz.func104 rfl jab ?_;refine Zs ?_
   first|exact ⟨rfl,IsB.yes (hG2▸hbo)⟩|exact ⟨rfl,IsB.no fun e=>e (hG2▸hbo)⟩
  ·apply jkz (F:=(h++B4 q qx qw qc qm 12 s s)++[⟨true,q4,.cells [.bool true].toArray 4 (0,0)⟩,⟨true,q11,.deferred (some [])⟩]) (E:=[])
   case hh=>
    simp only [gI,gr,GJ]
    rfl
   refine Zs ?_;refine jem (F:=(h++B4 q qx qw qc qm 12 s s)++[⟨true,q4,.cells [.bool true].toArray 4 (0,0)⟩]) (E:=[]) zS ?_;refine jac (h) rfl Tryz.func104 rfl jab ?_;refine Zs ?_
   first|exact ⟨rfl,IsB.yes (hG2▸hbo)⟩|exact ⟨rfl,IsB.no fun e=>e (hG2▸hbo)⟩
end
section
variable [LaidO B]
structure RawTb (B:Array Obj) (h:Hp) (b:Tb) (ps:Option Addr) (ns ks:Nat) (pw:Option Addr) (nw cw:Nat) (pb:Option Addr) (nb cb:Nat):Prop where
 s:RdS B h 1 (.slice ps ns ks) ns (jaC b.sts)
 sc:ns≤ks
 sn:ns≤1000
 w:RdLn B h (.slice pw nw cw) nw b.waters
 wn:nw≤1000
 u:RdLn B h (.slice pb nb cb) nb b.butts
 un:nb≤1000
 sm:TbSm b
section
theorem RawTb.keeps (r:RawTb B h b ps ns ks pw nw cw pb nb cb) (s:h.Sublist H):RawTb B H b ps ns ks pw nw cw pb nb cb:=
 ⟨r.s.keeps s,r.sc,r.sn,r.w.keeps s,r.wn,r.u.keeps s,r.un,r.sm⟩
theorem RawTb.rd (r:RawTb B h b ps ns ks pw nw cw pb nb cb) (k:TbOk b):RdTb B h b ps ns ks pw nw cw pb nb cb:=rdTb_of r.s r.sc r.w r.u r.sm k
theorem f65_r (m:Md Tryz.prog B) (h:Hp) (r:RawTb B h b ps ns ks pw nw cw pb nb cb):FnC m 65 #[tbV b ps ns ks pw nw cw pb nb cb] h fun v h'=>h'=h∧v= .int .i64 (tbS b):=f65_c m h r.s r.sc r.sn r.sm.sts r.w r.wn r.u r.un r.sm
theorem f95_r (m:Md Tryz.prog B) (h:Hp) (r:RawTb B h b ps ns ks pw nw cw pb nb cb) (k:TbOk b):FnC m 95 #[tbV b ps ns ks pw nw cw pb nb cb] h fun v h'=> ∃new,h'=h++new∧ ∃q,v= .pointer (some ⟨q,0,none⟩)∧Sheet B new b q (tbL b ps ns ks pw nw cw pb nb cb):=
 CallF.mono (f95_c m h (r.rd k)) fun v h' ⟨new,q,e1,e2,e3⟩=>⟨new,e1,q,e2,e3⟩
end
theorem jh6 {xs:List Int} (hs:jmF xs 0 xs.length): ∀t,t≤xs.length→Asc (jc8 xs t)∧(∀z∈jc8 xs t,∃i,i<t∧z=xs.getD i 0)
 |0,_=>⟨List.Pairwise.nil,by simp [jc8]⟩
 |t+1,h=>by
  obtain ⟨h1,h2⟩:=jh6 hs t zO
  rw [jc8];by_cases e:t=0∨xs.getD t 0≠xs.getD (t-1) 0
  ·rw [if_pos e];refine ⟨?_,fun z hz=>?_⟩
   ·unfold Asc at h1⊢
    rw [gy];refine ⟨h1,by simp,fun x hx y hy=>?_⟩
    simp only [gw] at hy
    subst hy
    obtain ⟨i,hi,rfl⟩:=h2 x hx
    have e1:xs.getD i 0≤xs.getD (t-1) 0:=by
     by_cases e2:i=t-1
     ·subst e2
      exact vd _
     ·exact hs i (t-1) zO zO zO
    have e3:xs.getD (t-1) 0≤xs.getD t 0:=hs (t-1) t zO zO zO
    rcases e with e|e
    ·omega
    ·omega
   ·rcases gQ.1 hz with hz|hz
    ·obtain ⟨i,hi,e⟩:=h2 z hz
     exact ⟨i,by omega,e⟩
    ·simp only [gw] at hz
     exact ⟨t,by omega,hz⟩
  ·rw [if_neg e,ge];exact ⟨h1,fun z hz=>by obtain ⟨i,hi,e⟩:=h2 z hz;exact ⟨i,by omega,e⟩⟩
theorem jh5 {xs:List Int}: ∀t i,i<t→xs.getD i 0∈jc8 xs t
 |0,i,h=>by omega
 |t+1,i,h=>by
  rw [jc8,gQ];rcases vG i t with h1|h1
  ·exact .inl (jh5 t i h1)
  ·obtain rfl:i=t:=by omega
   by_cases e:i=0∨xs.getD i 0≠xs.getD (i-1) 0
   ·rw [if_pos e];exact .inr zS
   ·have h0:i≠0:=fun x=>e (.inl x)
    have e2:xs.getD i 0=xs.getD (i-1) 0:=gt fun x=>e (.inr x)
    rw [e2];exact .inl (jh5 i (i-1) zO)
theorem rd_has {t:Nat} {rw:Bool} {v:Value} [x:Has h q rw (.cells [v].toArray t f)]:Rd B h ⟨q,0,none⟩ v:=Rd.held x.mem rfl
theorem jqJ {v:Value} {new:Hp} (o:OwnS 3 1 v n (jav xs) new) (h:0<n): ∃b c junk,v= .slice (some ⟨b,0,none⟩) n c∧new=[jjj b xs junk]∧xs.length=n∧n+junk.length=c:=by
 unfold jjj
 generalize hg:jav xs=ys at o⊢
 have hy:ys.length=xs.length:=by rw [←hg];simp
 cases o with
 |nil=>omega
 |blk hl hc hn=>exact ⟨_,_,_,rfl,rfl,by omega,by omega⟩
theorem jqT (hs:jmF xs 0 xs.length):z∈jc8 xs xs.length↔z∈xs:=by
 constructor
 ·intro h
  obtain ⟨i,hi,rfl⟩:=(jh6 hs _ (gM _)).2 z h
  exact jhP.2 ⟨i,hi,rfl⟩
 ·intro h
  obtain ⟨i,hi,rfl⟩:=jhP.1 h
  exact jh5 _ i hi
theorem asc_uniq: ∀{xs ys:List Int},Asc xs→Asc ys→(∀z,z∈xs↔z∈ys)→xs=ys:=fun hx hy h=>Vm (fun a b _ _ h1 h2=>by omega) hx hy ((VZ (jjd hx) (jjd hy)).2 h)
theorem jn3 {α:Type}: ∀{l:List α} {n:Nat},l.length=n→jbe (List.replicate n true) l=l
 |[],_,h=>by subst h;rfl
 |a::l,n,h=>by
  obtain ⟨k,rfl⟩: ∃k,n=k+1:=⟨n-1,by simp at h;omega⟩
  rw [List.replicate_succ,jbe,jn3 (by simpa using h)]
theorem jqE (n:Nat):jdw 0 n=(List.replicate n true).map (!·):=by
 rw [jdw];refine Ga zS fun i h1 h2=>by simp
theorem pat_none:jfT (cdT b) (jdw 0 (jaa b).length)≠[]↔jbt (cdT b)=true:=by
 have:=jgW (D:=cdT b) (p:=List.replicate (jaa b).length true) (by simp [jau])
 rw [jqE,this,jn3 (jau b)]
def jhh (B:Array Obj) (b:Tb) (tv:List Value) (s:Int) (nw:Hp) (v:Value):Prop:= ∃qp p n c,v= .tuple [.agg [.pointer qp,.slice p n c].toArray,.int .i64 s].toArray∧
 (s=0→ ∃q,qp=some ⟨q,0,none⟩∧Sheet B nw b q tv∧n=(jah b).length∧n≤c∧RdS B nw 13 (.slice p n c) n (jaC (jah b)))
theorem jgY {s:Int} (h:s≠0):jhh B b tv s [] (.tuple [.agg [.pointer none,.slice none 0 0].toArray,.int .i64 s].toArray):=⟨none,none,0,0,rfl,fun e=>absurd e h⟩
def plN (b:Tb) (c:Ce):Nat:=(jaa b).findIdx fun x=>decide (x=c)
theorem jlU {c:Ce}:plN b c<(jaa b).length↔c∈jaa b:=by
 rw [plN,List.findIdx_lt_length];simp
theorem jiu {c:Ce} (h:c∈jaa b):jdi (jaa b) c=some (plN b c:Int):=by
 have hh:(jaa b).findIdx (fun x=>decide (x=c))<(jaa b).length:=jlU.2 h
 rw [jdi,jgB,if_pos hh,GG];rfl
theorem jo6 {c:Ce} (h:c∉jaa b):jdi (jaa b) c=none:=by
 have hh: ¬(jaa b).findIdx (fun x=>decide (x=c))<(jaa b).length:=fun e=>h (jlU.1 e)
 rw [jdi,jgB,if_neg hh];rfl
theorem f181_z (m:Md Tryz.prog B) (h:Hp):FnC m 181 #[.slice none 0 0,.int .i64 0,.int .i64 0] h fun v h'=>h'=h:=by
 refine jae Tryz.func181 rfl rfl (l:=(.slice none 0 0)::(.int .i64 0)::(.int .i64 0)::uu46) rfl ?_
 intro cf cs K hK
 refine Z7 ?_
 refine jag (fun nn l h'=>nn=0∧(True)∧(∃U:Nat→Value,l=((.slice none 0 0)::(.int .i64 0)::(.int .i64 0)::(U 3)::(U 4)::(U 5)::(.int .i64 1)::vw42 U 7 []))∧h=h') _ ⟨rfl,trivial,exU rfl,rfl⟩ ?_;rintro nn l h' ⟨rfl,htt,⟨U,rfl⟩,rfl⟩ hnext;refine Z5 ?_;refine jrc rfl zq zO ?_;refine Z3 ?_;refine jel rfl ?_;refine jac (h) rfl Tryz.func181 rfl jab ?_;refine Zs ?_
 rfl
theorem f150_z (m:Md Tryz.prog B) (h:Hp) (lim:Int):FnC m 150 #[.slice none 0 0,.int .i64 0,.int .i64 0,.int .i64 lim] h fun v h'=>h'=h:=by
 refine jae Tryz.func150 rfl rfl (l:=(.slice none 0 0)::(.int .i64 0)::(.int .i64 0)::(.int .i64 lim)::uu130) rfl ?_
 intro cf cs K hK
 refine Z9 ?_
 refine jag (fun nn l h'=>nn=0∧(True)∧(∃U:Nat→Value,l=((.slice none 0 0)::(.int .i64 0)::(.int .i64 0)::(.int .i64 lim)::vw130 U 4 []))∧h=h') _ ⟨rfl,trivial,exU rfl,rfl⟩ ?_;rintro nn l h' ⟨rfl,htt,⟨U,rfl⟩,rfl⟩ hnext;refine Z12 ?_;refine k_leqT rfl zq zO ?_;refine Z7 ?_;refine jaf (Post:=fun _=>True) rfl zq zK (fun H' hH=>CallF.mono (f181_z m H') fun v h' e=>⟨e,trivial⟩) ?_
 rintro v _;refine Z3 ?_;refine jac (h) rfl Tryz.func150 rfl jab ?_;refine Zs ?_
 rfl
theorem f99_z (m:Md Tryz.prog B) (h:Hp):FnC m 99 #[.slice none 0 0] h fun v h'=>h'=h:=by
 refine jae Tryz.func99 rfl rfl (l:=(.slice none 0 0)::uu10) rfl ?_
 intro cf cs K hK
 refine Z10 ?_;refine jfG rfl zq zK (n':=0) zA ?_;refine jaf (Post:=fun v=> ∃k:Int,v= .int .i64 k∧0≤k∧k≤1000) rfl zq zK (fun H' hH=>f151_c m H' 0 zO) ?_
 rintro v ⟨lim,rfl,_⟩;refine Zs ?_;refine jaf (Post:=fun _=>True) rfl zq zK (fun H' hH=>CallF.mono (f150_z m H' lim) fun v h' e=>⟨e,trivial⟩) ?_
 rintro v _;refine Z2 ?_;refine jel rfl ?_;refine jac (h) rfl Tryz.func99 rfl jab ?_;refine Zs ?_
 rfl
theorem f100_z (m:Md Tryz.prog B) (h:Hp):FnC m 100 #[.slice none 0 0] h fun v h'=>h'=h∧v= .slice none 0 0:=by
 refine jae Tryz.func100 rfl rfl (l:=(.slice none 0 0)::uu60) rfl ?_
 intro cf cs K hK
 refine Z9 ?_;refine jl8 rfl zq zO ?_;refine Z8 ?_;refine jac (h) rfl Tryz.func100 rfl jab ?_;refine Zs ?_
 exact ⟨rfl,rfl⟩
theorem f28_c (m:Md Tryz.prog B) (h:Hp) (ra:RawTb B h b ps ns ks pw nw cw pb nb cb):FnC m 28 #[tbV b ps ns ks pw nw cw pb nb cb] h fun v h'=>h'=h∧v= .tuple [.int .i64 (if tbS b=0 then ((jah b).length:Int) else 0),.int .i64 (tbS b)].toArray:=by
 refine jae Tryz.func28 rfl rfl (l:=(tbV b ps ns ks pw nw cw pb nb cb)::uu13) rfl ?_
 intro cf cs K hK
 refine Z2 ?_
 refine jaA rfl zq (fun q1=>jao (jad ?_));refine Z7 ?_;refine D44 ?_
 rintro v rfl;refine Z6 ?_
 refine jaI rfl zq (fun hc=>?_) (fun hc=>?_);refine Z5 ?_
 rotate_left
 refine Z4 ?_
 have hz0:tbS b=0:=by omega
 have hk:=jbf.1 hz0
 have hbl:=jbr hk
 have h12:=ja3 hk
 refine Z2 ?_;refine D13 ?_
 rintro v n9 ⟨q9,rfl,sh⟩;refine jaz (jad ?_);refine D27 ?_
 rintro v n8 o8;refine jaz (jad ?_);obtain ⟨p8,c8,rfl,_⟩:=jas (B:=B) o8
 refine Zs ?_
 all_goals
  refine Z4 ?_;refine jac (h) rfl Tryz.func28 rfl jab ?_;refine Zs ?_
 ·exact ⟨rfl,by rw [if_pos hz0,hz0]⟩
 ·exact ⟨rfl,by rw [if_neg zD]⟩
theorem f45_c (m:Md Tryz.prog B) (h:Hp) (ra:RawTb B h b ps ns ks pw nw cw pb nb cb):FnC m 45 #[tbV b ps ns ks pw nw cw pb nb cb] h fun v h'=>h'=h∧ ∃w,v= .tuple [w,.int .i64 (tbS b)].toArray∧IsB (tbS b=0∧jbt (cdT b)=true) w:=by
 refine jae Tryz.func45 rfl rfl (l:=(tbV b ps ns ks pw nw cw pb nb cb)::uu12) rfl ?_
 intro cf cs K hK
 refine Z2 ?_
 refine jaA rfl zq (fun q1=>jao (jad ?_));refine Z7 ?_;refine D44 ?_
 rintro v rfl;refine Z6 ?_
 refine jaI rfl zq (fun hc=>?_) (fun hc=>?_);refine Z5 ?_
 rotate_left
 refine Z4 ?_
 have hz0:tbS b=0:=by omega
 have hk:=jbf.1 hz0
 have hbl:=jbr hk
 have h12:=ja3 hk
 refine Z2 ?_;refine D13 ?_
 rintro v n9 ⟨q9,rfl,sh⟩;refine jaz (jad ?_);refine jaf (Post:=fun v=>IsB (jfT (cdT b) (jdw 0 (jaa b).length)≠[]) v) rfl zq zK (fun H' hH=>f104_c m H' (sh.keeps (Gb zW hH)) zO) ?_;rintro v hv9;refine Zs ?_
 all_goals
  refine Z4 ?_;refine jac (h) rfl Tryz.func45 rfl jab ?_;refine Zs ?_
 ·exact ⟨rfl,_,by rw [hz0],hv9.iff (by rw [pat_none];exact ⟨fun e=>⟨hz0,e⟩,fun e=>e.2⟩)⟩
 ·exact ⟨rfl,_,rfl,IsB.no fun e=>absurd e.1 zD⟩
theorem f108_c (m:Md Tryz.prog B) (h:Hp) (v0:Value):FnC m 108 #[v0] h fun v h'=>h'=h∧v= .int .i64 0:=by
 refine jae Tryz.func108 rfl rfl (l:=[v0,undef,undef]) rfl ?_
 intro cf cs K hK
 refine Z9 ?_;refine jac (h) rfl Tryz.func108 rfl jab ?_;refine Zs ?_
 exact ⟨rfl,rfl⟩
theorem f161_c (m:Md Tryz.prog B) (h:Hp) (v0:Value):FnC m 161 #[v0] h fun v h'=>h'=h∧v= .int .i64 0:=by
 refine jae Tryz.func161 rfl rfl (l:=[v0,undef,undef]) rfl ?_
 intro cf cs K hK
 refine Z9 ?_;refine jac (h) rfl Tryz.func161 rfl jab ?_;refine Zs ?_
 exact ⟨rfl,rfl⟩
theorem f97_c (m:Md Tryz.prog B) (h:Hp) (c:Ce):FnC m 97 #[cV c.butt c.line c.st] h fun v h'=> ∃nw,h'=h++nw∧ ∃q,nw=[⟨true,q,.cells (ceL c).toArray 37 (0,0)⟩]∧v= .func (.func 149) #[] [.pointer (some ⟨q,0,none⟩)].toArray:=by
 refine jae Tryz.func97 rfl rfl (l:=[cV c.butt c.line c.st,undef,undef,undef]) rfl ?_
 intro cf cs K hK
 refine Z2 ?_
 refine jaA rfl zq (fun q1=>jao (jad ?_));refine Z4 ?_;refine jhJ rfl zq ?_;refine Z3 ?_;refine jac (h++[⟨true,q1,.cells (ceL c).toArray 37 (0,0)⟩]) rfl Tryz.func97 rfl jab ?_;refine Zs ?_
 exact ⟨_,rfl,q1,rfl,rfl⟩
theorem f89_c (m:Md Tryz.prog B) (h:Hp) (x y:Int):FnC m 89 #[.int .i64 x,.int .i64 y] h fun v h'=> ∃nw,h'=h++nw∧ ∃q q',nw=[⟨true,q,.cells [.int .i64 x].toArray 3 (0,0)⟩,⟨true,q',.cells [.int .i64 y].toArray 3 (0,0)⟩]∧v= .func (.func 145) #[] [.pointer (some ⟨q,0,none⟩),.pointer (some ⟨q',0,none⟩)].toArray:=by
 refine jae Tryz.func89 rfl rfl (l:=[.int .i64 x,.int .i64 y,undef,undef,undef,undef]) rfl ?_
 intro cf cs K hK
 refine Z2 ?_
 refine jaA rfl zq (fun q2=>jao (jad ?_));refine jaA rfl zq (fun q3=>jao (jad ?_));refine Z4 ?_;refine jhJ rfl zq ?_;refine Z3 ?_;refine jac (h++[⟨true,q2,.cells [.int .i64 x].toArray 3 (0,0)⟩,⟨true,q3,.cells [.int .i64 y].toArray 3 (0,0)⟩]) rfl Tryz.func89 rfl jab ?_;refine Zs ?_
 exact ⟨_,rfl,q2,q3,rfl,rfl⟩
theorem f149_c (m:Md Tryz.prog B) (h:Hp) (sh:Sheet B h b q tv) {c:Ce} (rq:RdN B h qc 0 (ceL c)):FnC m 149 #[.pointer (some ⟨q,0,none⟩),.pointer (some ⟨qc,0,none⟩)] h fun v h'=>h'=h∧v= .int .i64 (if c∈jaa b then 0 else 6):=by
 obtain ⟨mrw,qm,hm1,hm2⟩:=sh.map
 haveI hmh:Has h qm mrw (jgL (jaa b)):=⟨hm2⟩
 refine jae Tryz.func149 rfl rfl (l:=(.pointer (some ⟨q,0,none⟩))::(.pointer (some ⟨qc,0,none⟩))::uu15) rfl ?_
 intro cf cs K hK
 refine Z6 ?_;refine jaq [Zp 0,Zp 1,Zp 2,Zr 3,Zr 4,Zr 5,Zp 6,Zp 7,Zp 8,Zp 9,Zp 10] zK zK (gE _) ?_;refine Z3 ?_;refine jaN rfl zq hm1 ?_;refine jb4 (vs:=ceL c) rfl zq rfl rq ?_
 refine jpk (c:=c) (cs:=jaa b) (k:=37) (e:=3) zK rfl zq (jad ?_);refine Z7 ?_
 by_cases hin:c∈jaa b
 rw [jiu hin];refine Z6 ?_
 rotate_left
 rw [jo6 hin];refine Z5 ?_
 all_goals
  refine Z5 ?_;refine jac (h) rfl Tryz.func149 rfl jab ?_;refine Zs ?_
  first|exact ⟨rfl,by rw [if_pos hin]⟩|exact ⟨rfl,by rw [if_neg hin]⟩
theorem f145_c (m:Md Tryz.prog B) (h:Hp) (sh:Sheet B h b q (tbL b ps ns ks pw nw cw pb nb cb)) (hsl:b.sts.length=ns) (hn:ns≤1000) {qs qa:Nat} {x:Int} (r1:Rd B h ⟨qs,0,none⟩ (.int .i64 st)) (r2:Rd B h ⟨qa,0,none⟩ (.int .i64 x)):FnC m 145 #[.pointer (some ⟨q,0,none⟩),.pointer (some ⟨qs,0,none⟩),.pointer (some ⟨qa,0,none⟩)] h fun v h'=>h'=h∧v= .int .i64 (if¬(0≤st∧st≤(ns:Int)-1) then 6 else if¬(0≤x∧x≤959) then 1 else 0):=by
 have hst:Rd B h ⟨q,0+0+0+1,none⟩ (.slice ps ns ks):=sh.tb 1 zS
 refine jae Tryz.func145 rfl rfl (l:=(.pointer (some ⟨q,0,none⟩))::(.pointer (some ⟨qs,0,none⟩))::(.pointer (some ⟨qa,0,none⟩))::uu18) rfl ?_
 intro cf cs K hK
 refine Z7 ?_;refine jaq [Zp 1,Zp 2,Zp 3,Zp 4,Zp 5,Zr 0,Zr 6,Zp 7,Zp 8,Zk 9,Zp 10,Zp 11] zK zK (gE _) ?_;refine Z5 ?_;refine jaN rfl zq (r1.keeps SubH.sub) ?_;refine jaN rfl zq (hst.keeps SubH.sub) ?_;refine Z2 ?_;refine D21 ?_
 rintro v (⟨hc,rfl⟩|⟨hc,rfl⟩)
 ·refine Z7 ?_;refine jaN rfl zq (r2.keeps SubH.sub) ?_;refine D21 ?_
  rintro v (⟨hc,rfl⟩|⟨hc,rfl⟩);refine Z7 ?_
  rotate_left
  refine Z5 ?_
  all_goals
   refine Z5 ?_;refine jac (h) rfl Tryz.func145 rfl jab ?_;refine Zs ?_
   exact E2
 ·refine Z10 ?_;refine jac (h) rfl Tryz.func145 rfl jab ?_;refine Zs ?_
  exact E2
theorem f88_c (m:Md Tryz.prog B) (h:Hp) (ra:RawTb B h b ps ns ks pw nw cw pb nb cb) {gc gp:Array Value} {own:Int} (hcall:jcd Tryz.prog fid=true) (hown:TbOk b→ ∀(H':Hp) (q:Nat),h.Sublist H'→Sheet B H' b q (tbL b ps ns ks pw nw cw pb nb cb)→FnC m fid (gc++[Value.pointer (some ⟨q,0,none⟩)].toArray++gp) H' fun v h'=>h'=H'∧v= .int .i64 own):FnC m 88 #[tbV b ps ns ks pw nw cw pb nb cb,.func (.func fid) gc gp] h fun v h'=> ∃nz,h'=h++nz∧jhh B b (tbL b ps ns ks pw nw cw pb nb cb) (jaH b own) nz v:=by
 refine jae Tryz.func88 rfl rfl (l:=(tbV b ps ns ks pw nw cw pb nb cb)::(.func (.func fid) gc gp)::uu34) rfl ?_
 intro cf cs K hK
 refine Z2 ?_
 refine jaA rfl zq (fun q2=>jao (jad ?_));refine jay rfl zq (fun q4=>jao (jad ?_));refine Z6 ?_;refine D44 ?_
 rintro v rfl;refine Z6 ?_
 refine jaI rfl zq (fun hc=>?_) (fun hc=>?_)
 ·refine Z4 ?_;refine D30 ?_;refine Zs ?_;refine jdP ?_;refine jac (h) rfl Tryz.func88 rfl jab ?_;refine Zs ?_
  exact ⟨[],by simp,by rw [jqM zD];exact jgY zD⟩
 ·refine Z4 ?_
  have hz0:tbS b=0:=by omega
  have hk:=jbf.1 hz0
  have hbl:=jbr hk
  have h12:=ja3 hk
  refine Z2 ?_;refine D13 ?_
  rintro v n9 ⟨q9,rfl,sh⟩;refine jaz (jad ?_);refine D30 ?_
  refine jay rfl zq (fun q7=>jao (jad ?_));refine D4 ?_;refine Z7 ?_;refine jfF (Post:=fun v=>v=_) rfl zq hcall (fun H' hH=>hown hk H' q9 (sq hH) (sh.keeps (Gb (Gb (gK _ _) (gG _ _)) hH))) ?_
  rintro v rfl;refine Z6 ?_
  refine jaI rfl zq (fun hc=>?_) (fun hc=>?_)
  ·refine Z4 ?_;refine D30 ?_;refine Zs ?_;refine jdP ?_;refine jac (h) rfl Tryz.func88 rfl jab ?_;refine Zs ?_
   exact ⟨[],by simp,by rw [openS_o hz0 zD];exact jgY zD⟩
  ·refine Z8 ?_;refine D27 ?_
   rintro v n8 o8;refine jaz (jad ?_);obtain ⟨p8,c8,rfl,hc8,r8⟩:=jas (B:=B) o8
   refine Zs ?_;refine D19 ?_;refine Z6 ?_
   refine jaE rfl zq (fun hc=>?_) (fun hc=>?_)
   ·refine Z4 ?_;refine D30 ?_;refine jdP ?_;refine jac (h) rfl Tryz.func88 rfl jab ?_;refine Zs ?_
    exact ⟨[],by simp,by rw [jm3 hz0 zO (GB.1 zO)];exact jgY zA⟩
   ·refine Z6 ?_;refine jdP ?_;refine jac (h++n9++n8) rfl Tryz.func88 rfl jab ?_;refine Zs ?_
    have e:jaH b own=0:=jm4 hz0 zO (fun e=>hc (by rw [e];rfl))
    exact ⟨n9++n8,by rw [gI],_,_,_,_,by rw [e],fun _=>⟨q9,rfl,sh.keeps (gG _ _),rfl,hc8,r8.keeps (gK _ _)⟩⟩
end
section
variable [LaidO B]
def jgX (b:Tb) (c:Ce):Int:=if c∈jaa b then 0 else 6
def jjR (L:List Bo) (k j:Nat):List Int:=(L.take j).filterMap fun x=>xA x k
theorem jqK (hj:j<L.length) (h:xA (L.getD j []) k=some v):jjR L k (j+1)=jjR L k j++[v]:=by
 rw [jjR,Gh,gD hj,Gq,List.filterMap_append];rw [gC,gD hj] at h
 have h':xA L[j] k=some v:=h
 have e:[L[j]].filterMap (fun x=>xA x k)=[v]:=by simp only [List.filterMap_cons,h',List.filterMap_nil]
 rw [e];rfl
theorem jqL (hj:j<L.length) (h:xA (L.getD j []) k=none):jjR L k (j+1)=jjR L k j:=by
 rw [jjR,Gh,gD hj,Gq,List.filterMap_append];rw [gC,gD hj] at h
 have h':xA L[j] k=none:=h
 have e:[L[j]].filterMap (fun x=>xA x k)=[]:=by simp only [List.filterMap_cons,h',List.filterMap_nil]
 rw [e,ge];rfl
theorem outK_le (L:List Bo) (k j:Nat):(jjR L k j).length≤j:=by
 have h1:=List.length_filterMap_le (fun x:Bo=>xA x k) (L.take j)
 have h2:=xb j L
 rw [jjR];omega
theorem job:z∈jjR L k L.length↔ ∃x∈L,xA x k=some z:=by
 rw [jjR,GE,List.mem_filterMap]
theorem asc_meaS (s:Str):Asc (jdN s):=by
 rw [jdN];split
 ·rw [jjV];unfold Asc
  rw [Gi];exact ((vt).filter _).imp fun h=>by omega
 ·exact List.Pairwise.nil
theorem asc_canS (h:k<(jaa b).length):Asc (canS (cdT b) L k):=by
 unfold Asc canS
 rw [jaB b h];exact (asc_meaS _).filter _
theorem joc (L:List Bo) (hL: ∀x∈L,okA (cdT b) x=true):z∈canS (cdT b) L k↔ ∃x∈L,xA x k=some z:=by
 rw [canS,ga,Vx];simp only [decide_eq_true_eq]
 exact ⟨fun h=>h.2,fun ⟨x,hx,h⟩=>⟨(jiA.1 (hL x hx)).2.1 k z h,x,hx,h⟩⟩
theorem ji8: ∀x∈jah b,okA (cdT b) x=true:=fun x hx=>(jbJ.1 hx).1
theorem jcU {x:Bo} (h:x∈jah b):x.length=(jaa b).length:=by rw [←jau];exact jeb h
theorem bo_at {e:Nat} {rw:Bool} {x:Bo} [hx:Has h q rw (.cells (boL x).toArray e f)] (i:Nat) (hi:i<12):Rd B h ⟨q,1+(i:Int).toNat*1,none⟩ (.int .i64 ((xA x i).getD 0)):=by
 have:=bt_at (B:=B) (h:=h) (q:=q) (e:=e) (rw:=rw) (f:=f) (s:=jcL x) (ms:=jn6 x) (x:=hx) i (by rw [jbO];exact hi)
 rw [jfU hi] at this
 exact this
theorem jhx {x:Bo} (h:k<x.length):(jcL x).testBit k=(xA x k).isNone:=by
 rw [jdJ];cases xA x k<;>simp [h]
def jdQ (L:List Bo) (k j:Nat):Nat:=(L.take j).countP fun x=>(xA x k).isNone
theorem jh2 (hj:j<L.length):jdQ L k (j+1)=jdQ L k j+if (xA (L.getD j []) k).isNone then 1 else 0:=by
 rw [jdQ,Gh,gD hj,Gq,Vo,gC,gD hj,List.countP_singleton];rfl
theorem jlc (L:List Bo) (k j:Nat):jdQ L k j≤j:=by
 have h1:=vB (p:=fun x:Bo=>(xA x k).isNone) (l:=L.take j)
 have h2:=xb j L
 rw [jdQ];omega
theorem jjy (L:List Bo) (k:Nat):jdQ L k L.length=jnz L k:=by rw [jdQ,GE];rfl
def jr0 (b:Tb) (c:Ce):List Int:=if jaH b (jgX b c)=0 then canS (cdT b) (jah b) (plN b c) else []
theorem jk5:jcd Tryz.prog 149=true:=by kernel_rfl
theorem jkA {c:Ce} [x:Has h q true (.cells (ceL c).toArray 37 (0,0))]:RdN B h q 0 (ceL c):=fun j hj=>by
 rw [GG];refine Rd.held x.mem ?_
 rw [gd,gD hj,gC,gD hj];rfl
theorem RdN.keepsN {b o:Nat} (r:RdN B h b o vs) (k:h.Sublist H):RdN B H b o vs:=fun j hj=>(r j hj).keeps k
theorem f30_c (m:Md Tryz.prog B) (h:Hp) (ra:RawTb B h b ps ns ks pw nw cw pb nb cb) (c:Ce):FnC m 30 #[tbV b ps ns ks pw nw cw pb nb cb,cV c.butt c.line c.st] h fun v h'=>h'=h∧v= .tuple [.int .i64 (if jaH b (jgX b c)=0 then jkm (jnz (jah b) (plN b c)) (jah b).length else 0),.int .i64 (jaH b (jgX b c))].toArray:=by
 refine jae Tryz.func30 rfl rfl (l:=(tbV b ps ns ks pw nw cw pb nb cb)::(cV c.butt c.line c.st)::uu47) rfl ?_
 intro cf cs K hK
 refine Z2 ?_
 refine jaA rfl zq (fun q2=>jao (jad ?_));refine jaA rfl zq (fun q3=>jao (jad ?_));refine Z4 ?_;refine jbi [0,1,2,3,4,5,6,7,8,9] zK zK (gE _) ?_
 refine DrawT.split 2 7 zA (DrawT.split 3 7 zA ?_ ?_) ?_
 refine D74 ?_;refine Z2 ?_;refine D5 ?_
 rintro v nz ⟨qs,rfl,rfl⟩;refine jaz (jad ?_);refine D3 ?_
 rintro v n8 ⟨qp,p8,m8,c8,rfl,hz⟩;refine jaz (jad ?_);refine Z3 ?_
 refine jay rfl zq (fun q6=>jao (jad ?_));rotate_left
 refine D75 ?_;refine Z2 ?_;refine D5 ?_
 rintro v nz ⟨qs,rfl,rfl⟩;refine jaz (jad ?_);refine jay rfl zq (fun q6=>jao (jad ?_));refine D3 ?_
 rintro v n8 ⟨qp,p8,m8,c8,rfl,hz⟩;refine jaz (jad ?_);refine Z3 ?_
 rotate_left
 refine D76 ?_;refine Z2 ?_
 refine jay rfl zq (fun q6=>jao (jad ?_));refine D5 ?_
 rintro v nz ⟨qs,rfl,rfl⟩;refine jaz (jad ?_);refine D3 ?_
 rintro v n8 ⟨qp,p8,m8,c8,rfl,hz⟩;refine jaz (jad ?_);refine Z3 ?_
 all_goals
  refine D4 ?_;refine Z6 ?_
  refine jaI rfl zq (fun hc=>?_) (fun hc=>?_)
  ·refine Z9 ?_;refine jac (h) rfl Tryz.func30 rfl jab ?_;refine Zs ?_
   exact ⟨rfl,by rw [if_neg zD]⟩
  ·refine Z4 ?_
   have hz0:jaH b (jgX b c)=0:=by first|assumption|omega
   obtain ⟨q9,rfl,sh,rfl,hc8,rdB⟩:=hz hz0
   obtain ⟨hzb,hzo,hzn⟩:=jca hz0
   have hk:=jbf.1 hzb
   have hbl:=jbr hk
   have h12:=ja3 hk
   have hin:c∈jaa b:=gt fun e=>by rw [jgX,if_neg e] at hzo;cases hzo
   have hpl:=jlU.2 hin
   obtain ⟨kk,hkk⟩: ∃kk,kk=plN b c:=⟨_,rfl⟩
   rw [←hkk] at hpl
   obtain ⟨mrw,qm,hm1,hm2⟩:=sh.map
   haveI hmh:Has n8 qm mrw (jgL (jaa b)):=⟨hm2⟩
   refine Z12 ?_;refine D24 ?_
   refine jag (fun nn l h'=> ∃(j:Nat),nn=(jah b).length-j∧(j≤(jah b).length)∧(∃U:Nat→Value,l=((tbV b ps ns ks pw nw cw pb nb cb)::(cV c.butt c.line c.st)::(U 2)::(.pointer (some ⟨q3,0,none⟩))::(U 4)::(U 5)::(.pointer (some ⟨q6,0,none⟩))::(U 7)::(.int .i64 (jdQ (jah b) kk j:Int))::vw13 U 9 ((.slice p8 (jah b).length c8)::(.int .i64 ((jah b).length:Int))::(.int .i64 (j:Int))::vw24 U 25 [])))∧h++[⟨true,q2,.cells (tbL b ps ns ks pw nw cw pb nb cb).toArray 25 (0,0)⟩,⟨true,q3,.cells (ceL c).toArray 37 (0,0)⟩]++[⟨true,qs,.cells (ceL c).toArray 37 (0,0)⟩]++n8++[⟨true,q6,.cells [.pointer (some ⟨q9,0,none⟩),.slice p8 (jah b).length c8].toArray 112 (0,0)⟩]=h') _ ⟨0,rfl,by omega,exU rfl,rfl⟩ ?_;rintro nn l h' ⟨j,rfl,hj,⟨U,rfl⟩,rfl⟩ hnext;have hwk:=jlc (jah b) kk j
   refine Z2 ?_
   refine jam rfl zq (fun hc=>?_) (fun hc=>?_)
   ·refine Z7 ?_
    obtain ⟨rb,ro,hrp⟩:=rdB.ptr zO
    have rdB':=rdB
    rw [hrp] at rdB'
    have hxm:(jah b).getD j []∈jah b:=by rw [gC,gD zO];exact vF _
    have hxl:=jcU hxm
    refine Zs ?_;refine D57 ?_;refine D73 ?_
    obtain ⟨x,hx⟩: ∃x,x=(jah b).getD j []:=⟨_,rfl⟩
    rw [←hx] at hxm hxl⊢
    have hxb:=jcW (x:=x) zO
    refine jay rfl zq (fun q10=>jao (jad ?_));refine jl5 rfl zq (jaP x) ?_;refine Z2 ?_;refine jaq [Zp 0,Zp 2,Zr 1,Zr 3,Zp 4,Zp 5,Zr 6,Zr 7,Zr 8,Zk 9] zK zK (gE _) ?_;refine Z6 ?_;refine jaN rfl zq (hm1.keeps SubH.sub) ?_;refine Zs ?_;refine jma (c:=c) (cs:=jaa b) (k:=37) (e:=3) zK rfl zq ?_;refine jaf (Post:=fun v=>IsB _ v) rfl zq zK (fun H' hH=>by
      rw [jiu hin,←hkk];exact f98_b m H' (jcL x) kk hxb zO) ?_
    rintro v (⟨hc,rfl⟩|⟨hc,rfl⟩);refine Z8 ?_
    rotate_left
    refine Z4 ?_
    all_goals
     refine Z5 ?_
    ·have hws:jdQ (jah b) kk (j+1)=jdQ (jah b) kk j:=by
      rw [jh2 zO,←hx,←jhx zO,if_neg hc];rfl
     rw [←hws];exact m.weak jab (hnext _ _ _ zO ⟨j+1,rfl,by omega,exU rfl,rfl⟩)
    ·have hws:jdQ (jah b) kk (j+1)=jdQ (jah b) kk j+1:=by
      rw [jh2 zO,←hx,←jhx zO,hc];rfl
     rw [show (jdQ (jah b) kk j:Int)+1=((jdQ (jah b) kk (j+1):Nat):Int) by rw [hws];rfl];exact m.weak jab (hnext _ _ _ zO ⟨j+1,rfl,by omega,exU rfl,rfl⟩)
   ·refine Z6 ?_
    have hjn:j=(jah b).length:=by omega
    rw [hjn,jjy];have hwa:=jlc (jah b) kk (jah b).length
    rw [jjy] at hwa
    refine Z6 ?_
    refine jaE rfl zq (fun hc=>?_) (fun hc=>?_)
    ·refine Z9 ?_;refine jac (h) rfl Tryz.func30 rfl jab ?_;refine Zs ?_
     refine ⟨rfl,?_⟩
     rw [if_pos hz0,hz0,←hkk];first
      |rw [jkm,if_pos zO]
      |rw [jkm,if_neg zO,if_pos zO]
      |rw [jkm,if_neg zO,if_neg zO]
    ·refine Z8 ?_
     refine jaE rfl zq (fun hc=>?_) (fun hc=>?_);refine Z3 ?_
     rotate_left
     refine Z5 ?_
     all_goals
      refine Z6 ?_;refine jac (h) rfl Tryz.func30 rfl jab ?_;refine Zs ?_
      refine ⟨rfl,?_⟩
      rw [if_pos hz0,hz0,←hkk];first
       |rw [jkm,if_pos zO]
       |rw [jkm,if_neg zO,if_pos zO]
       |rw [jkm,if_neg zO,if_neg zO]
end
section
variable [LaidO B]
theorem f150_s (m:Md Tryz.prog B):PdqC m 12:=by
 intro h bk n c xs junk lim hl hn hk0 hk1
 refine jae Tryz.func150 rfl rfl (l:=(.slice (some ⟨bk,0,none⟩) n c)::(.int .i64 0)::(.int .i64 (n:Int))::(.int .i64 lim)::uu130) rfl ?_
 intro cf cs K hK
 refine Z9 ?_
 refine jag (fun nn l h'=> ∃(k:Nat),nn=k+1∧(k=0)∧(∃U:Nat→Value,l=((.slice (some ⟨bk,0,none⟩) n c)::(.int .i64 0)::(.int .i64 (n:Int))::(.int .i64 lim)::vw130 U 4 []))∧h++[jjj bk xs junk]=h') _ ⟨0,rfl,rfl,exU rfl,rfl⟩ ?_;rintro nn l h' ⟨k,rfl,hk,⟨U,rfl⟩,rfl⟩ hnext;refine Z12 ?_
 refine jcB rfl zq (fun hc=>?_) (fun hc=>?_)
 ·refine Z7 ?_;refine jdp rfl zq zK (f181_c m h hl zO 0 n zO (gM _)) ?_
  rintro v h' ⟨rfl,ys,rfl,hsw,hso⟩;refine Z3 ?_;refine jac (h++[jjj bk ys junk]) rfl Tryz.func150 rfl jab ?_;refine Zs ?_
  exact ⟨rfl,ys,rfl,hsw,hso⟩
 ·exfalso
  omega
theorem f29_n (m:Md Tryz.prog B) (h:Hp) (hP:PdqC m N) (hN:N≤60000) (ra:RawTb B h b ps ns ks pw nw cw pb nb cb) (c:Ce) (hbN:tbS b=0→(jah b).length≤N):FnC m 29 #[tbV b ps ns ks pw nw cw pb nb cb,cV c.butt c.line c.st] h fun v h'=> ∃new,h'=h++new∧ ∃w,v= .tuple [w,.int .i64 (jaH b (jgX b c))].toArray∧RdI B new w (jr0 b c):=by
 refine jae Tryz.func29 rfl rfl (l:=(tbV b ps ns ks pw nw cw pb nb cb)::(cV c.butt c.line c.st)::uu51) rfl ?_
 intro cf cs K hK
 refine Z2 ?_
 refine jaA rfl zq (fun q2=>jao (jad ?_));refine jaA rfl zq (fun q3=>jao (jad ?_));refine Z4 ?_;refine jbi [0,1,2,3,4,5,6,7,8,9] zK zK (gE _) ?_
 refine DrawT.split 2 7 zA (DrawT.split 3 7 zA ?_ ?_) ?_
 refine D74 ?_;refine Z2 ?_;refine D5 ?_
 rintro v nz ⟨qs,rfl,rfl⟩;refine jaz (jad ?_);refine D3 ?_
 rintro v n8 ⟨qp,p8,m8,c8,rfl,hz⟩;refine jaz (jad ?_);refine Z3 ?_
 refine jay rfl zq (fun q6=>jao (jad ?_));rotate_left
 refine D75 ?_;refine Z2 ?_;refine D5 ?_
 rintro v nz ⟨qs,rfl,rfl⟩;refine jaz (jad ?_);refine jay rfl zq (fun q6=>jao (jad ?_));refine D3 ?_
 rintro v n8 ⟨qp,p8,m8,c8,rfl,hz⟩;refine jaz (jad ?_);refine Z3 ?_
 rotate_left
 refine D76 ?_;refine Z2 ?_
 refine jay rfl zq (fun q6=>jao (jad ?_));refine D5 ?_
 rintro v nz ⟨qs,rfl,rfl⟩;refine jaz (jad ?_);refine D3 ?_
 rintro v n8 ⟨qp,p8,m8,c8,rfl,hz⟩;refine jaz (jad ?_);refine Z3 ?_
 all_goals
  refine D4 ?_;refine Z6 ?_
  refine jaI rfl zq (fun hc=>?_) (fun hc=>?_)
  ·refine Z9 ?_;refine jac (h) rfl Tryz.func29 rfl jab ?_;refine Zs ?_
   exact ⟨[],by simp,_,rfl,by rw [jr0,if_neg zD];exact ⟨none,0,rfl,⟨none,0,rfl,rfl,.inl ⟨rfl,rfl⟩⟩⟩⟩
  ·refine Z4 ?_
   have hz0:jaH b (jgX b c)=0:=by first|assumption|omega
   obtain ⟨q9,rfl,sh,rfl,hc8,rdB⟩:=hz hz0
   obtain ⟨hzb,hzo,hzn⟩:=jca hz0
   have hk:=jbf.1 hzb
   have hbl:=jbr hk
   have h12:=ja3 hk
   have hin:c∈jaa b:=gt fun e=>by rw [jgX,if_neg e] at hzo;cases hzo
   have hpl:=jlU.2 hin
   obtain ⟨kk,hkk⟩: ∃kk,kk=plN b c:=⟨_,rfl⟩
   rw [←hkk] at hpl
   obtain ⟨mrw,qm,hm1,hm2⟩:=sh.map
   haveI hmh:Has n8 qm mrw (jgL (jaa b)):=⟨hm2⟩
   refine jaq [Zp 0,Zr 1,Zp 2,Zp 3,Zr 4,Zr 5,Zr 6,Zp 7] zK zK (gE _) ?_;refine Z4 ?_;refine jaN rfl zq (hm1.keeps (by first|exact SubH.sub|exact E41)) ?_;refine Zs ?_;refine jma (c:=c) (cs:=jaa b) (k:=37) (e:=3) zK rfl zq ?_;rw [jiu hin,←hkk,gu];refine Z15 ?_;refine D24 ?_
   refine jag (fun nn l h'=> ∃(j:Nat) (wp:Option Addr) (wc:Nat) (M:Hp),nn=(jah b).length-j∧(j≤(jah b).length)∧(OwnS 3 1 (.slice wp (jjR (jah b) kk j).length wc) (jjR (jah b) kk j).length (jav (jjR (jah b) kk j)) M)∧((jjR (jah b) kk j)=[]→wp=none∧wc=0∧M=[])∧(∃U:Nat→Value,l=((tbV b ps ns ks pw nw cw pb nb cb)::(cV c.butt c.line c.st)::(U 2)::(.pointer (some ⟨q3,0,none⟩))::(U 4)::(U 5)::(.pointer (some ⟨q6,0,none⟩))::(U 7)::(.int .i64 (kk:Int))::(.slice wp (jjR (jah b) kk j).length wc)::vw20 U 10 ((.slice p8 (jah b).length c8)::(.int .i64 ((jah b).length:Int))::(.int .i64 (j:Int))::vw20 U 33 [])))∧h++[⟨true,q2,.cells (tbL b ps ns ks pw nw cw pb nb cb).toArray 25 (0,0)⟩,⟨true,q3,.cells (ceL c).toArray 37 (0,0)⟩]++[⟨true,qs,.cells (ceL c).toArray 37 (0,0)⟩]++n8++[⟨true,q6,.cells [.pointer (some ⟨q9,0,none⟩),.slice p8 (jah b).length c8].toArray 112 (0,0)⟩]++M=h') _ ⟨0,none,0,[],rfl,by omega,OwnS.nil,fun _=>⟨rfl,rfl,rfl⟩,exU rfl,(by rw [ge])⟩ ?_;rintro nn l h' ⟨j,wp,wc,M,rfl,hj,how,hze,⟨U,rfl⟩,rfl⟩ hnext;have hol:=outK_le (jah b) kk j
   refine Z2 ?_
   refine jam rfl zq (fun hc=>?_) (fun hc=>?_)
   ·refine Z7 ?_
    obtain ⟨rb,ro,hrp⟩:=rdB.ptr zO
    have rdB':=rdB
    rw [hrp] at rdB'
    have hxm:(jah b).getD j []∈jah b:=by rw [gC,gD zO];exact vF _
    have hxl:=jcU hxm
    refine Zs ?_;refine D57 ?_;refine D73 ?_
    obtain ⟨x,hx⟩: ∃x,x=(jah b).getD j []:=⟨_,rfl⟩
    rw [←hx] at hxm hxl⊢
    have hxb:=jcW (x:=x) zO
    refine jay rfl zq (fun q11=>jao (jad ?_));refine jl5 rfl zq (jaP x) ?_;refine Z6 ?_;refine jaf (Post:=fun v=>IsB _ v) rfl zq zK (fun H' hH=>f98_b m H' (jcL x) kk hxb zO) ?_;rintro v (⟨hc,rfl⟩|⟨hc,rfl⟩);refine Z5 ?_
    rotate_left
    refine Z9 ?_;refine jaN rfl zq (bo_at kk zO) ?_
    refine jb7 kdq rfl zq zA zA rfl (fun q46=>jao (jad ?_));refine ja6 rfl zq rfl how kdq zO zO (fun w47 n47 o47=>jad ?_);obtain ⟨p47,c47,rfl,hc47,r47⟩:=jas (B:=B) o47
    refine Z2 ?_
    all_goals
     refine Z5 ?_
    ·have hxs:xA x kk=some ((xA x kk).getD 0):=by
      cases e:xA x kk with
      |none=>exact absurd (by rw [jhx zO,e];rfl) hc
      |some v=>rfl
     have hks:=jqK (L:=jah b) (k:=kk) (j:=j) zO (hx▸hxs)
     have hkl:(jjR (jah b) kk (j+1)).length=(jjR (jah b) kk j).length+1:=by rw [hks];simp
     rw [←hkl];refine m.weak (h':=h++[⟨true,q2,.cells (tbL b ps ns ks pw nw cw pb nb cb).toArray 25 (0,0)⟩,⟨true,q3,.cells (ceL c).toArray 37 (0,0)⟩]++[⟨true,qs,.cells (ceL c).toArray 37 (0,0)⟩]++n8++[⟨true,q6,.cells [.pointer (some ⟨q9,0,none⟩),.slice p8 (jah b).length c8].toArray 112 (0,0)⟩]++n47) jf8 ?_
     exact hnext _ _ _ zO ⟨j+1,p47,c47,n47,rfl,by omega,by rw [hkl,hks,jbo,←hx];exact o47,fun e=>by rw [hks] at e;simp at e,exU rfl,rfl⟩
    ·have hks:=jqL (L:=jah b) (k:=kk) (j:=j) zO (by
      have e:=hc
      rw [jhx zO,Gx] at e
      rw [←hx];exact e)
     rw [←hks];refine m.weak (h':=h++[⟨true,q2,.cells (tbL b ps ns ks pw nw cw pb nb cb).toArray 25 (0,0)⟩,⟨true,q3,.cells (ceL c).toArray 37 (0,0)⟩]++[⟨true,qs,.cells (ceL c).toArray 37 (0,0)⟩]++n8++[⟨true,q6,.cells [.pointer (some ⟨q9,0,none⟩),.slice p8 (jah b).length c8].toArray 112 (0,0)⟩]++M) jf8 ?_
     exact hnext _ _ _ zO ⟨j+1,wp,wc,M,rfl,by omega,by rw [hks];exact how,by rw [hks];exact hze,exU rfl,rfl⟩
   ·refine Z5 ?_
    have hbN2:=hbN hzb
    obtain rfl:j=(jah b).length:=by omega
    by_cases h0:jjR (jah b) kk (jah b).length=[]
    ·obtain ⟨rfl,rfl,rfl⟩:=hze h0
     rw [show (jjR (jah b) kk (jah b).length).length=0 by rw [h0];rfl];refine Z2 ?_;refine jaf (Post:=fun _=>True) rfl zq zK (fun H' hH=>CallF.mono (f99_z m H') fun v h' e=>⟨e,trivial⟩) ?_
     rintro v _;refine Z5 ?_;refine jaf (Post:=fun v=>v= .slice none 0 0) rfl zq zK (fun H' hH=>f100_z m H') ?_
     rintro v rfl;refine Z5 ?_;refine jac (h) rfl Tryz.func29 rfl jab ?_;refine Zs ?_
     have hcl:jr0 b c=canS (cdT b) (jah b) kk:=by rw [jr0,if_pos hz0,←hkk]
     have hce:canS (cdT b) (jah b) kk=[]:=by
      rw [List.eq_nil_iff_forall_not_mem];intro z hzz
      rw [joc _ ji8,←job,h0] at hzz
      cases hzz
     exact ⟨[],by simp,_,by rw [hz0],by rw [hcl,hce];exact ⟨none,0,rfl,⟨none,0,rfl,rfl,.inl ⟨rfl,rfl⟩⟩⟩⟩
    ·obtain ⟨bk,c9,junk,hw9,rfl,hbk1,hbk2⟩:=jqJ how (VI.2 h0)
     cases hw9
     refine Z2 ?_;refine jdp rfl zq zK (f99_c m _ hP hN hbk1 zO) ?_
     rintro v h' ⟨rfl,ys,rfl,hsw,hso⟩;refine Zs ?_
     have hyl:=hsw.length
     refine Z4 ?_;refine jdp rfl zq zK (f100_c m _ (show ys.length=_ by omega) hbk2 zO) ?_
     rintro v h' ⟨n11,rfl,k11,hk',ho'⟩;refine Z5 ?_;refine jac (h++n11) rfl Tryz.func29 rfl jab ?_;refine Zs ?_
     have hcl:jr0 b c=canS (cdT b) (jah b) kk:=by rw [jr0,if_pos hz0,←hkk]
     have hyn:ys.length=(jjR (jah b) kk (jah b).length).length:=by omega
     rw [←hyn] at hso ho' hk'
     subst hk'
     have hye:jc8 ys ys.length=canS (cdT b) (jah b) kk:=asc_uniq (jh6 hso _ (gM _)).1 (asc_canS hpl) fun z=>by
      rw [jqT hso,joc _ ji8,←job];exact (hsw.perm zO).mem_iff
     rw [hye] at ho'
     obtain ⟨p11,c11,rfl,_,r11⟩:=jas (B:=B) ho'
     exact ⟨n11,rfl,_,by rw [hz0],by rw [hcl];exact ⟨p11,c11,rfl,r11⟩⟩
theorem f29_s (m:Md Tryz.prog B) (h:Hp) (ra:RawTb B h b ps ns ks pw nw cw pb nb cb) (c:Ce) (hb:(jah b).length≤12):FnC m 29 #[tbV b ps ns ks pw nw cw pb nb cb,cV c.butt c.line c.st] h fun v h'=> ∃new,h'=h++new∧ ∃w,v= .tuple [w,.int .i64 (jaH b (jgX b c))].toArray∧RdI B new w (jr0 b c):=f29_n m h (f150_s m) zA ra c fun _=>hb
end
section
variable [LaidO B]
section
variable {bt:Bool} {st p v lo hi:Int} {d:Cd} {o:Option Int} {s:Int×Int}
theorem jcM (h:d.st≠st):jdl bt st p d o s=s:=by cases o with|none=>rfl|some v=>rw [jdl,if_pos h]
theorem jd1:jdl bt st p d none s=s:=rfl
theorem jdK (h:d.st=st) (hb:d.butt=bt):jdl bt st p d (some v) (lo,hi)=(if d.lat≤p then max lo v else lo,if p≤d.lat then min hi v else hi):=by
 rw [jdl,if_neg (fun e=>e h),if_pos hb]
theorem jcN (h:d.st=st) (hb:d.butt≠bt):jdl bt st p d (some v) (lo,hi)=(if v<p then max lo d.lat else lo,if p<v then min hi d.lat else hi):=by
 rw [jdl,if_neg (fun e=>e h),if_neg hb]
end
theorem jal {a c:Prop} [Decidable a] [Decidable c] {x y w:Int}:(a→c→((if a then x else y,if c then z else w):Int×Int)=(x,z))∧(a→ ¬c→((if a then x else y,if c then z else w):Int×Int)=(x,w))∧(¬a→c→((if a then x else y,if c then z else w):Int×Int)=(y,z))∧(¬a→ ¬c→((if a then x else y,if c then z else w):Int×Int)=(y,w)):=
 ⟨fun h k=>by rw [if_pos h,if_pos k],fun h k=>by rw [if_pos h,if_neg k],fun h k=>by rw [if_neg h,if_pos k],fun h k=>by rw [if_neg h,if_neg k]⟩
theorem bdK_in {D:List Cd} {x:Bo} {bt:Bool} {st p:Int} (hd: ∀i,0≤(dA D i).lat∧(dA D i).lat≤959) (hx: ∀i v,xA x i=some v→0≤v∧v≤959): ∀k,(0≤(bdK D x bt st p k).1∧(bdK D x bt st p k).1≤959)∧(0≤(bdK D x bt st p k).2∧(bdK D x bt st p k).2≤959)
 |0=>⟨⟨vd 0,by show (0:Int)≤959;decide⟩,⟨by show (0:Int)≤959;decide,vd 959⟩⟩
 |k+1=>by
  have ih:=bdK_in (bt:=bt) (st:=st) (p:=p) hd hx k
  rw [jbh];generalize bdK D x bt st p k=s at ih⊢
  obtain ⟨lo,hi⟩:=s
  simp only at ih
  have h1:=hd k
  cases hv:xA x k with
  |none=>exact ih
  |some v=>
   have h2:=hx k v hv
   by_cases e:(dA D k).st=st
   ·by_cases e2:(dA D k).butt=bt
    ·rw [jdK e e2];simp only
     constructor<;>split<;>omega
    ·rw [jcN e e2];simp only
     constructor<;>split<;>omega
   ·rw [jcM e];exact ih
theorem meaS_in {s:Str} (h:z∈jdN s):0≤z∧z≤959:=by
 rw [jdN] at h
 split at h
 ·rw [jjV,gR] at h
  obtain ⟨n,hn,rfl⟩:=h
  rw [ga,gT] at hn
  omega
 ·cases h
theorem cd_lat (k:TbOk b) (i:Nat):0≤(dA (cdT b) i).lat∧(dA (cdT b) i).lat≤959:=by
 by_cases h:i<(jaa b).length
 ·rw [jaB b h];have hm:(jaa b).getD i default∈jaa b:=jaj h
  exact ((k.lines _).ok _ (jdR (jbS hm).1)).lat
 ·rw [dA,gC,gh (by rw [jau];omega)];decide
theorem boat_in {x:Bo} (h:x∈jah b) (hv:xA x i=some v):0≤v∧v≤959:=by
 have h1:=(jiA.1 (ji8 x h)).2.1 i v hv
 have hi:i<(jaa b).length:=gt fun e=>by
  rw [xA,gC,gh (by rw [jcU h];omega)] at hv
  cases hv
 rw [jaB b hi] at h1
 exact meaS_in h1
theorem bdA_in (k:TbOk b) {x:Bo} (h:x∈jah b) (bt:Bool) (st p:Int):(0≤(bdA (cdT b) x bt st p).1∧(bdA (cdT b) x bt st p).1≤959)∧(0≤(bdA (cdT b) x bt st p).2∧(bdA (cdT b) x bt st p).2≤959):=bdK_in (cd_lat k) (fun i v hv=>boat_in h hv) _
def jmT (b:Tb) (bt:Bool) (st p:Int):Int×Int:=spB (fun x=>bdA (cdT b) x bt st p) (jah b)
def jfx (b:Tb) (st p:Int):Int:=if¬(0≤st∧st≤(b.sts.length:Int)-1) then 6 else if¬(0≤p∧p≤959) then 1 else 0
def jaZ (b:Tb) (bt:Bool) (st p:Int):Int×Int:=if jaH b (jfx b st p)=0 then jmT b bt st p else (0,0)
theorem spBK_one {f:Bo→Int×Int} (h:0<L.length) (h1:(f (L.getD 0 [])).1≤959) (h2:0≤(f (L.getD 0 [])).2):jp7 f L 1=f (L.getD 0 []):=by
 rw [jlu f L 0 h];have:jp7 f L 0=(959,0):=by rw [jp7,xg];rfl
 rw [this];refine Prod.ext ?_ ?_
 ·show min 959 _=_
  omega
 ·show max 0 _=_
  omega
theorem f146_c (m:Md Tryz.prog B) (h:Hp) (sh:Sheet B h b q tv) {x:Bo} (hx:x.length=(jaa b).length) (bt:Bool) (st p:Int):FnC m 146 #[.pointer (some ⟨q,0,none⟩),boV x,.bool bt,.int .i64 st,.int .i64 p] h fun v h'=>h'=h∧v= .tuple [.int .i64 (bdA (cdT b) x bt st p).1,.int .i64 (bdA (cdT b) x bt st p).2].toArray:=by
 have h12:=sh.twelve
 obtain ⟨pc,cc,hcv,hcc,hcr⟩:=sh.cells
 refine jae Tryz.func146 rfl rfl (l:=(.pointer (some ⟨q,0,none⟩))::(boV x)::(.bool bt)::(.int .i64 st)::(.int .i64 p)::uu81) rfl ?_
 intro cf cs K hK
 refine Z2 ?_
 refine jaA rfl zq (fun q6=>jao (jad ?_));refine Z13 ?_;refine D58 ?_;refine Z4 ?_
 refine jag (fun nn l h'=> ∃(i:Nat) (lo hi:Int),nn=(jaa b).length-i∧(i≤(jaa b).length)∧(bdK (cdT b) x bt st p i=(lo,hi))∧(∃U:Nat→Value,l=((.pointer (some ⟨q,0,none⟩))::(boV x)::(.bool bt)::(.int .i64 st)::(.int .i64 p)::(U 5)::(.pointer (some ⟨q6,0,none⟩))::(U 7)::(U 8)::(U 9)::(.int .i64 lo)::(.int .i64 hi)::vw8 U 12 ((.slice pc (jaa b).length cc)::(.int .i64 ((jaa b).length:Int))::(.int .i64 (i:Int))::vw63 U 23 [])))∧h++[⟨true,q6,.cells (boL x).toArray 136 (0,0)⟩]=h') _ ⟨0,0,959,rfl,by omega,rfl,exU rfl,rfl⟩ ?_;rintro nn l h' ⟨i,lo,hi,rfl,hi9,hbd,⟨U,rfl⟩,rfl⟩ hnext;refine Z2 ?_
 refine jam rfl zq (fun hc=>?_) (fun hc=>?_)
 ·refine Z7 ?_
  obtain ⟨pcb,pco,hpc⟩:=hcr.ptr zO
  have hcr':=hcr
  rw [hpc] at hcr'
  refine Z2 ?_;refine D82 ?_;refine jb4 (vs:=[.bool (jd2 b ((jaa b).getD i default)).butt,.int .i64 ((jaa b).getD i default).line,.int .i64 (jd2 b ((jaa b).getD i default)).st]) rfl zq rfl (hcr'.eat i zO zO) ?_
  refine jay rfl zq (fun q13=>jao (jad ?_));refine Zs ?_;refine D4 ?_;refine Z7 ?_
  refine jaI rfl zq (fun hc=>?_) (fun hc=>?_)
  ·refine Z13 ?_
   exact m.weak jab (hnext _ _ _ zO ⟨i+1,_,_,rfl,by omega,by
    rw [jbh,hbd,jaB b zO];first
     |exact jcM zD
     |(rw [hv];first
       |exact jd1
       |(rw [jdK zD hbt];exact E42)
       |(rw [jcN zD hbt];exact E42)),exU rfl,rfl⟩)
  ·refine Z4 ?_;refine jaf (Post:=fun v=>IsB _ v) rfl rfl zK (fun H' hH=>f98_b m H' (jcL x) i (jcW zO) zO) ?_
   rintro v (⟨hc,rfl⟩|⟨hc,rfl⟩)
   ·refine Zs ?_
    have hv:xA x i=none:=by
     rw [jhx zO] at hc
     exact Gx.1 hc
    refine Z8 ?_
    exact m.weak jab (hnext _ _ _ zO ⟨i+1,_,_,rfl,by omega,by
     rw [jbh,hbd,jaB b zO];first
      |exact jcM zD
      |(rw [hv];first
        |exact jd1
        |(rw [jdK zD hbt];exact E42)
        |(rw [jcN zD hbt];exact E42)),exU rfl,rfl⟩)
   ·refine Zs ?_
    obtain ⟨v,hv⟩: ∃v,xA x i=some v:=by
     cases e:xA x i with
     |none=>exact absurd (by rw [jhx zO,e];rfl) hc
     |some v=>exact ⟨v,rfl⟩
    refine Z5 ?_;refine jaq [Zp 0,Zp 1,Zp 2,Zp 3,Zp 4,Zp 6,Zp 7,Zp 8,Zr 5,Zp 10,Zr 9,Zp 11] zK zK (gE _) ?_;refine Z8 ?_;refine D66 ?_;refine Zs ?_;refine jaN rfl zq (bo_at i zO) ?_
    rw [hv,gu];refine Z7 ?_
    refine jdS rfl zq zK (fun hbt=>?_) (fun hbt=>?_);refine Z10 ?_
    rotate_left
    refine Z15 ?_
    all_goals
     refine Z2 ?_;refine jpG ?_;refine Z2 ?_
    ·refine jam rfl zq (fun hc=>?_) (fun hc=>?_)
     ·refine Z13 ?_;refine jhH rfl zq ?_;refine Z3 ?_;refine jpG ?_;refine Z2 ?_
      refine jaJ rfl zq (fun hc=>?_) (fun hc=>?_)
      ·refine Z13 ?_;refine jgt rfl zq ?_;refine Z7 ?_
       exact m.weak jab (hnext _ _ _ zO ⟨i+1,_,_,rfl,by omega,by
        rw [jbh,hbd,jaB b zO];first
         |exact jcM zD
         |(rw [hv];first
           |exact jd1
           |(rw [jdK zD hbt];exact E42)
           |(rw [jcN zD hbt];exact E42)),exU rfl,rfl⟩)
      ·refine Z3 ?_
       refine jaE rfl rfl (fun hc=>?_) (fun hc=>?_);refine Z3 ?_
       rotate_left
       refine Z3 ?_
       all_goals
        refine Z9 ?_
        exact m.weak jab (hnext _ _ _ zO ⟨i+1,_,_,rfl,by omega,by
         rw [jbh,hbd,jaB b zO];first
          |exact jcM zD
          |(rw [hv];first
            |exact jd1
            |(rw [jdK zD hbt];exact E42)
            |(rw [jcN zD hbt];exact E42)),exU rfl,rfl⟩)
     ·refine Z3 ?_
      refine jaE rfl rfl (fun hc=>?_) (fun hc=>?_);refine Z3 ?_
      rotate_left
      refine Z3 ?_
      all_goals
       refine Z5 ?_;refine jpG ?_;refine Z2 ?_
       refine jaJ rfl zq (fun hc=>?_) (fun hc=>?_)
       ·refine Z13 ?_;refine jgt rfl zq ?_;refine Z7 ?_
        exact m.weak jab (hnext _ _ _ zO ⟨i+1,_,_,rfl,by omega,by
         rw [jbh,hbd,jaB b zO];first
          |exact jcM zD
          |(rw [hv];first
            |exact jd1
            |(rw [jdK zD hbt];exact E42)
            |(rw [jcN zD hbt];exact E42)),exU rfl,rfl⟩)
       ·refine Z3 ?_
        refine jaE rfl rfl (fun hc=>?_) (fun hc=>?_);refine Z3 ?_
        rotate_left
        refine Z3 ?_
        all_goals
         refine Z9 ?_
         exact m.weak jab (hnext _ _ _ zO ⟨i+1,_,_,rfl,by omega,by
          rw [jbh,hbd,jaB b zO];first
           |exact jcM zD
           |(rw [hv];first
             |exact jd1
             |(rw [jdK zD hbt];exact E42)
             |(rw [jcN zD hbt];exact E42)),exU rfl,rfl⟩)
    ·refine jam rfl zq (fun hc=>?_) (fun hc=>?_)
     ·refine Z13 ?_;refine jhH rfl zq ?_;refine Z3 ?_;refine jpG ?_;refine Z2 ?_
      refine jaJ rfl zq (fun hc=>?_) (fun hc=>?_)
      ·refine Z13 ?_;refine jgt rfl zq ?_;refine Z7 ?_
       exact m.weak jab (hnext _ _ _ zO ⟨i+1,_,_,rfl,by omega,by
        rw [jbh,hbd,jaB b zO];first
         |exact jcM zD
         |(rw [hv];first
           |exact jd1
           |(rw [jdK zD hbt];exact E42)
           |(rw [jcN zD hbt];exact E42)),exU rfl,rfl⟩)
      ·refine Z3 ?_
       refine jaE rfl rfl (fun hc=>?_) (fun hc=>?_);refine Z9 ?_;refine jgt rfl zq ?_;refine Z2 ?_
       rotate_left
       refine Z7 ?_
       all_goals
        refine Z5 ?_
        exact m.weak jab (hnext _ _ _ zO ⟨i+1,_,_,rfl,by omega,by
         rw [jbh,hbd,jaB b zO];first
          |exact jcM zD
          |(rw [hv];first
            |exact jd1
            |(rw [jdK zD hbt];exact E42)
            |(rw [jcN zD hbt];exact E42)),exU rfl,rfl⟩)
     ·refine Z3 ?_
      refine jaE rfl rfl (fun hc=>?_) (fun hc=>?_);refine Z9 ?_;refine jhH rfl zq ?_;refine Z2 ?_
      rotate_left
      refine Z7 ?_
      all_goals
       refine Zs ?_;refine jpG ?_;refine Z2 ?_
       refine jaJ rfl zq (fun hc=>?_) (fun hc=>?_)
       ·refine Z13 ?_;refine jgt rfl zq ?_;refine Z7 ?_
        exact m.weak jab (hnext _ _ _ zO ⟨i+1,_,_,rfl,by omega,by
         rw [jbh,hbd,jaB b zO];first
          |exact jcM zD
          |(rw [hv];first
            |exact jd1
            |(rw [jdK zD hbt];exact E42)
            |(rw [jcN zD hbt];exact E42)),exU rfl,rfl⟩)
       ·refine Z3 ?_
        refine jaE rfl rfl (fun hc=>?_) (fun hc=>?_);refine Z9 ?_;refine jgt rfl zq ?_;refine Z2 ?_
        rotate_left
        refine Z7 ?_
        all_goals
         refine Z5 ?_
         exact m.weak jab (hnext _ _ _ zO ⟨i+1,_,_,rfl,by omega,by
          rw [jbh,hbd,jaB b zO];first
           |exact jcM zD
           |(rw [hv];first
             |exact jd1
             |(rw [jdK zD hbt];exact E42)
             |(rw [jcN zD hbt];exact E42)),exU rfl,rfl⟩)
 ·refine Z12 ?_;refine jac (h) rfl Tryz.func146 rfl jab ?_;refine Zs ?_
  obtain rfl:i=(jaa b).length:=by omega
  exact ⟨rfl,by rw [bdA,jau,hbd]⟩
theorem f91_c (m:Md Tryz.prog B) (h:Hp) (sh:Sheet B h b q tv) {x:Bo} (hx:x.length=(jaa b).length) (st p:Int):FnC m 91 #[.pointer (some ⟨q,0,none⟩),boV x,.int .i64 st,.int .i64 p] h fun v h'=>h'=h∧v= .tuple [.int .i64 (bdA (cdT b) x false st p).1,.int .i64 (bdA (cdT b) x false st p).2].toArray:=by
 refine jae Tryz.func91 rfl rfl (l:=(.pointer (some ⟨q,0,none⟩))::(boV x)::(.int .i64 st)::(.int .i64 p)::uu13) rfl ?_
 intro cf cs K hK
 refine Z2 ?_
 refine jaA rfl zq (fun q5=>jao (jad ?_));refine Z6 ?_;refine jb4 (vs:=boL x) rfl zq (jaP x) (jlS (Has.mem (b:=q5)) (seg_all (jaP x)).eq) ?_;refine Z2 ?_;refine jaf (Post:=fun v=>v=_) rfl zq zK (fun H' hH=>f146_c m H' (sh.keeps (sq hH)) hx false st p) ?_
 rintro v rfl;refine Z7 ?_;refine jac (h) rfl Tryz.func91 rfl jab ?_;refine Zs ?_
 exact ⟨rfl,rfl⟩
theorem f93_c (m:Md Tryz.prog B) (h:Hp) (sh:Sheet B h b q tv) {x:Bo} (hx:x.length=(jaa b).length) (st p:Int):FnC m 93 #[.pointer (some ⟨q,0,none⟩),boV x,.int .i64 st,.int .i64 p] h fun v h'=>h'=h∧v= .tuple [.int .i64 (bdA (cdT b) x true st p).1,.int .i64 (bdA (cdT b) x true st p).2].toArray:=by
 refine jae Tryz.func93 rfl rfl (l:=(.pointer (some ⟨q,0,none⟩))::(boV x)::(.int .i64 st)::(.int .i64 p)::uu13) rfl ?_
 intro cf cs K hK
 refine Z2 ?_
 refine jaA rfl zq (fun q5=>jao (jad ?_));refine Z6 ?_;refine jb4 (vs:=boL x) rfl zq (jaP x) (jlS (Has.mem (b:=q5)) (seg_all (jaP x)).eq) ?_;refine Z2 ?_;refine jaf (Post:=fun v=>v=_) rfl zq zK (fun H' hH=>f146_c m H' (sh.keeps (sq hH)) hx true st p) ?_
 rintro v rfl;refine Z7 ?_;refine jac (h) rfl Tryz.func93 rfl jab ?_;refine Zs ?_
 exact ⟨rfl,rfl⟩
theorem f90_c (m:Md Tryz.prog B) (h:Hp) {c:Nat} (rd:RdS B h 13 (.slice p n c) n (jaC L)) (hc0:n≤c) (hn:0<n∧n≤100000) {gc gp:Array Value} {f:Bo→Int×Int} {x:Int} (hcall:jcd Tryz.prog fid=true) (hf: ∀i,i<n→ ∀H':Hp,h.Sublist H'→FnC m fid (gc++[boV (L.getD i []),.int .i64 st,.int .i64 x].toArray++gp) H' fun v h'=>h'=H'∧v= .tuple [.int .i64 (f (L.getD i [])).1,.int .i64 (f (L.getD i [])).2].toArray) (h1:(f (L.getD 0 [])).1≤959) (h2:0≤(f (L.getD 0 [])).2):FnC m 90 #[.agg [.pointer qv,.slice p n c].toArray,.func (.func fid) gc gp,.int .i64 st,.int .i64 x] h fun v h'=>h'=h∧v= .agg [.int .i64 (spB f L).1,.int .i64 (spB f L).2].toArray:=by
 refine jae Tryz.func90 rfl rfl (l:=(.agg [.pointer qv,.slice p n c].toArray)::(.func (.func fid) gc gp)::(.int .i64 st)::(.int .i64 x)::uu51) rfl ?_
 intro cf cs K hK
 refine Z2 ?_
 refine jaA rfl zq (fun q4=>jao (jad ?_));refine jay rfl zq (fun q8=>jao (jad ?_));refine Z2 ?_
 obtain ⟨rb,ro,hrp⟩:=rd.ptr zO
 have rd':=rd
 rw [hrp] at rd'
 have hll:=rd.elen zA
 have rdc:=rd.cut (lo:=1) zO hc0
 rw [←jiZ] at rdc
 refine rr13 ?_;refine Z3 ?_;refine D57 ?_;refine jb4 (vs:=boL (L.getD 0 [])) rfl zq (jaP _) (rd'.eat 0 zO zO) ?_;refine Z2 ?_;refine jfF (Post:=fun v=>v=_) rfl zq hcall (fun H' hH=>hf 0 zO H' (sq hH)) ?_;rintro v rfl;refine Z11 ?_;refine D30 ?_
 refine jay rfl zq (fun q11=>jao (jad ?_));refine D4 ?_;refine Z6 ?_;refine jhV (a:=1) rfl zq rfl zO ?_;refine Z4 ?_
 refine jag (fun nn l h'=> ∃(k:Nat),nn=n-k∧(k+1≤n)∧(∃U:Nat→Value,l=((.agg [.pointer qv,.slice p n c].toArray)::(.func (.func fid) gc gp)::(.int .i64 st)::(.int .i64 x)::(.pointer (some ⟨q4,0,none⟩))::(U 5)::(U 6)::(U 7)::(.pointer (some ⟨q8,0,none⟩))::(U 9)::(U 10)::(.pointer (some ⟨q11,0,none⟩))::vw18 U 12 ((.slice (jmJ 13 p c 1) (n-1) (c-1))::(.int .i64 ((n-1:Nat):Int))::(.int .i64 (k:Int))::vw22 U 33 [])))∧h++[⟨true,q4,.cells [.pointer qv,.slice p n c].toArray 112 (0,0)⟩,⟨true,q8,.cells [.int .i64 0,.int .i64 0].toArray 29 (0,0)⟩,⟨true,q11,.cells [.int .i64 (jp7 f L (k+1)).1,.int .i64 (jp7 f L (k+1)).2].toArray 29 (0,0)⟩]=h') _ ⟨0,rfl,by omega,exU rfl,(by rw [spBK_one zO h1 h2])⟩ ?_;rintro nn l h' ⟨k,rfl,hk,⟨U,rfl⟩,rfl⟩ hnext;refine Z2 ?_
 refine jam rfl zq (fun hc=>?_) (fun hc=>?_)
 ·refine Z7 ?_
  obtain ⟨cb,co,hcp⟩:=rdc.ptr zO
  have rdc':=rdc
  rw [hcp] at rdc'
  have hge:(L.drop 1).getD k default=L.getD (k+1) []:=by rw [gC,vY,VE 1 k,gC];rfl
  refine Zs ?_;refine jaL rfl zq hcp zO zO ?_;refine jb4 (vs:=boL (L.getD (k+1) [])) rfl zq (jaP _) (hge▸rdc'.eat k zO zO) ?_
  refine jay rfl zq (fun q13=>jao (jad ?_));refine jl5 rfl zq (jaP _) ?_;refine Z4 ?_;refine jb4 (vs:=boL (L.getD (k+1) [])) rfl zq (jaP _) (jlS (Has.mem (b:=q13)) (seg_all (jaP _)).eq) ?_;refine Z2 ?_;refine jfF (Post:=fun v=>v=_) rfl zq hcall (fun H' hH=>hf (k+1) zO H' (sq hH)) ?_;rintro v rfl;refine Z11 ?_;refine jgt rfl zq ?_;refine Z3 ?_;refine jhH rfl zq ?_;refine D30 ?_;refine D4 ?_;refine Z6 ?_
  exact m.weak jab (hnext _ _ _ zO ⟨k+1,rfl,by omega,exU rfl,(by rw [jlu f L (k+1) zO])⟩)
 ·refine Z7 ?_;refine D4 ?_;refine Z2 ?_;refine jac (h) rfl Tryz.func90 rfl jab ?_;refine Zs ?_
  obtain rfl:n=k+1:=by omega
  rw [show k+1=L.length by omega,spBK_all];exact ⟨rfl,rfl⟩
theorem callB91:jcd Tryz.prog 91=true:=by kernel_rfl
theorem callB145:jcd Tryz.prog 145=true:=by kernel_rfl
theorem f21_c (m:Md Tryz.prog B) (h:Hp) (ra:RawTb B h b ps ns ks pw nw cw pb nb cb) (st x:Int):FnC m 21 #[tbV b ps ns ks pw nw cw pb nb cb,.int .i64 st,.int .i64 x] h fun v h'=>h'=h∧v= .tuple [.agg [.int .i64 (jaZ b false st x).1,.int .i64 (jaZ b false st x).2].toArray,.int .i64 (jaH b (jfx b st x))].toArray:=by
 have hsl:b.sts.length=ns:=ra.s.elen zA
 have hns:=ra.sn
 refine jae Tryz.func21 rfl rfl (l:=(tbV b ps ns ks pw nw cw pb nb cb)::(.int .i64 st)::(.int .i64 x)::uu26) rfl ?_
 intro cf cs K hK
 refine Z2 ?_
 refine jaA rfl zq (fun q3=>jao (jad ?_));refine jay rfl zq (fun q6=>jao (jad ?_));refine Z3 ?_;refine jbi [0,1,2,3,4,5,6,7,8,9,10] zK zK (gE _) ?_
 refine DrawT.split 3 8 zA (DrawT.split 4 8 zA ?_ ?_) ?_
 refine D63 ?_;refine Z3 ?_;refine D2 ?_
 rintro v nz ⟨qs,qa,rfl,rfl⟩;refine jaz (jad ?_);refine D0 ?_
 rintro v n8 ⟨qp,p8,m8,c8,rfl,hz⟩;refine jaz (jad ?_);refine Z3 ?_
 refine jay rfl zq (fun q8=>jao (jad ?_));rotate_left
 refine D64 ?_;refine Z3 ?_;refine D2 ?_
 rintro v nz ⟨qs,qa,rfl,rfl⟩;refine jaz (jad ?_);refine jay rfl zq (fun q8=>jao (jad ?_));refine D0 ?_
 rintro v n8 ⟨qp,p8,m8,c8,rfl,hz⟩;refine jaz (jad ?_);refine Z3 ?_
 rotate_left
 refine D65 ?_;refine Z3 ?_
 refine jay rfl zq (fun q8=>jao (jad ?_));refine D2 ?_
 rintro v nz ⟨qs,qa,rfl,rfl⟩;refine jaz (jad ?_);refine D0 ?_
 rintro v n8 ⟨qp,p8,m8,c8,rfl,hz⟩;refine jaz (jad ?_);refine Z3 ?_
 all_goals
  refine D4 ?_;refine Z6 ?_
  refine jaI rfl zq (fun hc=>?_) (fun hc=>?_)
  ·refine Z4 ?_;refine D30 ?_;refine Zs ?_;refine jdP ?_;refine jac (h) rfl Tryz.func21 rfl jab ?_;refine Zs ?_
   exact ⟨rfl,by rw [jaZ,if_neg zD]⟩
  ·refine Z4 ?_
   have hz0:jaH b (jfx b st x)=0:=by first|assumption|omega
   obtain ⟨q9,rfl,sh,rfl,hc8,rdB⟩:=hz hz0
   obtain ⟨hzb,hzo,hzn⟩:=jca hz0
   have hk:=jbf.1 hzb
   have hbl:=jbr hk
   have hpos:0<(jah b).length:=VI.2 hzn
   have hxm: ∀i,i<(jah b).length→(jah b).getD i []∈jah b:=fun i hi=>by rw [gC,gD hi];exact vF _
   have hin0:=bdA_in hk (hxm 0 hpos) false st x
   refine Z4 ?_;refine jhJ rfl zq ?_;refine Z2 ?_;refine jaf (Post:=fun v=>v= .agg [.int .i64 (jmT b false st x).1,.int .i64 (jmT b false st x).2].toArray) rfl zq zK (fun H' hH=>f90_c m H' (rdB.keeps (sq hH)) hc8 ⟨hpos,by omega⟩ (f:=fun y=>bdA (cdT b) y false st x) callB91 (fun i hi K hK=>by simpa using f91_c m K (sh.keeps (SubH.sub.trans (hH.trans hK))) (jcU (hxm i hi)) st x) hin0.1.2 hin0.2.1) ?_
   rintro v rfl;refine Zs ?_;refine jdP ?_;refine jac (h) rfl Tryz.func21 rfl jab ?_;refine Zs ?_
   exact ⟨rfl,by rw [jaZ,if_pos hz0,hz0]⟩
theorem callB93:jcd Tryz.prog 93=true:=by kernel_rfl
theorem f23_c (m:Md Tryz.prog B) (h:Hp) (ra:RawTb B h b ps ns ks pw nw cw pb nb cb) (st x:Int):FnC m 23 #[tbV b ps ns ks pw nw cw pb nb cb,.int .i64 st,.int .i64 x] h fun v h'=>h'=h∧v= .tuple [.agg [.int .i64 (jaZ b true st x).1,.int .i64 (jaZ b true st x).2].toArray,.int .i64 (jaH b (jfx b st x))].toArray:=by
 have hsl:b.sts.length=ns:=ra.s.elen zA
 have hns:=ra.sn
 refine jae Tryz.func23 rfl rfl (l:=(tbV b ps ns ks pw nw cw pb nb cb)::(.int .i64 st)::(.int .i64 x)::uu26) rfl ?_
 intro cf cs K hK
 refine Z2 ?_
 refine jaA rfl zq (fun q3=>jao (jad ?_));refine jay rfl zq (fun q6=>jao (jad ?_));refine Z3 ?_;refine jbi [0,1,2,3,4,5,6,7,8,9,10] zK zK (gE _) ?_
 refine DrawT.split 3 8 zA (DrawT.split 4 8 zA ?_ ?_) ?_
 refine D63 ?_;refine Z3 ?_;refine D2 ?_
 rintro v nz ⟨qs,qa,rfl,rfl⟩;refine jaz (jad ?_);refine D0 ?_
 rintro v n8 ⟨qp,p8,m8,c8,rfl,hz⟩;refine jaz (jad ?_);refine Z3 ?_
 refine jay rfl zq (fun q8=>jao (jad ?_));rotate_left
 refine D64 ?_;refine Z3 ?_;refine D2 ?_
 rintro v nz ⟨qs,qa,rfl,rfl⟩;refine jaz (jad ?_);refine jay rfl zq (fun q8=>jao (jad ?_));refine D0 ?_
 rintro v n8 ⟨qp,p8,m8,c8,rfl,hz⟩;refine jaz (jad ?_);refine Z3 ?_
 rotate_left
 refine D65 ?_;refine Z3 ?_
 refine jay rfl zq (fun q8=>jao (jad ?_));refine D2 ?_
 rintro v nz ⟨qs,qa,rfl,rfl⟩;refine jaz (jad ?_);refine D0 ?_
 rintro v n8 ⟨qp,p8,m8,c8,rfl,hz⟩;refine jaz (jad ?_);refine Z3 ?_
 all_goals
  refine D4 ?_;refine Z6 ?_
  refine jaI rfl zq (fun hc=>?_) (fun hc=>?_)
  ·refine Z4 ?_;refine D30 ?_;refine Zs ?_;refine jdP ?_;refine jac (h) rfl Tryz.func23 rfl jab ?_;refine Zs ?_
   exact ⟨rfl,by rw [jaZ,if_neg zD]⟩
  ·refine Z4 ?_
   have hz0:jaH b (jfx b st x)=0:=by first|assumption|omega
   obtain ⟨q9,rfl,sh,rfl,hc8,rdB⟩:=hz hz0
   obtain ⟨hzb,hzo,hzn⟩:=jca hz0
   have hk:=jbf.1 hzb
   have hbl:=jbr hk
   have hpos:0<(jah b).length:=VI.2 hzn
   have hxm: ∀i,i<(jah b).length→(jah b).getD i []∈jah b:=fun i hi=>by rw [gC,gD hi];exact vF _
   have hin0:=bdA_in hk (hxm 0 hpos) true st x
   refine Z4 ?_;refine jhJ rfl zq ?_;refine Z2 ?_;refine jaf (Post:=fun v=>v= .agg [.int .i64 (jmT b true st x).1,.int .i64 (jmT b true st x).2].toArray) rfl zq zK (fun H' hH=>f90_c m H' (rdB.keeps (sq hH)) hc8 ⟨hpos,by omega⟩ (f:=fun y=>bdA (cdT b) y true st x) callB93 (fun i hi K hK=>by simpa using f93_c m K (sh.keeps (SubH.sub.trans (hH.trans hK))) (jcU (hxm i hi)) st x) hin0.1.2 hin0.2.1) ?_
   rintro v rfl;refine Zs ?_;refine jdP ?_;refine jac (h) rfl Tryz.func23 rfl jab ?_;refine Zs ?_
   exact ⟨rfl,by rw [jaZ,if_pos hz0,hz0]⟩
end
section
variable [LaidO B]
theorem jgr (L:List Bo) (i:Nat): ∀(l:List Bo) (s:Nat),s≤(l.foldl (fun s x=>match xA x i with|some v=>max s (jeM L i v)|none=>s) s)∧(∀x∈l,∀v,xA x i=some v→jeM L i v≤(l.foldl (fun s x=>match xA x i with|some v=>max s (jeM L i v)|none=>s) s))∧((l.foldl (fun s x=>match xA x i with|some v=>max s (jeM L i v)|none=>s) s)=s∨ ∃x∈l,∃v,xA x i=some v∧(l.foldl (fun s x=>match xA x i with|some v=>max s (jeM L i v)|none=>s) s)=jeM L i v)
 |[],s=>⟨gM _,by simp,.inl rfl⟩
 |x::l,s=>by
  rw [vU];cases hx:xA x i with
  |none=>
   obtain ⟨h1,h2,h3⟩:=jgr L i l s
   refine ⟨h1,fun y hy v hv=>?_,h3.imp id fun ⟨y,hy,h⟩=>⟨y,gO _ hy,h⟩⟩
   rcases gU.1 hy with rfl|hy
   ·rw [hx] at hv
    cases hv
   ·exact h2 y hy v hv
  |some u=>
   obtain ⟨h1,h2,h3⟩:=jgr L i l (max s (jeM L i u))
   simp only
   refine ⟨by omega,fun y hy v hv=>?_,?_⟩
   ·rcases gU.1 hy with rfl|hy
    ·rw [hx] at hv
     cases hv
     omega
    ·exact h2 y hy v hv
   ·rcases h3 with h3|⟨y,hy,h⟩
    ·rcases (by omega:max s (jeM L i u)=s∨max s (jeM L i u)=jeM L i u) with e|e
     ·exact .inl (h3.trans e)
     ·exact .inr ⟨x,by simp,u,hx,h3.trans e⟩
    ·exact .inr ⟨y,gO _ hy,h⟩
theorem leftA_ge {x:Bo} (hx:x∈L) (hv:xA x i=some v):jeM L i v≤jbY L i:=(jgr L i L 0).2.1 x hx v hv
theorem jgq (L:List Bo) (i:Nat):jbY L i=0∨ ∃x∈L,∃v,xA x i=some v∧jbY L i=jeM L i v:=(jgr L i L 0).2.2
theorem je1 (L:List Bo) (i:Nat) (v:Int):jeM L i v≤jbY L i:=by
 by_cases h: ∃x∈L,xA x i=some v
 ·obtain ⟨x,hx,hv⟩:=h
  exact leftA_ge hx hv
 ·have:jeM L i v=0:=by
   rw [jeM,xX];intro x hx hh
   exact h ⟨x,hx,of_decide_eq_true hh⟩
  omega
theorem jfb (L:List Bo) (i:Nat) (x:Bo) (v:Int):jeM (L++[x]) i v=jeM L i v+if xA x i=some v then 1 else 0:=by
 rw [jeM,Vo,List.countP_singleton];simp [jeM]
theorem jiH {x:Bo} (h:xA x i=none):jbY (L++[x]) i=jbY L i:=by
 have e: ∀v,jeM (L++[x]) i v=jeM L i v:=fun v=>by rw [jfb,h];simp
 refine Nat.le_antisymm ?_ ?_
 ·rcases jgq (L++[x]) i with h1|⟨y,_,v,_,h1⟩
  ·omega
  ·rw [h1,e];exact je1 L i v
 ·rcases jgq L i with h1|⟨y,_,v,_,h1⟩
  ·omega
  ·rw [h1,←e];exact je1 _ i v
theorem jiG {x:Bo} {u:Int} (h:xA x i=some u):jbY (L++[x]) i=max (jbY L i) (jeM L i u+1):=by
 have e: ∀v,jeM (L++[x]) i v=jeM L i v+if u=v then 1 else 0:=fun v=>by rw [jfb,h];simp
 refine Nat.le_antisymm ?_ ?_
 ·rcases jgq (L++[x]) i with h1|⟨y,_,v,_,h1⟩
  ·omega
  ·rw [h1,e];have:=je1 L i v
   split
   ·rename_i e2
    subst e2
    omega
   ·omega
 ·have h1:=je1 (L++[x]) i u
  rw [e,if_pos rfl] at h1
  have h2:jbY L i≤jbY (L++[x]) i:=by
   rcases jgq L i with h1|⟨y,_,v,_,h1⟩
   ·omega
   ·have:=je1 (L++[x]) i v
    rw [e] at this
    omega
  omega
theorem jfi (h:j<L.length):L.take (j+1)=L.take j++[L.getD j []]:=by
 rw [Gh,gD h,gC,gD h];rfl
theorem leftA_le (L:List Bo) (i:Nat):jbY L i≤L.length:=by
 rcases jgq L i with h|⟨x,_,v,_,h⟩
 ·omega
 ·rw [h];exact vB
theorem jr5 (L:List Bo): ∀k,(jjk L k).2≤L.length
 |0=>gM _
 |k+1=>by
  have:=jr5 L k
  rw [jfe,jf4];split
  ·simp only
   omega
  ·exact this
def cOfA (b:Tb) (o:Option Nat):Ce:=match o with|some j=>(jaa b).getD j default|none=>default
def jkc (b:Tb):Option Nat×Nat:=if jaH b 0=0 then jjk (jah b) (jaa b).length else (none,0)
theorem callB108:jcd Tryz.prog 108=true:=by kernel_rfl
instance {c:Ce}:At (ceL c) 0 (.bool c.butt):=⟨rfl⟩
theorem f50_c (m:Md Tryz.prog B) (h:Hp) (ra:RawTb B h b ps ns ks pw nw cw pb nb cb):FnC m 50 #[tbV b ps ns ks pw nw cw pb nb cb] h fun v h'=>h'=h∧v= .tuple [ceV (cOfA b (jkc b).1),.int .i64 ((jkc b).2:Int),.bool (jkc b).1.isSome,.int .i64 (jaH b 0)].toArray:=by
 refine jae Tryz.func50 rfl rfl (l:=(tbV b ps ns ks pw nw cw pb nb cb)::uu77) rfl ?_
 intro cf cs K hK
 refine Z2 ?_
 refine jaA rfl zq (fun q1=>jao (jad ?_));refine jay rfl zq (fun q2=>jao (jad ?_));refine Z7 ?_;refine jax rfl zq zK (Post:=fun v nz=>jhh B b (tbL b ps ns ks pw nw cw pb nb cb) (jaH b 0) nz v) (fun H' hH=>f88_c m H' (ra.keeps (sq hH)) callB108 (fun hk K q hKs hs=>by simpa using f108_c m K _)) ?_
 rintro v n8 ⟨qp,p8,m8,c8,rfl,hz⟩;refine jaz (jad ?_);refine Z3 ?_
 refine jay rfl zq (fun q6=>jao (jad ?_));refine D4 ?_;refine Z6 ?_
 refine jaI rfl zq (fun hc=>?_) (fun hc=>?_)
 ·refine Z4 ?_;refine D30 ?_;refine Zs ?_;refine D4 ?_;refine Z5 ?_;refine jac (h) rfl Tryz.func50 rfl jab ?_;refine Zs ?_
  exact ⟨rfl,by rw [jkc,if_neg zD];rfl⟩
 ·refine Z4 ?_
  have hz0:jaH b 0=0:=by first|assumption|omega
  obtain ⟨q9,rfl,sh,rfl,hc8,rdB⟩:=hz hz0
  obtain ⟨hzb,hzo,hzn⟩:=jca hz0
  have hk:=jbf.1 hzb
  have hbl:=jbr hk
  have h12:=ja3 hk
  obtain ⟨pc,cc,hcv,hcc,hcr⟩:=sh.cells
  refine Z13 ?_;refine D58 ?_;refine Z4 ?_
  refine jag (fun nn l h'=> ∃(i:Nat) (fd:Bool),nn=(jaa b).length-i∧(i≤(jaa b).length)∧(fd=(jjk (jah b) i).1.isSome)∧(∃U:Nat→Value,l=((tbV b ps ns ks pw nw cw pb nb cb)::(U 1)::(.pointer (some ⟨q2,0,none⟩))::(.int .i64 ((jjk (jah b) i).2:Int))::(.bool fd)::(U 5)::(.pointer (some ⟨q6,0,none⟩))::vw22 U 7 ((.slice pc (jaa b).length cc)::(.int .i64 ((jaa b).length:Int))::(.int .i64 (i:Int))::vw46 U 32 [])))∧h++[⟨true,q1,.cells (tbL b ps ns ks pw nw cw pb nb cb).toArray 25 (0,0)⟩,⟨true,q2,.cells (ceL (cOfA b (jjk (jah b) i).1)).toArray 37 (0,0)⟩]++n8++[⟨true,q6,.cells [.pointer (some ⟨q9,0,none⟩),.slice p8 (jah b).length c8].toArray 112 (0,0)⟩]=h') _ ⟨0,false,rfl,by omega,rfl,exU rfl,rfl⟩ ?_;rintro nn l h' ⟨i,fd,rfl,hi,hfd,⟨U,rfl⟩,rfl⟩ hnext1;have hal:=jr5 (jah b) i
  refine Z2 ?_
  refine jam rfl zq (fun hc=>?_) (fun hc=>?_)
  ·refine Z7 ?_
   obtain ⟨pcb,pco,hpc⟩:=hcr.ptr zO
   have hcr':=hcr
   rw [hpc] at hcr'
   refine Z2 ?_;refine D82 ?_;refine jb4 (vs:=ceL ((jaa b).getD i default)) rfl zq rfl (hcr'.eat i zO zO) ?_
   refine jay rfl zq (fun q8=>jao (jad ?_));refine Zs ?_;refine jdP ?_
   refine k_mkmapI rfl zq (fun qm=>jao (jad ?_));refine Z15 ?_
   refine jag (fun nn l h'=> ∃(j:Nat) (es:List (Int×Int)),nn=(jah b).length-j∧(j≤(jah b).length)∧(∀v,cntI es v=(jeM ((jah b).take j) i v:Int))∧(∃U:Nat→Value,l=((tbV b ps ns ks pw nw cw pb nb cb)::(U 1)::(.pointer (some ⟨q2,0,none⟩))::(.int .i64 ((jjk (jah b) i).2:Int))::(.bool fd)::(U 5)::(.pointer (some ⟨q6,0,none⟩))::(.int .i64 (i:Int))::(.pointer (some ⟨q8,0,none⟩))::(.map (some qm))::(.int .i64 (jbY ((jah b).take j) i:Int))::vw18 U 11 ((.slice pc (jaa b).length cc)::(.int .i64 ((jaa b).length:Int))::(.int .i64 (i:Int))::vw6 U 32 ((.slice p8 (jah b).length c8)::(.int .i64 ((jah b).length:Int))::(.int .i64 (j:Int))::vw37 U 41 []))))∧h++[⟨true,q1,.cells (tbL b ps ns ks pw nw cw pb nb cb).toArray 25 (0,0)⟩,⟨true,q2,.cells (ceL (cOfA b (jjk (jah b) i).1)).toArray 37 (0,0)⟩]++n8++[⟨true,q6,.cells [.pointer (some ⟨q9,0,none⟩),.slice p8 (jah b).length c8].toArray 112 (0,0)⟩,⟨true,q8,.cells (ceL ((jaa b).getD i default)).toArray 37 (0,0)⟩,⟨true,qm,jqX es⟩]=h') _ ⟨0,[],rfl,by omega,fun v=>rfl,exU rfl,rfl⟩ ?_;rintro nn l h' ⟨j,es,rfl,hj,hes,⟨U,rfl⟩,rfl⟩ hnext2;have hlt:=leftA_le ((jah b).take j) i
   have hlj:=xb j (jah b)
   refine Z2 ?_
   refine jam rfl zq (fun hc=>?_) (fun hc=>?_)
   ·refine Z7 ?_
    obtain ⟨rb,ro,hrp⟩:=rdB.ptr zO
    have rdB':=rdB
    rw [hrp] at rdB'
    have hxm:(jah b).getD j []∈jah b:=by rw [gC,gD zO];exact vF _
    have hxl:=jcU hxm
    have htk:=jfi (L:=jah b) (j:=j) zO
    refine Zs ?_;refine D57 ?_;refine D73 ?_
    obtain ⟨x,hx⟩: ∃x,x=(jah b).getD j []:=⟨_,rfl⟩
    rw [←hx] at hxm hxl htk⊢
    have hxb:=jcW (x:=x) zO
    refine jay rfl zq (fun q12=>jao (jad ?_));refine jl5 rfl zq (jaP x) ?_;refine Z6 ?_;refine jaf (Post:=fun v=>IsB _ v) rfl zq zK (fun H' hH=>f98_b m H' (jcL x) i hxb zO) ?_;rintro v (⟨hc,rfl⟩|⟨hc,rfl⟩)
    ·refine Z10 ?_
     have hxn:xA x i=none:=by
      have e:=hc
      rw [jhx zO] at e
      exact Gx.1 e
     have hls:jbY ((jah b).take (j+1)) i=jbY ((jah b).take j) i:=by rw [htk];exact jiH hxn
     rw [←hls];exact m.weak jab (hnext2 _ _ _ zO ⟨j+1,es,rfl,by omega,fun v=>by rw [hes v,htk,jfb,hxn];simp,exU rfl,rfl⟩)
    ·refine Zs ?_
     obtain ⟨u,hxv⟩: ∃u,xA x i=some u:=by
      cases e:xA x i with
      |none=>exact absurd (by rw [jhx zO,e];rfl) hc
      |some v=>exact ⟨v,rfl⟩
     refine Z9 ?_;refine jaN rfl zq (bo_at i zO) ?_
     rw [hxv,gu];refine jl9 (k:=3) (e:=3) zK zK rfl zq ?_;refine k_add rfl zq (by
      have h1:=hes u
      have h2:jeM ((jah b).take j) i u≤_:=vB
      unfold jeg
      omega) ?_
     refine jrb (k:=3) (e:=3) zK zK rfl zq ?_;refine Z7 ?_;refine jaN rfl zq (bo_at i zO) ?_;rw [hxv,gu];refine jl9 (k:=3) (e:=3) zK zK rfl zq ?_;refine jhH rfl zq ?_;refine Z7 ?_;have hls:jbY ((jah b).take (j+1)) i=max (jbY ((jah b).take j) i) (jeM ((jah b).take j) i u+1):=by rw [htk];exact jiG hxv
     rw [jmv,if_pos rfl,show max (jbY ((jah b).take j) i:Int) (cntI es u+1)=((jbY ((jah b).take (j+1)) i:Nat):Int) by rw [hls,hes];omega];exact m.weak jab (hnext2 _ _ _ zO ⟨j+1,jjx es u (cntI es u+1),rfl,by omega,fun v=>by
      rw [jmv,htk,jfb,hxv,hes,hes];by_cases e:v=u
      ·subst e
       simp
      ·rw [if_neg e,if_neg (by simp;exact fun a=>e a.symm)];simp,exU rfl,rfl⟩)
   ·refine Z5 ?_
    obtain rfl:j=(jah b).length:=by omega
    rw [GE] at hlt⊢
    refine Z2 ?_
    refine jaJ rfl zq (fun hc=>?_) (fun hc=>?_)
    ·refine Z3 ?_
     refine jam rfl rfl (fun hc=>?_) (fun hc=>?_);refine Z6 ?_;refine jdP ?_
     rotate_left
     refine Z4 ?_
     all_goals
      refine Z5 ?_
     ·have hst:jjk (jah b) (i+1)=jjk (jah b) i:=by rw [jfe,jf4,if_neg zO]
      rw [←hst];exact E43
     ·have hst:jjk (jah b) (i+1)=(some i,jbY (jah b) i):=by rw [jfe,jf4,if_pos ⟨by omega,by omega⟩]
      rw [show (jbY (jah b) i:Int)=(((jjk (jah b) (i+1)).2:Nat):Int) by rw [hst],show (jaa b).getD i default=cOfA b (jjk (jah b) (i+1)).1 by rw [hst];rfl];exact m.weak jab (hnext1 _ _ _ zO ⟨i+1,true,rfl,by omega,by rw [hst];rfl,exU rfl,rfl⟩)
    ·refine Z13 ?_
     have hst:jjk (jah b) (i+1)=jjk (jah b) i:=by rw [jfe,jf4,if_neg zO]
     rw [←hst];exact E43
  ·refine Z9 ?_;refine D4 ?_;refine Z5 ?_;refine jac (h) rfl Tryz.func50 rfl jab ?_;refine Zs ?_
   obtain rfl:i=(jaa b).length:=by omega
   exact ⟨rfl,by rw [jkc,if_pos hz0,hz0,hfd]⟩
end
section
variable [LaidO B]
section
variable {m:Md P B} {ops:Array Oper} {l l':List Value} {S h h' H:Hp} {C:List Value→Hp→Prop} {kd:Kd} {r:List (Nat×Kd)} {d:Option Tmp} {pos:String} {af:Array Edge} {g:Option (Nat×Bool)}
omit [LaidO B] in
theorem jo3 {dd:Nat} (ht:P.underlying t=some (.slice e)) (p:Option Addr) (n c:Nat):Reads P B (Op.equalIn (dd+1) t (.slice p n c) (.slice none 0 0)) h p.isNone:=by
 unfold Op.equalIn
 refine Reads.bind (jak ht).reads ?_
 cases p with
 |none=>exact Reads.pure _
 |some a=>exact Reads.pure _
omit [LaidO B] in
theorem jgu {u:TypeId} {x:Operand} {c:Nat} (ho:ops[i]?=some ⟨d,.binOp .eql t x (.const (.slice none 0 0)) u,ty,pos,af,g⟩) (hw:Wt ops l g) [KHeap kd S h H] [ex:OpV l x (.slice p n c)] (ht:P.underlying t=some (.slice e)) [PutV l d (.bool p.isNone) l'] (c:RegK m S ops r l' h C):RegK m S ops ((i,kd)::r) l h C:=
 RegK.rd (v:= .bool p.isNone) ho hw (by
  have ey:ev l (.const (.slice none 0 0))= .slice none 0 0:=rfl
  simp only [execOp,ex.eq,ey]
  refine Reads.value (Reads.bind (a:=()) ?_ ?_)
  ·exact Reads.pure _
  ·show Reads P B (Op.equal t (.slice p n _) (.slice none 0 0)>>=fun b=>pure (Value.bool b)) H _
   exact Reads.bind (jo3 (dd:=9999) ht p n _) (Reads.pure _)) c
end
theorem jcx {t:Nat} {v:Value} {new:Hp} (o:OwnS t k v n cs new) (h0:0<n): ∃q cap junk,v= .slice (some ⟨q,0,none⟩) n cap∧new=[⟨true,q,.cells (cs++junk).toArray t (0,0)⟩]∧cs.length=n*k∧cs.length+junk.length=cap*k∧n≤cap:=by
 cases o with
 |nil=>omega
 |blk hl hc hn=>exact ⟨_,_,_,rfl,by simp,hl,hc,hn⟩
theorem jnV {c:Nat} {ys:List Value} (rd:RdS B h k (.slice none n c) n ys):ys=[]:=by
 obtain ⟨p',c',e,hl,hr⟩:=rd
 rcases hr with ⟨_,rfl⟩|⟨b,o,e2,_⟩
 ·exact GB.1 zO
 ·cases e
  cases e2
theorem jlW (t k q:Nat):OwnS t k (.slice (some ⟨q,0,none⟩) 0 0) 0 [] [⟨true,q,.cells ([]:List Value).toArray t (0,0)⟩]:=OwnS.blk (cs:=[]) (junk:=[]) zS zS (gM 0)
inductive OwnF:List Lp→Hp→Prop
 |nil:OwnF [] []
 |snoc {xs:List Lp} {M F:Hp} {x:Lp} (o:OwnF xs M) (f:OwnS 9 1 (.slice x.p x.ln.figs.length x.c) x.ln.figs.length (jaC x.ln.figs) F):OwnF (xs++[x]) (M++F)
theorem OwnF.at {xs:List Lp} (o:OwnF xs M) (hk:k<xs.length): ∃M1 F M2,M=M1++F++M2∧OwnS 9 1 (.slice (xs.getD k default).p (xs.getD k default).ln.figs.length (xs.getD k default).c) (xs.getD k default).ln.figs.length (jaC (xs.getD k default).ln.figs) F∧ ∀x' F',OwnS 9 1 (.slice x'.p x'.ln.figs.length x'.c) x'.ln.figs.length (jaC x'.ln.figs) F'→OwnF (xs.set k x') (M1++F'++M2):=by
 induction o with
 |nil=>simp at hk
 | @snoc xs M F x o f ih=>
  rw [gH,GU] at hk
  by_cases e:k<xs.length
  ·obtain ⟨M1,F1,M2,rfl,h1,h2⟩:=ih e
   refine ⟨M1,F1,M2++F,by simp only [gI],?_,fun x' F' hf=>?_⟩
   ·rw [show (xs++[x]).getD k default=xs.getD k default by rw [jgx,if_pos e]];exact h1
   ·rw [vg _ _ e,←gI];exact .snoc (h2 x' F' hf) f
  ·obtain rfl:k=xs.length:=by omega
   refine ⟨M,F,[],by rw [ge],?_,fun x' F' hf=>?_⟩
   ·rw [show (xs++[x]).getD xs.length default=x by rw [jgx,if_neg zO,if_pos rfl]];exact f
   ·rw [vZ _ _ (gM _),VT,List.set_cons_zero,ge];exact .snoc o hf
theorem OwnF.rd {xs:List Lp} (o:OwnF xs M): ∀x∈xs,x.ln.figs.length≤x.c∧RdS B M 1 (.slice x.p x.ln.figs.length x.c) x.ln.figs.length (jaC x.ln.figs):=by
 induction o with
 |nil=>simp
 | @snoc xs M F x o f ih=>
  intro y hy
  rcases gQ.1 hy with hy|hy
  ·exact ⟨(ih y hy).1,(ih y hy).2.keeps (gG _ _)⟩
  ·obtain rfl:y=x:=by simpa using hy
   exact ⟨f.cap,f.rd (gK _ _)⟩
def HalfO (v:Value) (n:Nat) (lns:List Ln) (M:Hp):Prop:= ∃(lps:List Lp) (lp:Option Addr) (lc:Nat) (W FM:Hp),v= .slice lp n lc∧lps.map (·.ln)=lns∧OwnS 121 2 (.slice lp n lc) n (jaC lps) W∧OwnF lps FM∧M=W++FM
theorem HalfO.rd {v:Value} {lns:List Ln} (o:HalfO v n lns M): ∃p c,v= .slice p n c∧RdLn B M (.slice p n c) n lns:=by
 obtain ⟨lps,lp,lc,W,FM,rfl,e,ow,of',rfl⟩:=o
 exact ⟨lp,lc,rfl,lps,e,ow.rd (gG _ _),fun x hx=>⟨(of'.rd (B:=B) x hx).1,fun _=>(of'.rd x hx).2.keeps (gK _ _)⟩⟩
theorem jiY {α:Type} [Enc α k] [Inhabited α] (xs:List α) (i:Nat) (h:i<xs.length) (x:α):jaC (xs.set i x)=(jaC xs).take (i*k)++Enc.enc x++(jaC xs).drop ((i+1)*k):=by
 have e:xs.set i x=xs.take i++[x]++xs.drop (i+1):=by rw [Gj,if_pos h];simp
 rw [e,ja0,ja0,jmr,jiZ];simp [jaC]
theorem jbC (xs:List Lp):(jaC xs).length=xs.length*2:=jaY xs
theorem jqY (xs:List Lp) (i:Nat) (h:i<xs.length) (j:Nat) (hj:j<2):(jaC xs)[i*2+j]?=(lpL (xs.getD i default))[j]?:=by
 have e:xs=xs.take i++[xs.getD i default]++xs.drop (i+1):=by
  rw [gI,xI];rw [gC,gD h];simp
 have e2:jaC xs=jaC (xs.take i)++lpL (xs.getD i default)++jaC (xs.drop (i+1)):=by
  conv=>lhs;rw [e]
  rw [ja0,ja0];simp only [jaC,ge]
  rfl
 have hl:(jaC (xs.take i)).length=i*2:=by rw [jbC,GO];congr 1;omega
 rw [e2,gI,gf zO,hl,show i*2+j-i*2=j by omega,gb zN]
theorem jlz {xs:List Lp} (h:i<xs.length) {x:Lp} (hln:x.ln=(xs.getD i default).ln):SetSeg (jaC xs++junk) (0+(i:Int).toNat*2+1) [.slice x.p x.ln.figs.length x.c] (jaC (xs.set i x)++junk):=by
 have hl:=jbC xs
 refine jdv zN ?_
 rw [gm,GG,vg _ _ zO];congr 1
 refine List.ext_getElem? fun a=>?_
 rw [jiY xs i h,vT];have h1:=jqY xs i h 0 zO
 have hlt:((jaC xs).take (i*2)).length=i*2:=by rw [GO];omega
 by_cases e:i*2+1=a
 ·subst e
  rw [if_pos rfl,if_pos zO,gI,gf zO,hlt,show i*2+1-i*2=1 by omega];rfl
 ·rw [if_neg e];by_cases e1:a<i*2
  ·rw [gI,gb zO,vC,if_pos e1]
  ·by_cases e2:a=i*2
   ·subst e2
    rw [gI,gf zO,hlt,VT,show i*2=i*2+0 by omega,h1];show some (Value.int .i64 x.ln.lat)=_
    rw [hln];rfl
   ·have hen:(Enc.enc x).length=2:=rfl
    rw [gI,gf zO,hlt,gf (by rw [hen];omega),hen,vY];congr 1
    omega
theorem jdq {xs:List Lp} (h:i<xs.length) {x:Lp} (hx:lpL x=lpL (xs.getD i default)):jaC (xs.set i x)=jaC xs:=by
 rw [jiY xs i h];have e:=jiY xs i h (xs.getD i default)
 have hs:xs.set i (xs.getD i default)=xs:=by
  rw [gC,gD h];simp
 rw [hs] at e
 conv=>rhs;rw [e]
 show _++lpL x++_=_++lpL _++_
 rw [hx]
theorem f162_c (m:Md Tryz.prog B) (h:Hp) {c:Nat} {ss:List Str} (rd:RdS B h 1 (.slice p n c) n (jaC ss)) (hn:n≤1000):FnC m 162 #[.slice p n c] h fun v h'=> ∃new,h'=h++new∧OwnS 9 1 v n (jaC ss) new:=by
 refine jae Tryz.func162 rfl rfl (l:=(.slice p n c)::uu7) rfl ?_
 intro cf cs K hK
 refine Z8 ?_
 rcases (by cases p<;>simp:p=none∨ ∃pa,p=some pa) with rfl|⟨pa,rfl⟩
 ·refine jgu (e:=9) rfl zq zK ?_;refine Z7 ?_;refine jac (h) rfl Tryz.func162 rfl jab ?_;refine Zs ?_;have hys:=jnV rd
  have hn0:n=0:=by
   have h1:=rd.elen zA
   have h2:=congrArg List.length hys
   rw [jaY,h1] at h2
   simp at h2
   omega
  subst hn0
  rw [hys];exact ⟨[],by simp,OwnS.nil⟩
 ·refine jgu (e:=9) rfl zq zK ?_;refine Z5 ?_;refine jcQ kdq rfl zq (fun q5=>jao (jad ?_));refine Zs ?_
  refine jrh (F:=h) rfl zq (Weak.refl B _) (jlW 9 1 q5) (rd.keeps SubH.sub) (jdr ss) (.inl rfl) zO zO (fun v' new' o'=>jad ?_);rw [GG,GJ] at o'
  refine Z3 ?_;refine jac (h++new') rfl Tryz.func162 rfl jab ?_;refine Zs ?_
  exact ⟨new',rfl,o'⟩
theorem f163_c (m:Md Tryz.prog B) (h:Hp) {c:Nat} {ss:List Lp} (rd:RdS B h 2 (.slice p n c) n (jaC ss)) (hn:n≤1000):FnC m 163 #[.slice p n c] h fun v h'=> ∃new,h'=h++new∧OwnS 121 2 v n (jaC ss) new:=by
 refine jae Tryz.func163 rfl rfl (l:=(.slice p n c)::uu7) rfl ?_
 intro cf cs K hK
 refine Z8 ?_
 rcases (by cases p<;>simp:p=none∨ ∃pa,p=some pa) with rfl|⟨pa,rfl⟩
 ·refine jgu (e:=121) rfl zq zK ?_;refine Z7 ?_;refine jac (h) rfl Tryz.func163 rfl jab ?_;refine Zs ?_;have hys:=jnV rd
  have hn0:n=0:=by
   have h1:=rd.elen zA
   have h2:=congrArg List.length hys
   rw [jaY,h1] at h2
   simp at h2
   omega
  subst hn0
  rw [hys];exact ⟨[],by simp,OwnS.nil⟩
 ·refine jgu (e:=121) rfl zq zK ?_;refine Z5 ?_;refine jcQ kdq rfl zq (fun q5=>jao (jad ?_));refine Zs ?_
  refine jrh (F:=h) rfl zq (Weak.refl B _) (jlW 121 2 q5) (rd.keeps SubH.sub) (jdr ss) (.inl rfl) zO zO (fun v' new' o'=>jad ?_);rw [GG,GJ] at o'
  refine Z3 ?_;refine jac (h++new') rfl Tryz.func163 rfl jab ?_;refine Zs ?_
  exact ⟨new',rfl,o'⟩
end
end Go.Proofs
