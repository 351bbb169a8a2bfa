/- A part of the proof of a law. Condition of each theorem: as its statement says. -/
import Derived.Test.YtggpepeiedkbbaaGreatDoorVK8
import Derived.SevenTiedAt
import Derived.LaidOnce
import Derived.LaidSub
import Derived.Test.YtggpepeiedkbbaaGreatDoorCards
import Derived.Test.YtggpepeiedkbbaaGreatDoorTie
set_option linter.all false
variable {B:Array Go.Obj} {h S h' H hb:Go.Lo.Hp} {q i k ns ks nw cw nb cb s n qx q5 q6 ch N:Nat} {t ty u:Go.TypeId} {xs lps lw lb:List Go.Lo.Lp} {junk l l' vs tv:List Go.Value} {j a:Int} {y:Go.Operand} {b:Go.Lo.Tb} {f:Go.Lo.Str} {ls lns:List Go.Lo.Ln} {ps pw pb p p2 ap:Option Go.Addr} {v gv:Go.Value} {C:List Go.Value→Go.Lo.Hp→Prop} {r:List (Nat×Go.Lo.Kd)} {got:List Nat} {ds:List Go.Deferred} {cs:List Go.Frame} {d:Option Go.Tmp} {ys:List Int} {g:Option (Nat×Bool)} {P:Go.Program} {ops:Array Go.Oper} {kd:Go.Lo.Kd} {pos:String} {af:Array Go.Edge} {hit:Nat→Bool} {K:Go.Goroutine→Go.Lo.Hp→Prop} {W:Go.World}
set_option maxHeartbeats 4000000
set_option maxRecDepth 100000
set_option synthInstance.maxHeartbeats 1000000
set_option synthInstance.maxSize 100000
namespace Go.Proofs
open Go.Lo
open Go.Conc (G)
section
variable [LaidO B]
theorem lp_rd {t:Nat} {rw:Bool} {fr:Nat×Nat} [hh:Has h q rw (.cells (jaC xs++junk).toArray t fr)] (hj:j=i) (hi:i<xs.length):Rd B h ⟨q,0+j.toNat*2+1,none⟩ (.slice (xs.getD i default).p (xs.getD i default).ln.figs.length (xs.getD i default).c):=by
 subst hj
 refine Rd.held hh.mem ?_
 have:=jbC xs
 rw [gd,gb zO,show 0+(i:Int).toNat*2+1=i*2+1 by omega,jqY xs i hi 1 zO];rfl
theorem jhu {y:Lp} (hy:y.ln=(xs.getD i default).ln):(xs.set i y).map (·.ln)=xs.map (·.ln):=by
 refine Ga zS fun a h1 h2=>?_
 simp only [VF,xG]
 split
 ·rename_i e
  subst e
  rw [hy,gC,gD (by simpa using h2)];rfl
 ·rfl
theorem jln (h:i<xs.length) (y:Lp):(xs.set i y).take (i+1)=xs.take i++[y]:=by
 rw [Gj,if_pos h,List.take_append,GO,show i+1-min i xs.length=1 by omega];simp [List.take_take]
theorem jmh {j:Nat} (h:i≠j) (y:Lp):(xs.set i y).getD j default=xs.getD j default:=by
 rw [gC,vP h,gC]
theorem jgP {ss:List Str} (hj:j=i) (h:i<ss.length) (s:Str):SetSeg (jaC ss++junk) (0+j.toNat*1) [str s] (jaC (ss.set i s)++junk):=by
 subst hj
 have hl:(jaC ss).length=ss.length:=by rw [jaY,Gw]
 refine jdv zN ?_
 rw [gm,GG,Gw,vg _ _ zO,jbs,jbs,vf]
theorem jop {c:Ce} (hi:i<2) (h:c.butt=decide (i=1)):hL (jbl b c f) i=jji (hL b i) c.line.toNat c.st.toNat f:=by
 rw [jkR _ hi,jkR _ hi,jcv,if_pos h.symm]
theorem jrr {c:Ce} (hi:i<2) (h:c.butt≠decide (i=1)):hL (jbl b c f) i=hL b i:=by
 rw [jkR _ hi,jkR _ hi,jcv,if_neg (fun e=>h e.symm)]
theorem jpS (h: ∀l∈ls,l.figs.length≤1000∧ ∀f∈l.figs,f.length≤100000) (hf:f.length≤100000): ∀l∈jji ls i k f,l.figs.length≤1000∧ ∀f∈l.figs,f.length≤100000:=by
 intro l hl
 rcases VC hl with hl|rfl
 ·exact h l hl
 ·have hd:(ls.getD i default).figs.length≤1000∧ ∀f∈(ls.getD i default).figs,f.length≤100000:=by
   by_cases hi:i<ls.length
   ·exact h _ (jaj hi)
   ·rw [gC,gh zO];exact ⟨VP _,fun f hf=>by cases hf⟩
  refine ⟨by simpa using hd.1,fun g hg=>?_⟩
  rcases VC hg with hg|rfl
  ·exact hd.2 g hg
  ·exact hf
theorem jql (h:TbSm b) {c:Ce} (hf:f.length≤100000):TbSm (jbl b c f):=by
 unfold jbl
 split
 ·exact ⟨h.sts,h.wat,jpS h.but hf⟩
 ·exact ⟨h.sts,jpS h.wat hf,h.but⟩
theorem jhM (A W M:Hp) (x:Chunk):Weak B (A++[x]++W++M) (A++(W++M)):=by
 rw [gI (A++[x])];exact (Weak.sub ((gG A [x]).append_right _))
theorem jhQ (e:xs.map (·.ln)=ls) (h:i<xs.length) (f:Str) (p:Option Addr) (c:Nat):(xs.set i ⟨⟨(xs.getD i default).ln.lat,(xs.getD i default).ln.figs.set k f⟩,p,c⟩).map (·.ln)=jji ls i k f:=by
 subst e
 rw [jji,vf];congr 1
 have:(xs.map (·.ln)).getD i default=(xs.getD i default).ln:=by
  rw [gC,gX,gD h,gC,gD h];rfl
 rw [this]
theorem f112_c (m:Md Tryz.prog B) (h:Hp) (rd:RdTb B h b ps ns ks pw nw cw pb nb cb) {c:Ce} (hc0:jcn b c=true) (f:Str) (hf:f.length≤100000):FnC m 112 #[tbV b ps ns ks pw nw cw pb nb cb,cV c.butt c.line c.st,str f] h fun v h'=> ∃new ps' ks' pw' cw' pb' cb',h'=h++new∧v=tbV (jbl b c f) ps' ns ks' pw' nw cw' pb' nb cb'∧RawTb B new (jbl b c f) ps' ns ks' pw' nw cw' pb' nb cb':=by
 have hsl0:=rd.sl
 have hn1:=rd.n1
 have hn3:=rd.n3
 have hw2:=rd.w2
 have hb2:=rd.b2
 refine jae Tryz.func112 rfl rfl (l:=(tbV b ps ns ks pw nw cw pb nb cb)::(cV c.butt c.line c.st)::(str f)::uu64) rfl ?_
 intro cf cs K hK
 refine Z2 ?_
 refine jaA rfl zq (fun q3=>jao (jad ?_));refine jaA rfl zq (fun q4=>jao (jad ?_));refine jay rfl zq (fun q6=>jao (jad ?_));refine Z5 ?_;refine jax rfl zq zK (Post:=fun v nz=>OwnS 9 1 v ns (jaC b.sts) nz) (fun H' hH=>f162_c m H' (rd.s.keeps (sq hH)) zO) ?_
 rintro v n14 o14;refine jaz (jad ?_);obtain ⟨p14,c14,rfl,hc14,r14⟩:=jas (B:=B) o14
 refine Zs ?_;refine D19 ?_;refine Z4 ?_;refine jb4 (vs:=halvesL) rfl zq rfl jfX ?_;refine Z3 ?_
 refine jag (fun nn l h'=> ∃(i:Nat) (wp:Option Addr) (wc:Nat) (bp:Option Addr) (bc:Nat) (M0 M1:Hp),nn=2-i∧(i≤2)∧(i=0→pw=wp∧cw=wc∧M0=[])∧(i≤1→pb=bp∧cb=bc∧M1=[])∧(1≤i→HalfO (.slice wp nw wc) nw (hL (jbl b c f) 0) M0)∧(2≤i→HalfO (.slice bp nb bc) nb (hL (jbl b c f) 1) M1)∧(∃U:Nat→Value,l=((tbV b ps ns ks pw nw cw pb nb cb)::(cV c.butt c.line c.st)::(str f)::(.pointer (some ⟨q3,0,none⟩))::(.pointer (some ⟨q4,0,none⟩))::(U 5)::(.pointer (some ⟨q6,0,none⟩))::vw9 U 7 ((.agg halvesL.toArray)::(.int .i64 (i:Int))::vw49 U 18 [])))∧h++[⟨true,q3,.cells [.int .i64 b.wrong,.slice p14 ns c14,.slice wp nw wc,.slice bp nb bc].toArray 25 (0,0)⟩,⟨true,q4,.cells [.bool c.butt,.int .i64 c.line,.int .i64 c.st].toArray 37 (0,0)⟩,⟨true,q6,.cells [.int .i64 0,.slice none 0 0,.slice none 0 0,.slice none 0 0].toArray 25 (0,0)⟩]++n14++M0++M1=h') _ ⟨0,pw,cw,pb,cb,[],[],rfl,by omega,fun _=>⟨rfl,rfl,rfl⟩,fun _=>⟨rfl,rfl,rfl⟩,fun e=>by omega,fun e=>by omega,exU rfl,(by rw [ge,ge])⟩ ?_;rintro nn l h' ⟨i,wp,wc,bp,bc,M0,M1,rfl,hi,hz0,hz1,hz2,hz3,⟨U,rfl⟩,rfl⟩ hnext1;refine Z2 ?_
 refine jam rfl zq (fun hc=>?_) (fun hc=>?_)
 ·refine Z7 ?_
  rcases (by omega:i=0∨i=1) with rfl|rfl
  obtain ⟨rfl,rfl,rfl⟩:=hz0 rfl
  obtain ⟨rfl,rfl,rfl⟩:=hz1 zO
  obtain ⟨lps0,hle,rl,hfig⟩:=rd.w
  have hll:=rl.elen zA
  replace hle:lps0.map (·.ln)=hL b 0:=hle
  have hwf: ∀l∈hL b 0,l.figs.length=ns∧ ∀f∈l.figs,jbu f=true:=rd.wf
  rw [ge,ge];refine Zs ?_;refine jok rfl zq zO zO (jiM 0 zO) ?_
  refine jay rfl zq (fun q8=>jao (jad ?_));refine D4 ?_;refine Z5 ?_;refine jfF (Post:=fun v=>v= .pointer (some ⟨q3,2,none⟩)) rfl zq (jiN 0 zO) (fun H' hH=>jrs m H' q3 0 zO) ?_
  rintro v rfl;refine Z9 ?_;refine jax rfl zq zK (Post:=fun v nz=>OwnS 121 2 v nw (jaC lps0) nz) (fun H' hH=>f163_c m H' (rl.keeps (sq hH)) zO) ?_
  rotate_left
  obtain ⟨rfl,rfl,rfl⟩:=hz1 zO
  have hh0:=hz2 zO
  obtain ⟨lps0,hle,rl,hfig⟩:=rd.u
  have hll:=rl.elen zA
  replace hle:lps0.map (·.ln)=hL b 1:=hle
  have hwf: ∀l∈hL b 1,l.figs.length=ns∧ ∀f∈l.figs,jbu f=true:=rd.bf
  rw [ge];refine Zs ?_;refine jok rfl zq zO zO (jiM 1 zO) ?_
  refine jay rfl zq (fun q8=>jao (jad ?_));refine D4 ?_;refine Z5 ?_;refine jfF (Post:=fun v=>v= .pointer (some ⟨q3,3,none⟩)) rfl zq (jiN 1 zO) (fun H' hH=>jrs m H' q3 1 zO) ?_
  rintro v rfl;refine Z9 ?_;refine jax rfl zq zK (Post:=fun v nz=>OwnS 121 2 v nb (jaC lps0) nz) (fun H' hH=>f163_c m H' (rl.keeps (sq hH)) zO) ?_
  all_goals
   rintro v n27 o27;refine jaz (jad ?_);obtain ⟨p27,c27,rfl,hc27,r27⟩:=jas (B:=B) o27
   refine Zs ?_;refine D19 ?_;refine Z11 ?_
  ·refine jag (fun nn l h'=> ∃(k:Nat) (lps:List Lp) (W FM:Hp),nn=nb-k∧(k≤nb)∧(lps.length=nb)∧(lps.map (·.ln)=hL b 1)∧(∀j,k≤j→lps.getD j default=lps0.getD j default)∧(OwnS 121 2 (.slice p27 nb c27) nb (jaC lps) W)∧(OwnF (lps.take k) FM)∧(∃U:Nat→Value,l=((tbV b ps ns ks pw nw cw pb nb cb)::(cV c.butt c.line c.st)::(str f)::(.pointer (some ⟨q3,0,none⟩))::(.pointer (some ⟨q4,0,none⟩))::(U 5)::(.pointer (some ⟨q6,0,none⟩))::(U 7)::(.pointer (some ⟨q8,0,none⟩))::(.pointer (some ⟨q3,3,none⟩))::vw6 U 10 ((.agg halvesL.toArray)::(.int .i64 1)::vw13 U 18 ((.slice p27 nb c27)::(.int .i64 (nb:Int))::(.int .i64 (k:Int))::vw33 U 34 []))))∧h++[⟨true,q3,.cells [.int .i64 b.wrong,.slice p14 ns c14,.slice wp nw wc,.slice p27 nb c27].toArray 25 (0,0)⟩,⟨true,q4,.cells [.bool c.butt,.int .i64 c.line,.int .i64 c.st].toArray 37 (0,0)⟩,⟨true,q6,.cells [.int .i64 0,.slice none 0 0,.slice none 0 0,.slice none 0 0].toArray 25 (0,0)⟩]++n14++M0++[⟨true,q8,.cells [str (hwS 1),.bool (decide (1=1)),.func (.func (261+1)) #[] #[]].toArray 184 (0,0)⟩]++W++FM=h') _ ⟨0,lps0,n27,[],rfl,by omega,hll,hle,fun j _=>rfl,o27,by rw [xg];exact .nil,exU rfl,(by rw [ge])⟩ ?_;rintro nn l h' ⟨k,lps,W,FM,rfl,hk,hlen,hmap,hsame,how,hof,⟨U,rfl⟩,rfl⟩ hnext2;refine Z2 ?_
   refine jam rfl zq (fun hc=>?_) (fun hc=>?_)
   ·refine Z7 ?_
    have rdW:=how.rd (B:=B) (gE _)
    obtain ⟨bl,lc1,junk,hwv,rfl,hwl,hwc,hwn⟩:=jcx how zO
    cases hwv
    have hxk:=hsame k (gM k)
    obtain ⟨x,hx⟩: ∃x,x=lps0.getD k default:=⟨_,rfl⟩
    rw [←hx] at hxk
    have hxm:x∈lps0:=hx▸jaj zO
    obtain ⟨hxc,rdf0⟩:=hfig x hxm
    have hxf:x.ln.figs.length=ns:=(hwf x.ln (by rw [←hle];exact gR.2 ⟨x,hxm,rfl⟩)).1
    have rdf:=rdf0 (by have:=rd.n1;omega)
    refine Z2 ?_;refine D8 ?_;refine jb4 (vs:=lpL x) rfl zq rfl (hxk▸rdW.eat k zO zO) ?_
    refine jay rfl zq (fun q11=>jao (jad ?_));refine Zs ?_;refine D4 ?_;refine Zs ?_;refine D55 ?_;refine Z6 ?_;refine D70 ?_
    rintro v n44 o44;refine jaz (jad ?_);obtain ⟨p44,c44,rfl,hc44,r44⟩:=jas (B:=B) o44
    refine D8 ?_;refine Zs ?_
    haveI hsl2:=jlz (xs:=lps) (junk:=junk) (i:=k) zO (x:=⟨x.ln,p44,c44⟩) (by rw [hxk])
    refine D19 ?_;refine Z6 ?_;refine m.weak (h':=h++[⟨true,q3,.cells [.int .i64 b.wrong,.slice p14 ns c14,.slice wp nw wc,.slice (some ⟨bl,0,none⟩) nb c27].toArray 25 (0,0)⟩,⟨true,q4,.cells [.bool c.butt,.int .i64 c.line,.int .i64 c.st].toArray 37 (0,0)⟩,⟨true,q6,.cells [.int .i64 0,.slice none 0 0,.slice none 0 0,.slice none 0 0].toArray 25 (0,0)⟩]++n14++M0++[⟨true,q8,.cells [str (hwS 1),.bool (decide (1=1)),.func (.func (261+1)) #[] #[]].toArray 184 (0,0)⟩]++[⟨true,bl,.cells (jaC (lps.set k ⟨x.ln,p44,c44⟩)++junk).toArray 121 (0,0)⟩]++(FM++n44)) jeO ?_
    exact E44
   ·refine Z10 ?_
    obtain rfl:nb=k:=by omega
    rw [gq zO] at hof
    refine jdS rfl zq zK (fun hbt=>?_) (fun hbt=>?_)
    ·refine Z2 ?_
     have hbe:c.butt=decide (1=1):=hbt.symm
     have hce:=jcR.1 hc0
     have hlL:c.line.toNat<lps.length:=by
      have h1:(jaO b c.butt).length=nb:=by rw [hbe,←jkR b zO,←hmap,gN,hlen]
      omega
     obtain ⟨li,hli⟩:=Gm hce.1
     obtain ⟨sj,hsj⟩:=Gm hce.2.2.1
     obtain ⟨M1f,Fb,M2f,rfl,hofb,hset⟩:=hof.at hlL
     obtain ⟨bl,lc1,junk,hwv,rfl,hwl,hwc,hwn⟩:=jcx how zO
     cases hwv
     rw [show c.line.toNat=li by omega] at hlL hofb hset
     obtain ⟨y,hy⟩: ∃y,y=lps.getD li default:=⟨_,rfl⟩
     rw [←hy] at hofb
     have hyl:y.ln∈hL b 1:=by rw [←hmap];exact gR.2 ⟨y,hy▸jaj hlL,rfl⟩
     have hyf:y.ln.figs.length=ns:=(hwf y.ln hyl).1
     obtain ⟨bf,fc,junkf,hfv,rfl,hfl,hfc,hfn⟩:=jcx hofb zO
     injection hfv with hyp _ hyc
     haveI hsf:=jgP (ss:=y.ln.figs) (junk:=junkf) (j:=c.st) (i:=sj) hsj zO f
     refine D38 ?_;refine Z7 ?_;refine D8 ?_;refine Zs ?_;refine jaN rfl zq (lp_rd (xs:=lps) (junk:=junk) hli hlL) ?_
     rw [←hy];refine Zs ?_;refine D103 ?_;refine D19 ?_;refine Z6 ?_
     have hy2:OwnS 9 1 (.slice y.p (y.ln.figs.set sj f).length y.c) (y.ln.figs.set sj f).length (jaC (y.ln.figs.set sj f)) [⟨true,bf,.cells (jaC (y.ln.figs.set sj f)++junkf).toArray 9 (0,0)⟩]:=by
      rw [hyp,hyc];exact E45
     have hnew:=hset ⟨⟨y.ln.lat,y.ln.figs.set sj f⟩,y.p,y.c⟩ _ hy2
     have hHalf:HalfO (.slice (some ⟨bl,0,none⟩) nb c27) nb (hL (jbl b c f) 1) ([⟨true,bl,.cells (jaC lps++junk).toArray 121 (0,0)⟩]++(M1f++[⟨true,bf,.cells (jaC (y.ln.figs.set sj f)++junkf).toArray 9 (0,0)⟩]++M2f)):=by
      refine ⟨_,_,_,_,_,rfl,?_,?_,hnew,rfl⟩
      ·rw [jop zO hbe,show c.line.toNat=li by omega,show c.st.toNat=sj by omega];have:=jhQ hmap hlL (k:=sj) f y.p y.c
       rw [←hy] at this
       exact this
      ·rw [jdq hlL (by rw [←hy];simp [lpL])];exact how
     refine m.weak (h':=h++[⟨true,q3,.cells [.int .i64 b.wrong,.slice p14 ns c14,.slice wp nw wc,.slice (some ⟨bl,0,none⟩) nb c27].toArray 25 (0,0)⟩,⟨true,q4,.cells [.bool c.butt,.int .i64 c.line,.int .i64 c.st].toArray 37 (0,0)⟩,⟨true,q6,.cells [.int .i64 0,.slice none 0 0,.slice none 0 0,.slice none 0 0].toArray 25 (0,0)⟩]++n14++M0++([⟨true,bl,.cells (jaC lps++junk).toArray 121 (0,0)⟩]++(M1f++[⟨true,bf,.cells (jaC (y.ln.figs.set sj f)++junkf).toArray 9 (0,0)⟩]++M2f))) (jhM _ _ _ _) ?_
     exact E46
    ·refine Z8 ?_
     have hHalf:HalfO (.slice p27 nb c27) nb (hL (jbl b c f) 1) (W++FM):=⟨lps,p27,c27,W,FM,rfl,by rw [jrr zO (fun e=>hbt e.symm)];exact hmap,how,hof,rfl⟩
     refine m.weak (h':=h++[⟨true,q3,.cells [.int .i64 b.wrong,.slice p14 ns c14,.slice wp nw wc,.slice p27 nb c27].toArray 25 (0,0)⟩,⟨true,q4,.cells [.bool c.butt,.int .i64 c.line,.int .i64 c.st].toArray 37 (0,0)⟩,⟨true,q6,.cells [.int .i64 0,.slice none 0 0,.slice none 0 0,.slice none 0 0].toArray 25 (0,0)⟩]++n14++M0++(W++FM)) (jhM _ _ _ _) ?_
     exact E46
  ·refine jag (fun nn l h'=> ∃(k:Nat) (lps:List Lp) (W FM:Hp),nn=nw-k∧(k≤nw)∧(lps.length=nw)∧(lps.map (·.ln)=hL b 0)∧(∀j,k≤j→lps.getD j default=lps0.getD j default)∧(OwnS 121 2 (.slice p27 nw c27) nw (jaC lps) W)∧(OwnF (lps.take k) FM)∧(∃U:Nat→Value,l=((tbV b ps ns ks pw nw cw pb nb cb)::(cV c.butt c.line c.st)::(str f)::(.pointer (some ⟨q3,0,none⟩))::(.pointer (some ⟨q4,0,none⟩))::(U 5)::(.pointer (some ⟨q6,0,none⟩))::(U 7)::(.pointer (some ⟨q8,0,none⟩))::(.pointer (some ⟨q3,2,none⟩))::vw6 U 10 ((.agg halvesL.toArray)::(.int .i64 0)::vw13 U 18 ((.slice p27 nw c27)::(.int .i64 (nw:Int))::(.int .i64 (k:Int))::vw33 U 34 []))))∧h++[⟨true,q3,.cells [.int .i64 b.wrong,.slice p14 ns c14,.slice p27 nw c27,.slice pb nb cb].toArray 25 (0,0)⟩,⟨true,q4,.cells [.bool c.butt,.int .i64 c.line,.int .i64 c.st].toArray 37 (0,0)⟩,⟨true,q6,.cells [.int .i64 0,.slice none 0 0,.slice none 0 0,.slice none 0 0].toArray 25 (0,0)⟩]++n14++[⟨true,q8,.cells [str (hwS 0),.bool (decide (0=1)),.func (.func (261+0)) #[] #[]].toArray 184 (0,0)⟩]++W++FM=h') _ ⟨0,lps0,n27,[],rfl,by omega,hll,hle,fun j _=>rfl,o27,by rw [xg];exact .nil,exU rfl,(by rw [ge])⟩ ?_;rintro nn l h' ⟨k,lps,W,FM,rfl,hk,hlen,hmap,hsame,how,hof,⟨U,rfl⟩,rfl⟩ hnext2;refine Z2 ?_
   refine jam rfl zq (fun hc=>?_) (fun hc=>?_)
   ·refine Z7 ?_
    have rdW:=how.rd (B:=B) (gE _)
    obtain ⟨bl,lc1,junk,hwv,rfl,hwl,hwc,hwn⟩:=jcx how zO
    cases hwv
    have hxk:=hsame k (gM k)
    obtain ⟨x,hx⟩: ∃x,x=lps0.getD k default:=⟨_,rfl⟩
    rw [←hx] at hxk
    have hxm:x∈lps0:=hx▸jaj zO
    obtain ⟨hxc,rdf0⟩:=hfig x hxm
    have hxf:x.ln.figs.length=ns:=(hwf x.ln (by rw [←hle];exact gR.2 ⟨x,hxm,rfl⟩)).1
    have rdf:=rdf0 (by have:=rd.n1;omega)
    refine Z2 ?_;refine D8 ?_;refine jb4 (vs:=lpL x) rfl zq rfl (hxk▸rdW.eat k zO zO) ?_
    refine jay rfl zq (fun q11=>jao (jad ?_));refine Zs ?_;refine D4 ?_;refine Zs ?_;refine D55 ?_;refine Z6 ?_;refine D70 ?_
    rintro v n44 o44;refine jaz (jad ?_);obtain ⟨p44,c44,rfl,hc44,r44⟩:=jas (B:=B) o44
    refine D8 ?_;refine Zs ?_
    haveI hsl2:=jlz (xs:=lps) (junk:=junk) (i:=k) zO (x:=⟨x.ln,p44,c44⟩) (by rw [hxk])
    refine D19 ?_;refine Z6 ?_;refine m.weak (h':=h++[⟨true,q3,.cells [.int .i64 b.wrong,.slice p14 ns c14,.slice (some ⟨bl,0,none⟩) nw c27,.slice pb nb cb].toArray 25 (0,0)⟩,⟨true,q4,.cells [.bool c.butt,.int .i64 c.line,.int .i64 c.st].toArray 37 (0,0)⟩,⟨true,q6,.cells [.int .i64 0,.slice none 0 0,.slice none 0 0,.slice none 0 0].toArray 25 (0,0)⟩]++n14++[⟨true,q8,.cells [str (hwS 0),.bool (decide (0=1)),.func (.func (261+0)) #[] #[]].toArray 184 (0,0)⟩]++[⟨true,bl,.cells (jaC (lps.set k ⟨x.ln,p44,c44⟩)++junk).toArray 121 (0,0)⟩]++(FM++n44)) jeO ?_
    exact E44
   ·refine Z10 ?_
    obtain rfl:nw=k:=by omega
    rw [gq zO] at hof
    refine jdS rfl zq zK (fun hbt=>?_) (fun hbt=>?_)
    ·refine Z2 ?_
     have hbe:c.butt=decide (0=1):=hbt.symm
     have hce:=jcR.1 hc0
     have hlL:c.line.toNat<lps.length:=by
      have h1:(jaO b c.butt).length=nw:=by rw [hbe,←jkR b zO,←hmap,gN,hlen]
      omega
     obtain ⟨li,hli⟩:=Gm hce.1
     obtain ⟨sj,hsj⟩:=Gm hce.2.2.1
     obtain ⟨M1f,Fb,M2f,rfl,hofb,hset⟩:=hof.at hlL
     obtain ⟨bl,lc1,junk,hwv,rfl,hwl,hwc,hwn⟩:=jcx how zO
     cases hwv
     rw [show c.line.toNat=li by omega] at hlL hofb hset
     obtain ⟨y,hy⟩: ∃y,y=lps.getD li default:=⟨_,rfl⟩
     rw [←hy] at hofb
     have hyl:y.ln∈hL b 0:=by rw [←hmap];exact gR.2 ⟨y,hy▸jaj hlL,rfl⟩
     have hyf:y.ln.figs.length=ns:=(hwf y.ln hyl).1
     obtain ⟨bf,fc,junkf,hfv,rfl,hfl,hfc,hfn⟩:=jcx hofb zO
     injection hfv with hyp _ hyc
     haveI hsf:=jgP (ss:=y.ln.figs) (junk:=junkf) (j:=c.st) (i:=sj) hsj zO f
     refine D38 ?_;refine Z7 ?_;refine D8 ?_;refine Zs ?_;refine jaN rfl zq (lp_rd (xs:=lps) (junk:=junk) hli hlL) ?_
     rw [←hy];refine Zs ?_;refine D103 ?_;refine D19 ?_;refine Z6 ?_
     have hy2:OwnS 9 1 (.slice y.p (y.ln.figs.set sj f).length y.c) (y.ln.figs.set sj f).length (jaC (y.ln.figs.set sj f)) [⟨true,bf,.cells (jaC (y.ln.figs.set sj f)++junkf).toArray 9 (0,0)⟩]:=by
      rw [hyp,hyc];exact E45
     have hnew:=hset ⟨⟨y.ln.lat,y.ln.figs.set sj f⟩,y.p,y.c⟩ _ hy2
     have hHalf:HalfO (.slice (some ⟨bl,0,none⟩) nw c27) nw (hL (jbl b c f) 0) ([⟨true,bl,.cells (jaC lps++junk).toArray 121 (0,0)⟩]++(M1f++[⟨true,bf,.cells (jaC (y.ln.figs.set sj f)++junkf).toArray 9 (0,0)⟩]++M2f)):=by
      refine ⟨_,_,_,_,_,rfl,?_,?_,hnew,rfl⟩
      ·rw [jop zO hbe,show c.line.toNat=li by omega,show c.st.toNat=sj by omega];have:=jhQ hmap hlL (k:=sj) f y.p y.c
       rw [←hy] at this
       exact this
      ·rw [jdq hlL (by rw [←hy];simp [lpL])];exact how
     refine m.weak (h':=h++[⟨true,q3,.cells [.int .i64 b.wrong,.slice p14 ns c14,.slice (some ⟨bl,0,none⟩) nw c27,.slice pb nb cb].toArray 25 (0,0)⟩,⟨true,q4,.cells [.bool c.butt,.int .i64 c.line,.int .i64 c.st].toArray 37 (0,0)⟩,⟨true,q6,.cells [.int .i64 0,.slice none 0 0,.slice none 0 0,.slice none 0 0].toArray 25 (0,0)⟩]++n14++([⟨true,bl,.cells (jaC lps++junk).toArray 121 (0,0)⟩]++(M1f++[⟨true,bf,.cells (jaC (y.ln.figs.set sj f)++junkf).toArray 9 (0,0)⟩]++M2f))) (jhM _ _ _ _) ?_
     exact E47
    ·refine Z8 ?_
     have hHalf:HalfO (.slice p27 nw c27) nw (hL (jbl b c f) 0) (W++FM):=⟨lps,p27,c27,W,FM,rfl,by rw [jrr zO (fun e=>hbt e.symm)];exact hmap,how,hof,rfl⟩
     refine m.weak (h':=h++[⟨true,q3,.cells [.int .i64 b.wrong,.slice p14 ns c14,.slice p27 nw c27,.slice pb nb cb].toArray 25 (0,0)⟩,⟨true,q4,.cells [.bool c.butt,.int .i64 c.line,.int .i64 c.st].toArray 37 (0,0)⟩,⟨true,q6,.cells [.int .i64 0,.slice none 0 0,.slice none 0 0,.slice none 0 0].toArray 25 (0,0)⟩]++n14++(W++FM)) (jhM _ _ _ _) ?_
     exact E47
 ·refine Z5 ?_
  obtain rfl:i=2:=by omega
  obtain ⟨_,_,hw1,hwr⟩:=(hz2 zO).rd (B:=B)
  cases hw1
  obtain ⟨_,_,hb1,hbr⟩:=(hz3 zO).rd (B:=B)
  cases hb1
  refine Z2 ?_;refine D4 ?_;refine Z2 ?_;refine jac (h++n14++M0++M1) rfl Tryz.func112 rfl jab ?_;refine Zs ?_
  exact ⟨n14++M0++M1,p14,c14,wp,wc,bp,bc,by simp only [gI],by rw [tbV,tbL,setF_wrong],⟨by rw [jdm];exact r14.keeps (Gb (gG _ _) (gG _ _)),hc14,by omega,hwr.keeps (Gb (gK _ _) (gG _ _)),by omega,hbr.keeps (gK _ _),by omega,jql rd.sm hf⟩⟩
end
section
variable [LaidO B]
def jeL (b:Tb) (c:Ce) (f:Str):Int:=if tbS b≠0 then tbS b else if c∉jaa b then 6 else if ja2 f=false then 3 else 0
def joJ (b:Tb) (c:Ce) (f:Str):List Int:=if jeL b c f=0 then jan (jbU b c) else [0,0,0]
def jpb (b:Tb) (c:Ce) (f:Str):List Int:=if jeL b c f=0 then jan f else [0,0,0]
theorem je7 {c:Ce} (h:jeL b c f=0):tbS b=0∧c∈jaa b∧ja2 f=true:=by
 unfold jeL at h
 split at h
 ·contradiction
 ·rename_i h1
  split at h
  ·cases h
  ·rename_i h2
   split at h
   ·cases h
   ·rename_i h3
    exact ⟨Gy.1 h1,Gy.1 h2,by simpa using h3⟩
abbrev zeroL:List Value:=[.int .i64 0,.slice none 0 0,.slice none 0 0,.slice none 0 0]
def jmE (B:Array Obj) (s:Int) (b:Tb) (new:Hp) (v:Value):Prop:= ∃x0 y1 z1 w1 y2 z2 w2 y3 z3 w3,v= .tuple [.agg [Value.int .i64 x0,.slice y1 z1 w1,.slice y2 z2 w2,.slice y3 z3 w3].toArray,.int .i64 s].toArray∧(s≠0→[Value.int .i64 x0,.slice y1 z1 w1,.slice y2 z2 w2,.slice y3 z3 w3]=zeroL)∧(s=0→ ∃ps ns ks pw nw cw pb nb cb,[Value.int .i64 x0,.slice y1 z1 w1,.slice y2 z2 w2,.slice y3 z3 w3]=tbL b ps ns ks pw nw cw pb nb cb∧RawTb B new b ps ns ks pw nw cw pb nb cb)
theorem jcP {s:Int} (h:s≠0):jmE B s b [] (.tuple [.agg zeroL.toArray,.int .i64 s].toArray):=⟨_,_,_,_,_,_,_,_,_,_,rfl,fun _=>rfl,fun e=>absurd e h⟩
theorem jkg {p o:List Int} (hp:PtOk p) (ho:PtOk o):PtOk (jaT p o):=by
 have e: ∀j,j<3→(jaT p o).getD j 0=if p.getD j 0= -1 then o.getD j 0 else p.getD j 0:=fun j hj=>by
  rw [jaT,gC,gX,Gg hj];rfl
 refine ⟨by simp [jaT],fun j=>?_,fun j hj=>?_⟩
 ·by_cases hj:j<3
  ·rw [e j hj];split
   ·exact ho.lo j
   ·exact hp.lo j
  ·rw [gC,gh (by simp [jaT];omega)];decide
 ·rw [e j hj];split
  ·exact ho.hi j hj
  ·exact hp.hi j hj
theorem digS_le (n:Nat):(jjv n).length≤2:=by unfold jjv;split<;>simp
theorem jbv (x:Int):(jaD x).length≤2:=by unfold jaD;split;simp;exact digS_le _
theorem jnH {v:List Int} (h:v.length=3):(jbM v).length≤8:=by
 match v,h with
 |[a,b,c],_=>
  have h1:=jbv a
  have h2:=jbv b
  have h3:=jbv c
  simp [jbM,jnh]
  omega
def jd0 (b:Tb) (c:Ce) (f:Str):List Int:=jaT (joJ b c f) (jpb b c f)
def jeq (b:Tb) (c:Ce) (f:Str):Int:=if jeL b c f≠0 then jeL b c f else if jaT (jpb b c f) (joJ b c f)≠jd0 b c f then 9 else jaH (jbl b c (jbM (jd0 b c f))) 0
def jlT (b:Tb) (c:Ce) (f:Str):Int:=if jeL b c f≠0 then jeL b c f else jaH (jbl b c f) 0
theorem callB161:jcd Tryz.prog 161=true:=by kernel_rfl
theorem lp_get2 (h:lps.map (·.ln)=ls) (k:Nat):(lps.getD k default).ln=ls.getD k default:=by
 subst h
 rw [gC,gC,gX];cases lps[k]?<;>rfl
theorem figT_sm (h:TbSm b) (c:Ce):(jbU b c).length≤100000:=by
 have gen: ∀ls:List Ln,(∀l∈ls,l.figs.length≤1000∧ ∀f∈l.figs,f.length≤100000)→ ∀i j,((ls.getD i default).figs.getD j []).length≤100000:=fun ls hl i j=>by
  by_cases hi:i<ls.length
  ·by_cases hj:j<(ls.getD i default).figs.length
   ·exact (hl _ (jaj hi)).2 _ (jaj (l:=(ls.getD i default).figs) hj)
   ·rw [gC (l:=(ls.getD i default).figs),gh zO];simp
  ·rw [gC (l:=ls),gh zO];simp [default,instInhabitedLn.default]
 unfold jbU jbg jaO
 split
 ·exact gen _ h.but _ _
 ·exact gen _ h.wat _ _
theorem f109_c (m:Md Tryz.prog B) (h:Hp) (ra:RawTb B h b ps ns ks pw nw cw pb nb cb) (c:Ce) (f:Str) (hf:f.length≤100000):FnC m 109 #[tbV b ps ns ks pw nw cw pb nb cb,cV c.butt c.line c.st,str f] h fun v h'=>h'=h∧v= .tuple [.agg (jav (joJ b c f)).toArray,.agg (jav (jpb b c f)).toArray,.int .i64 (jeL b c f)].toArray:=by
 refine jae Tryz.func109 rfl rfl (l:=(tbV b ps ns ks pw nw cw pb nb cb)::(cV c.butt c.line c.st)::(str f)::uu58) rfl ?_
 intro cf cs K hK
 refine Z2 ?_
 refine jaA rfl zq (fun q3=>jao (jad ?_));refine jaA rfl zq (fun q4=>jao (jad ?_));refine jay rfl zq (fun q6=>jao (jad ?_));refine jay rfl zq (fun q7=>jao (jad ?_));refine Z6 ?_;refine D44 ?_
 rintro v rfl;refine Z6 ?_
 refine jaI rfl zq (fun hc=>?_) (fun hc=>?_)
 ·refine Z4 ?_;refine D40 ?_;refine D40 ?_;refine Zs ?_;refine D4 ?_;refine jdP ?_;refine D102 ?_;refine Zs ?_
  have eb:jeL b c f=tbS b:=by rw [jeL,if_pos hc]
  exact ⟨rfl,by rw [joJ,jpb,eb,if_neg hc,if_neg hc];rfl⟩
 ·refine Z5 ?_
  have hz0:tbS b=0:=by omega
  have hk:=jbf.1 hz0
  refine jbi [0,1,2,3,4,5] zK zK (gE _) ?_;refine DrawT.leaf [Zr 0,Zr 2,Zk 1,Zk 3,Zk 4,Zp 5] zK ?_;refine Z2 ?_;refine D5 ?_;rintro v nz ⟨qs,rfl,rfl⟩;refine jaz (jad ?_);refine D13 ?_
  rintro v n9 ⟨q9,rfl,sh⟩;refine jaz (jad ?_);refine jfF (Post:=fun v=>v= .int .i64 (jgX b c)) rfl zq jk5 (fun H' hH=>by
   have hs9:n9.Sublist H':=Gb zW hH
   simpa [jgX] using f149_c m H' (sh.keeps hs9) (c:=c) (RdN.keepsN (jkA (q:=qs)) hH)) ?_
  rintro v rfl;refine Z6 ?_
  refine jaI rfl zq (fun hc=>?_) (fun hc=>?_)
  ·refine Z4 ?_;refine D40 ?_;refine D40 ?_;refine Zs ?_;refine D4 ?_;refine jdP ?_;refine D102 ?_;refine Zs ?_
   have hno:c∉jaa b:=fun e=>by
    have hcc:=hc
    rw [jgX,if_pos e] at hcc
    exact hcc rfl
   have e6:jeL b c f=6:=by rw [jeL,if_neg (fun e=>e hz0),if_pos hno]
   exact ⟨rfl,by rw [joJ,jpb,e6,jgX,if_neg hno];rfl⟩
  ·refine Z6 ?_;refine jaf (Post:=fun v=>v=_) rfl zq zK (fun H' hH=>f119_c m H' _ hf) ?_
   rintro v rfl;refine Z4 ?_;refine D46 ?_;refine Z4 ?_
   cases hfo:ja2 f
   refine Z7 ?_;refine D40 ?_;refine D40 ?_;refine D4 ?_
   haveI hsz:SetSeg (jav (jan f)) 0 [.int .i64 0,.int .i64 0,.int .i64 0] [.int .i64 0,.int .i64 0,.int .i64 0]:=jjI (by rw [gN,(ja9 f).len];rfl)
   refine jdP ?_;refine D102 ?_;refine Zs ?_
   rotate_left
   refine Z7 ?_
   all_goals
    have hin:c∈jaa b:=gt fun e=>by
     have hcc:=hc
     rw [jgX,if_neg e] at hcc
     omega
    have hht:=(jbS hin).1
   ·have hce:=jcR.1 hht
    obtain ⟨li,hli⟩:=Gm hce.1
    obtain ⟨sj,hsj⟩:=Gm hce.2.2.1
    have hf2:(jbU b c).length≤100000:=figT_sm ra.sm c
    have rd:=ra.rd hk
    have hsl:=rd.sl
    have e0:jeL b c f=0:=by rw [jeL,if_neg (fun e=>e hz0),if_neg (fun e=>e hin),if_neg (by rw [hfo];simp)]
    refine Z11 ?_
    refine jcl (fun hc=>?_) (fun hc=>?_);first|replace hc:=of_decide_eq_true hc|replace hc:=of_decide_eq_false hc|skip
    refine Z5 ?_
    rotate_left
    first|replace hc:=of_decide_eq_true hc|replace hc:=of_decide_eq_false hc|skip
    refine Zs ?_
    all_goals
     refine Zs ?_;refine jaq [Zp 0,Zp 1,Zp 6,Zr 2,Zp 3,Zp 4,Zr 5,Zr 7,Zp 8,Zr 9,Zk 10,Zp 11,Zp 12,Zp 13,Zf 14] zK zK (gE _) ?_
     have hlines: ∃p n c',RdLn B h (.slice p n c') n (jaO b c.butt)∧n≤1000∧(c.butt=true→p=pb∧n=nb∧c'=cb)∧(c.butt=false→p=pw∧n=nw∧c'=cw):=by
      cases hcb:c.butt with
      |true=>exact ⟨pb,nb,cb,ra.u,ra.un,fun _=>⟨rfl,rfl,rfl⟩,by intro e;cases e⟩
      |false=>exact ⟨pw,nw,cw,ra.w,ra.wn,(by intro e;cases e),fun _=>⟨rfl,rfl,rfl⟩⟩
     obtain ⟨pl,nl,cl,hln,hnl,hl1,hl2⟩:=hlines
     obtain ⟨lps,hle,rl,hfig⟩:=hln
     have hll:=rl.elen zA
     have hlen:(jaO b c.butt).length=nl:=by rw [←hle,gN,hll]
     have hlx:li<nl:=by omega
     obtain ⟨x,hx⟩: ∃x,x=lps.getD li default:=⟨_,rfl⟩
     have hxm:x∈lps:=hx▸jaj zO
     obtain ⟨hxc,rdf0⟩:=hfig x hxm
     have hxl:x.ln=jbg b c:=by rw [hx,lp_get2 hle,jbg,show c.line.toNat=li by omega]
     have hxf:x.ln.figs.length=ns:=by rw [hxl,((hk.lines c.butt).ok _ (jdR hht)).len,hsl]
     have hfg:jbU b c=x.ln.figs.getD sj []:=by rw [jbU,←hxl,show c.st.toNat=sj by omega]
     obtain ⟨rlb,rlo,hrlp⟩:=rl.ptr zO
     have rdf:=rdf0 zO
     obtain ⟨rfb,rfo,hrfp⟩:=rdf.ptr zO
     have rl':=rl
     rw [hrlp] at rl'
     have rdf':=rdf
     rw [hrfp] at rdf'
     first
      |(have hq:=hl1 hc;obtain ⟨rfl,rfl,rfl⟩:=hq)
      |(have hq:=hl2 hc;obtain ⟨rfl,rfl,rfl⟩:=hq)
     refine Z4 ?_;refine jaL rfl zq hrlp zO zO ?_;refine Zs ?_;refine jaN (v:= .slice x.p x.ln.figs.length x.c) rfl zq (hx▸rl'.fat li 1 zO zO rfl) ?_;refine Zs ?_;refine jaL rfl zq hrfp zO zO ?_;refine jaN rfl zq (rdf'.sat sj zO zO) ?_
     rw [←hfg];refine jaf (Post:=fun v=>v= .tuple [.agg (jav (jan (jbU b c))).toArray,.bool (ja2 (jbU b c))].toArray) rfl zq zK (fun H' hH=>f119_c m H' _ hf2) ?_;rintro v rfl;refine Z4 ?_;refine D46 ?_;refine Z2 ?_
     haveI hs1:Seg (jav (jan f)) 0 3 (jav (jan f)):=seg_all (by rw [gN,(ja9 f).len])
     haveI hs2:Seg (jav (jan (jbU b c))) 0 3 (jav (jan (jbU b c))):=seg_all (by rw [gN,(ja9 (jbU b c)).len])
     refine jaq (S:=[⟨true,q7,.cells (jav (jan f)).toArray 145 (0,0)⟩]) [Zr 1,Zk 0,Zk 2,Zf 3,Zp 4] zK zK SubH.sub ?_;refine D32 ?_;refine D32 ?_;refine jeG rfl zq (ja9 _).len (by rw [gN,(ja9 _).len]) ?_;refine jeG rfl zq (ja9 _).len (by rw [gN,(ja9 _).len]) ?_;refine Z3 ?_;refine D102 ?_;refine Zs ?_;exact ⟨rfl,by rw [joJ,jpb,e0];rfl⟩
   ·have e3:jeL b c f=3:=by rw [jeL,if_neg (fun e=>e hz0),if_neg (fun e=>e hin),if_pos hfo]
    exact ⟨rfl,by rw [joJ,jpb,e3];rfl⟩
end
section
variable [LaidO B]
theorem jeP (b:Tb) (c:Ce) (f:Str):PtOk (joJ b c f):=by unfold joJ;split;exact ja9 _;exact PtOk.zero
theorem je0 (b:Tb) (c:Ce) (f:Str):PtOk (jpb b c f):=by unfold jpb;split;exact ja9 _;exact PtOk.zero
theorem f111_c (m:Md Tryz.prog B) (h:Hp) (ra:RawTb B h b ps ns ks pw nw cw pb nb cb):FnC m 111 #[tbV b ps ns ks pw nw cw pb nb cb] h fun v h'=>h'=h∧ ∃x0 y1 z1 w1 y2 z2 w2 y3 z3 w3,v= .tuple [.agg [Value.int .i64 x0,.slice y1 z1 w1,.slice y2 z2 w2,.slice y3 z3 w3].toArray,.int .i64 (jaH b 0)].toArray∧(jaH b 0≠0→[Value.int .i64 x0,.slice y1 z1 w1,.slice y2 z2 w2,.slice y3 z3 w3]=zeroL)∧(jaH b 0=0→[Value.int .i64 x0,.slice y1 z1 w1,.slice y2 z2 w2,.slice y3 z3 w3]=(tbL b ps ns ks pw nw cw pb nb cb)):=by
 refine jae Tryz.func111 rfl rfl (l:=(tbV b ps ns ks pw nw cw pb nb cb)::uu15) rfl ?_
 intro cf cs K hK
 refine Z2 ?_
 refine jaA rfl zq (fun q1=>jao (jad ?_));refine jay rfl zq (fun q2=>jao (jad ?_));refine Z6 ?_;refine jax rfl zq zK (Post:=fun v nz=>jhh B b (tbL b ps ns ks pw nw cw pb nb cb) (jaH b 0) nz v) (fun H' hH=>f88_c m H' (ra.keeps (sq hH)) callB161 (fun hk K q hKs hs=>by simpa using f161_c m K _)) ?_
 rintro v n8 ⟨qp,p8,m8,c8,rfl,hz⟩;refine jaz (jad ?_);refine Z3 ?_
 refine jay rfl zq (fun q4=>jao (jad ?_));refine D4 ?_;refine Z5 ?_
 refine jaI rfl zq (fun hc=>?_) (fun hc=>?_);refine Z4 ?_;refine D30 ?_;refine Zs ?_
 rotate_left
 refine Z6 ?_
 all_goals
  refine jdP ?_;refine jac (h) rfl Tryz.func111 rfl jab ?_;refine Zs ?_
 ·have hz0:jaH b 0=0:=by omega
  exact ⟨rfl,_,_,_,_,_,_,_,_,_,_,by rw [hz0],fun e=>absurd hz0 e,fun _=>rfl⟩
 ·exact ⟨rfl,_,_,_,_,_,_,_,_,_,_,rfl,fun _=>rfl,fun e=>absurd e zD⟩
theorem f60_c (m:Md Tryz.prog B) (h:Hp) (ra:RawTb B h b ps ns ks pw nw cw pb nb cb) (c:Ce) (f:Str) (hf:f.length≤100000):FnC m 60 #[tbV b ps ns ks pw nw cw pb nb cb,cV c.butt c.line c.st,str f] h fun v h'=> ∃new,h'=h++new∧jmE B (jlT b c f) (jbl b c f) new v:=by
 refine jae Tryz.func60 rfl rfl (l:=(tbV b ps ns ks pw nw cw pb nb cb)::(cV c.butt c.line c.st)::(str f)::uu27) rfl ?_
 intro cf cs K hK
 refine Z2 ?_
 refine jaA rfl zq (fun q3=>jao (jad ?_));refine jaA rfl zq (fun q4=>jao (jad ?_));refine jay rfl zq (fun q6=>jao (jad ?_));refine Z4 ?_;refine rr13 ?_;refine Z3 ?_;refine D43 ?_
 rintro v rfl;refine Z4 ?_;refine jiI rfl zq ?_
 refine jay rfl zq (fun q8=>jao (jad ?_));refine jay rfl zq (fun q9=>jao (jad ?_));refine D116 ?_;refine Z5 ?_
 refine jaI rfl zq (fun hc=>?_) (fun hc=>?_)
 ·refine Z4 ?_;refine D30 ?_;refine Zs ?_;refine jdP ?_;refine jac (h) rfl Tryz.func60 rfl jab ?_;refine Zs ?_
  have e1:jlT b c f=jeL b c f:=by rw [jlT,if_pos hc]
  exact ⟨[],by simp,by rw [e1];exact jcP hc⟩
 ·refine Z4 ?_
  have ef:jeL b c f=0:=by omega
  obtain ⟨hz0,hin,hfo⟩:=je7 ef
  have hk:=jbf.1 hz0
  have hht:=(jbS hin).1
  have rd:=ra.rd hk
  have e0:jlT b c f=jaH (jbl b c f) 0:=by rw [jlT,if_neg (fun e=>e ef)]
  refine Z4 ?_;refine jax rfl zq zK (Post:=fun v nz=> ∃ps' ks' pw' cw' pb' cb',v=tbV (jbl b c f) ps' ns ks' pw' nw cw' pb' nb cb'∧RawTb B nz (jbl b c f) ps' ns ks' pw' nw cw' pb' nb cb') (fun H' hH=>CallF.mono (f112_c m H' (rd.keeps (sq hH)) hht f hf) fun v h' ⟨nz,p1,k1,p2,k2,p3,k3,e1,e2,e3⟩=>⟨nz,e1,p1,k1,p2,k2,p3,k3,e2,e3⟩) ?_
  rintro v n37 ⟨p1,k1,p2,k2,p3,k3,rfl,ra2⟩;refine jaz (jad ?_);refine jaf (Post:=fun v=> ∃x0 y1 z1 w1 y2 z2 w2 y3 z3 w3,v= .tuple [.agg [Value.int .i64 x0,.slice y1 z1 w1,.slice y2 z2 w2,.slice y3 z3 w3].toArray,.int .i64 (jaH (jbl b c f) 0)].toArray∧(jaH (jbl b c f) 0≠0→[Value.int .i64 x0,.slice y1 z1 w1,.slice y2 z2 w2,.slice y3 z3 w3]=zeroL)∧(jaH (jbl b c f) 0=0→[Value.int .i64 x0,.slice y1 z1 w1,.slice y2 z2 w2,.slice y3 z3 w3]=tbL (jbl b c f) p1 ns k1 p2 nw k2 p3 nb k3)) rfl zq zK (fun H' hH=>f111_c m H' (ra2.keeps (Gb (gK _ _) hH))) ?_;rintro v ⟨x0,y1,z1,w1,y2,z2,w2,y3,z3,w3,rfl,ha1,ha2⟩;refine Z3 ?_;refine jdP ?_;refine jac (h++n37) rfl Tryz.func60 rfl jab ?_;refine Zs ?_
  exact E48
theorem f53_c (m:Md Tryz.prog B) (h:Hp) (ra:RawTb B h b ps ns ks pw nw cw pb nb cb) (c:Ce) (f:Str) (hf:f.length≤100000):FnC m 53 #[tbV b ps ns ks pw nw cw pb nb cb,cV c.butt c.line c.st,str f] h fun v h'=> ∃new,h'=h++new∧jmE B (jeq b c f) (jbl b c (jbM (jd0 b c f))) new v:=by
 refine jae Tryz.func53 rfl rfl (l:=(tbV b ps ns ks pw nw cw pb nb cb)::(cV c.butt c.line c.st)::(str f)::uu38) rfl ?_
 intro cf cs K hK
 refine Z2 ?_
 refine jaA rfl zq (fun q3=>jao (jad ?_));refine jaA rfl zq (fun q4=>jao (jad ?_));refine jay rfl zq (fun q6=>jao (jad ?_));refine Z3 ?_;refine rr13 ?_;refine Z3 ?_;refine D43 ?_
 rintro v rfl;refine Z4 ?_;refine jiI rfl zq ?_
 refine jay rfl zq (fun q8=>jao (jad ?_));refine jay rfl zq (fun q9=>jao (jad ?_));refine D116 ?_;refine Z6 ?_
 refine jaI rfl zq (fun hc=>?_) (fun hc=>?_)
 ·refine Z4 ?_;refine D30 ?_;refine Zs ?_;refine jdP ?_;refine jac (h) rfl Tryz.func53 rfl jab ?_;refine Zs ?_
  have e1:jeq b c f=jeL b c f:=by rw [jeq,if_pos hc]
  exact ⟨[],by simp,by rw [e1];exact jcP hc⟩
 ·refine Z4 ?_
  have ef:jeL b c f=0:=by omega
  obtain ⟨hz0,hin,hfo⟩:=je7 ef
  have hk:=jbf.1 hz0
  have hht:=(jbS hin).1
  have rd:=ra.rd hk
  have hbo:PtOk (jd0 b c f):=jkg (jeP b c f) (je0 b c f)
  refine Zs ?_;refine jdk rfl zq (jeP b c f).len ?_;refine jdk rfl zq (je0 b c f).len ?_;refine jaf (Post:=fun v=>v= .agg (jav (jd0 b c f)).toArray) rfl zq zK (fun H' hH=>f110_c m H' (jeP b c f).len (je0 b c f).len) ?_
  rintro v rfl;refine Zs ?_
  refine jay rfl zq (fun q11=>jao (jad ?_));refine jeG rfl zq hbo.len (by rw [hbo.len];rfl) ?_;refine Z3 ?_;refine D89 ?_;refine jdk rfl zq (je0 b c f).len ?_;refine jdk rfl zq (jeP b c f).len ?_;refine jdk rfl zq hbo.len ?_;refine jaf (Post:=fun v=>v= .agg (jav (jaT (jpb b c f) (joJ b c f))).toArray) rfl zq zK (fun H' hH=>f110_c m H' (je0 b c f).len (jeP b c f).len) ?_;rintro v rfl;refine Zs ?_
  refine k_neqA3 rfl zq zK zK (jkg (je0 b c f) (jeP b c f)).len hbo.len (fun hne=>?_) (fun hne=>?_)
  ·refine Z4 ?_;refine D30 ?_;refine jdP ?_;refine jac (h) rfl Tryz.func53 rfl jab ?_;refine Zs ?_
   have e1:jeq b c f=9:=by rw [jeq,if_neg (fun e=>e ef),if_pos hne]
   exact ⟨[],by simp,by rw [e1];exact jcP zA⟩
  ·refine Z4 ?_
   have e0:jeq b c f=jaH (jbl b c (jbM (jd0 b c f))) 0:=by rw [jeq,if_neg (fun e=>e ef),if_neg (fun e=>e hne)]
   refine jaq [Zr 0,Zr 1,Zr 2,Zk 3,Zk 4,Zk 5,Zp 6,Zp 7,Zf 8,Zp 9] zK zK (gE _) ?_;refine Z2 ?_;refine jdk rfl zq hbo.len ?_;refine jaf (Post:=fun v=>v=str (jbM (jd0 b c f))) rfl zq zK (fun H' hH=>f113_c m H' hbo) ?_;rintro v rfl;refine Zs ?_;refine jax rfl zq zK (Post:=fun v nz=> ∃ps' ks' pw' cw' pb' cb',v=tbV (jbl b c (jbM (jd0 b c f))) ps' ns ks' pw' nw cw' pb' nb cb'∧RawTb B nz (jbl b c (jbM (jd0 b c f))) ps' ns ks' pw' nw cw' pb' nb cb') (fun H' hH=>CallF.mono (f112_c m H' (rd.keeps (sq hH)) hht (jbM (jd0 b c f)) (GI (jnH hbo.len) zO)) fun v h' ⟨nz,p1,k1,p2,k2,p3,k3,e1,e2,e3⟩=>⟨nz,e1,p1,k1,p2,k2,p3,k3,e2,e3⟩) ?_
   rintro v n37 ⟨p1,k1,p2,k2,p3,k3,rfl,ra2⟩;refine jaz (jad ?_);refine jaf (Post:=fun v=> ∃x0 y1 z1 w1 y2 z2 w2 y3 z3 w3,v= .tuple [.agg [Value.int .i64 x0,.slice y1 z1 w1,.slice y2 z2 w2,.slice y3 z3 w3].toArray,.int .i64 (jaH (jbl b c (jbM (jd0 b c f))) 0)].toArray∧(jaH (jbl b c (jbM (jd0 b c f))) 0≠0→[Value.int .i64 x0,.slice y1 z1 w1,.slice y2 z2 w2,.slice y3 z3 w3]=zeroL)∧(jaH (jbl b c (jbM (jd0 b c f))) 0=0→[Value.int .i64 x0,.slice y1 z1 w1,.slice y2 z2 w2,.slice y3 z3 w3]=tbL (jbl b c (jbM (jd0 b c f))) p1 ns k1 p2 nw k2 p3 nb k3)) rfl zq zK (fun H' hH=>f111_c m H' (ra2.keeps (Gb (gK _ _) hH))) ?_;rintro v ⟨x0,y1,z1,w1,y2,z2,w2,y3,z3,w3,rfl,ha1,ha2⟩;refine Z3 ?_;refine jdP ?_;refine jac (h++n37) rfl Tryz.func53 rfl jab ?_;refine Zs ?_
   exact E48
end
end Go.Proofs
namespace Go.Proofs
open Go.Lo
open Go.Conc (G dcall)
section
variable {C:Crew} {Y:SyC Tryz.prog B C.pro} {kn r:Nat} {z:Bool}
theorem k_putQ {D:Nat} {b:Frame} {k:List Item} [p:PutV l d v l'] (n:(Im.quit Tryz.prog D).R (Gr b l' ds k cs)):(Im.quit Tryz.prog D).R (Gr b (put l d v) ds k cs):=by rw [p.eq];exact n
theorem addW_c (hM:C.n≤4100) (hz:C.hit kn=true→z=true) {c:Frame} (hq:(Im.quit Tryz.prog 0).R (G (c.finish (.tuple #[])) cs)):
  ((SyC.kid Tryz.prog B C.pro i).im 0 (.w kn .on z) h).R (G (Frame.enter Tryz.prog 153 [.pointer (some ⟨C.wg,0,none⟩),.int .i64 (-1)].toArray .normal) (c::cs)):=by
 refine je5 Tryz.func153 rfl rfl (l:=(.pointer (some ⟨C.wg,0,none⟩))::(.int .i64 (-1))::uu115) rfl ?_;refine Z6 ?_;refine jcC (v:= .bool true) rfl zq zA (jn8 zA) ?_;refine Z4 ?_;refine D98 ?_;refine y_bye hz extMerge rfl zq ?_;refine Z3 ?_;refine jh1 jhb rfl zq ?_;refine Z2 ?_;refine jnj (args:=[]) rfl zq rfl zA ?_;refine Z8 ?_;refine i_ext jmn rfl zq rfl ?_;refine Z9 ?_;refine je6 (n':=18446744073709551615) rfl zq zK zA ?_;refine jg7 (v:= .int .u64 18446744069414584320) rfl zq (.inl rfl) (op_shl zA zA) ?_;refine D90 ?_;refine je5 Tryz.func199 rfl rfl (l:=(.pointer (some ⟨C.wg,0,none⟩))::(.int .u64 18446744069414584320)::uu8) rfl ?_;refine Z10 ?_;refine y_wgSub zO hM hz jov rfl zq (fun v wt hv70 hwt hvw=>?_) (jec ?_)
 ·show (Im.quit Tryz.prog 1).R _
  refine k_putQ ?_;refine Z3 ?_;refine jc1 rfl Tryz.func199 (jbT rfl) ?_;refine jg8 rfl ?_;refine Z6 ?_;refine jcC (v:= .int .u64 0) rfl zq zA (jfE ((jc7 v wt hv70 hwt).flag)) ?_;refine D16 ?_;refine Z10 ?_;refine jg7 (v:= .int .u64 (v:Int)) rfl zq (.inr rfl) (jn7 zA (jc7 v wt hv70 hwt).hi) ?_;refine je6 rfl zq zK (jc7 v wt hv70 hwt).hi32 ?_;refine Z5 ?_;refine jcC (v:= .int .u64 (wt:Int)) rfl zq zA (jfE ((jc7 v wt hv70 hwt).lo)) ?_;refine je6 rfl zq zK (jc7 v wt hv70 hwt).lo32 ?_;refine Z6 ?_;refine jpI rfl rfl ?_;refine D79 ?_;refine D77 ?_;refine Z13 ?_;refine D87 ?_;refine Z5 ?_;rcases (by omega:wt=0∨(wt=1∧0<v)) with rfl|⟨rfl,hv0⟩
  ·refine Z2 ?_;refine D16 ?_;refine Z17 ?_;refine jcC (v:= .bool (decide ((v:Int)>0))) rfl zq zA (jlX rfl) ?_
   by_cases hv0:0<v
   ·rw [decide_eq_true (show (v:Int)>0 by omega)];refine Z3 ?_;refine D77 ?_;refine Z3 ?_;refine jcZ rfl jc5 ?_;refine D71 ?_
    exact hq
   ·rw [decide_eq_false (show¬(v:Int)>0 by omega)];refine Zs ?_;refine jpI rfl rfl ?_;refine jcC (v:= .bool true) rfl rfl zA (jho zA) ?_;refine Z4 ?_;refine jcZ rfl jc5 ?_;refine D71 ?_
    exact hq
  ·refine Z2 ?_;refine D97 ?_;refine Zs ?_;refine jpI rfl rfl ?_;refine D79 ?_;refine D77 ?_;refine Z13 ?_;refine D88 ?_;refine Z3 ?_;refine D77 ?_;refine Z3 ?_;refine jcZ rfl jc5 ?_;refine D71 ?_
   exact hq
 ·refine Z3 ?_;refine jc1 rfl Tryz.func199 (jbT rfl) ?_;refine jg8 rfl ?_;refine Z6 ?_;refine jcC (v:= .int .u64 0) rfl zq zA (jfE ((jc7 0 1 zO zO).flag)) ?_;refine D16 ?_;refine Z10 ?_;refine jg7 (v:= .int .u64 0) rfl zq (.inr rfl) (jn7 zA (jc7 0 1 zO zO).hi) ?_;refine je6 rfl zq zK (jc7 0 1 zO zO).hi32 ?_;refine Z5 ?_;refine jcC (v:= .int .u64 1) rfl zq zA (jfE ((jc7 0 1 zO zO).lo)) ?_;refine je6 rfl zq zK (jc7 0 1 zO zO).lo32 ?_;refine Z6 ?_;refine jpI rfl rfl ?_;refine D79 ?_;refine D77 ?_;refine Z13 ?_;refine jcC (v:= .bool false) rfl zq zA (jn8 zA) ?_;refine Z7 ?_;refine D97 ?_;refine Zs ?_;refine jpI rfl rfl ?_;refine D79 ?_;refine D77 ?_;refine Z13 ?_;refine jcC (v:= .bool false) rfl zq zA (jlX zA) ?_;refine Zs ?_;refine jpI rfl rfl ?_;refine jcC (v:= .bool false) rfl rfl zA (jho zA) ?_;refine Z10 ?_;refine D90 ?_;refine D85 ?_;refine Z9 ?_
  refine jlb zO hz jiW rfl zq (jec ?_)
  refine Z3 ?_;refine D96 ?_;refine jg8 rfl ?_;refine Zs ?_;refine D16 ?_;refine Z8 ?_;refine D90 ?_;refine je5 Tryz.func202 rfl rfl (l:=(.pointer (some ⟨C.wg,0,none⟩))::(.int .u64 0)::uu7) rfl ?_;refine Z5 ?_
  refine jke zO hz jpu rfl zq (jec ?_)
  refine Zs ?_;refine jpn rfl ?_;refine jc1 rfl Tryz.func202 (jcY rfl) ?_;refine jg8 rfl ?_;refine Z8 ?_;refine jkQ ?_;refine i_loop ?_;refine Z4 ?_;refine D97 ?_;refine Z4 ?_;refine jkQ ?_;refine Z4 ?_;refine jla extSemG rfl zq ?_
  show (Im.quit Tryz.prog 1).R _
  refine k_putQ ?_;refine Zs ?_;refine jmd ?_;refine Z2 ?_;refine jcC (v:= .int .u32 0) rfl zq zA (op_sub zA) ?_;refine Z2 ?_;refine joo ?_;refine Z4 ?_;refine D16 ?_;refine Z2 ?_;refine i_exit rfl ?_;refine jpn rfl ?_;refine jcZ rfl jc5 ?_;refine D71 ?_;exact hq
theorem jrO (hM:C.n≤4100) (hz:C.hit kn=true→z=true) {b:Frame} {todo:List Item} {fn:Func} {kf:Frame} (hk:b.kind= .deferred) (hf: Tryz.prog.funcs[b.fn]?=some fn) (hres:fn.results= #[]) (hkf:kf={(default:Frame) with fn:= Tryz.prog.funcs.size,defers:=[],mode:= .panicking [goexitEntry]}) (hcat:kf.catches Tryz.prog=false):
  ((SyC.kid Tryz.prog B C.pro i).im 0 (.w kn .on z) h).R (jff b l [dcall 155 [.pointer (some ⟨C.wg,0,none⟩)].toArray] todo [kf]):=by
 refine i_unwind Tryz.func155 zK rfl rfl (l1:=[.pointer (some ⟨C.wg,0,none⟩),undef,undef,undef]) rfl ?_;refine Z2 ?_;refine i_cal rfl zq zK (addW_c hM hz ?_);refine jg8 rfl ?_;refine Zs ?_;refine jpn rfl ?_;refine i_leaveD rfl Tryz.func155 rfl rfl ?_;exact jnZ hk hf hres hkf hcat
theorem addZ_c (h0:Y.i=0) (hM:C.n≤4100) {c:Frame} (hitc:(Y.im 0 (.m r .adds got false) h).R (G (c.finish (.tuple #[])) cs)):
  (Y.im 0 (.m r .idle got false) h).R (G (Frame.enter Tryz.prog 153 [.pointer (some ⟨C.wg,0,none⟩),.int .i64 1].toArray .normal) (c::cs)):=by
 refine je5 Tryz.func153 rfl rfl (l:=(.pointer (some ⟨C.wg,0,none⟩))::(.int .i64 1)::uu115) rfl ?_;refine Z6 ?_;refine jcC (v:= .bool false) rfl zq zA (jn8 zA) ?_;refine Z5 ?_;refine jh1 jhb rfl zq ?_;refine Z2 ?_;refine jnj (args:=[]) rfl zq rfl zA ?_;refine Z8 ?_;refine i_ext jmn rfl zq rfl ?_;refine Z9 ?_;refine je6 (n':=1) rfl zq zK zA ?_;refine jg7 (v:= .int .u64 4294967296) rfl zq (.inl rfl) (op_shl zA zA) ?_;refine D90 ?_;refine je5 Tryz.func199 rfl rfl (l:=(.pointer (some ⟨C.wg,0,none⟩))::(.int .u64 4294967296)::uu8) rfl ?_;refine Z10 ?_;refine y_wgAdd h0 hM jov rfl zq (fun v hv0 hv70=>jec ?_)
 refine Z3 ?_;refine jc1 rfl Tryz.func199 (jbT rfl) ?_;refine jg8 rfl ?_;refine Z6 ?_;refine jcC (v:= .int .u64 0) rfl zq zA (jfE ((jc7 v 0 hv70 zO).flag)) ?_;refine D16 ?_;refine Z10 ?_;refine D111 ?_;refine Z5 ?_;refine D114 ?_;refine Z6 ?_;refine jpI rfl rfl ?_;refine jcC (v:= .bool true) rfl rfl zA (jlX zA) ?_;refine D77 ?_;refine Zs ?_;refine jpI rfl rfl ?_;refine jpI rfl rfl ?_;refine je6 (n':=1) rfl rfl zK zA ?_;refine jcC (v:= .bool (decide ((v:Int)=1))) rfl rfl zA (jho rfl) ?_
 by_cases hv1:v=1
 ·rw [decide_eq_true (show (v:Int)=1 by omega)];refine D77 ?_;refine Z6 ?_;refine jpM rfl zq ⟨rfl,.inr rfl⟩ joK.1 joK.2.1 joK.2.2 ?_
  refine y_said (.inl rfl) h0 extRead rfl zq (jec ?_)
  refine Z5 ?_;refine D87 ?_;refine Z7 ?_;refine D16 ?_;refine Z17 ?_;refine D88 ?_;refine Z3 ?_;refine D77 ?_;refine Z3 ?_;refine jfB rfl jc5 ?_;refine D71 ?_
  exact hitc
 ·rw [decide_eq_false (show¬(v:Int)=1 by omega)];refine D77 ?_;refine Z7 ?_;refine D87 ?_;refine Z7 ?_;refine D16 ?_;refine Z17 ?_;refine D88 ?_;refine Z3 ?_;refine D77 ?_;refine Z3 ?_;refine jfB rfl jc5 ?_;refine D71 ?_
  exact hitc
theorem waitC_c (hM:C.n≤4100) {kk:Nat} {c:Frame} (hitc:(Y.im 0 (.c .done) h).R (G (c.finish (.tuple #[])) cs)):
  (Y.im 0 (.c (.look kk)) h).R (G (Frame.enter Tryz.prog 158 [.pointer (some ⟨C.wg,0,none⟩)].toArray .normal) (c::cs)):=by
 refine je5 Tryz.func158 rfl rfl (l:=(.pointer (some ⟨C.wg,0,none⟩))::uu83) rfl ?_;refine Z3 ?_;refine jh1 jhb rfl zq ?_;refine Zs ?_;refine jkQ ?_;refine jpN (fun nn D' s' h' l'=> ∃kk:Nat,D'=1∧s'= .c (.look kk)∧h=h'∧nn=kk*1∧ ∃U:Nat→Value,l'=((.pointer (some ⟨C.wg,0,none⟩))::vw83 U 1 [])) _ ⟨kk,rfl,rfl,rfl,rfl,exU rfl⟩ ?_;rintro nn _ _ _ _ ⟨kk,rfl,rfl,rfl,rfl,U,rfl⟩ hnext;refine jkQ ?_;refine Z5 ?_;refine D90 ?_;refine D85 ?_;refine Z9 ?_;refine y_wgLoad hM jiW rfl zq (jec ?_) (fun v hv0 hv70=>jec ?_)
 ·refine Z3 ?_;refine D96 ?_;refine jg8 rfl ?_;refine Z5 ?_;refine jg7 (v:= .int .u64 0) rfl zq (.inr rfl) (jn7 zA (jc7 0 0 zO zO).hi) ?_;refine je6 rfl zq zK (jc7 0 0 zO zO).hi32 ?_;refine Z5 ?_;refine jcC (v:= .int .u64 0) rfl zq zA (jfE ((jc7 0 0 zO zO).lo)) ?_;refine je6 rfl zq zK (jc7 0 0 zO zO).lo32 ?_;refine Z6 ?_;refine jcC (v:= .bool true) rfl zq zA (jho zA) ?_;refine Z6 ?_;refine jny jc5 rfl zq ?_;refine Z3 ?_;refine D98 ?_;refine y_join jj3 rfl zq ?_;refine Z5 ?_;refine jcC (v:= .bool true) rfl zq zA (jho zA) ?_;refine Zs ?_;refine jpI rfl rfl ?_;refine jcC (v:= .int .u64 0) rfl rfl zA (jfE ((jc7 0 0 zO zO).flag)) ?_;refine jcC (v:= .bool false) rfl rfl zA (jqN zA) ?_;refine D77 ?_;refine Z8 ?_;refine jc1 rfl Tryz.func158 (jcY rfl) ?_
  exact hitc
 ·refine Z3 ?_;refine D96 ?_;refine jg8 rfl ?_;refine Z5 ?_;refine D111 ?_;refine Z5 ?_;refine D114 ?_;refine Z6 ?_;refine jcC (v:= .bool false) rfl zq zA (jho (decide_eq_false zO)) ?_;refine Z10 ?_;refine jcC (v:= .int .u64 (wgN v 1)) rfl zq zA (op_add ((jc7 v 0 hv70 zO).wait)) ?_;refine D90 ?_;refine je5 Tryz.func207 rfl rfl (l:=(.pointer (some ⟨C.wg,0,none⟩))::(.int .u64 (wgN v 0))::(.int .u64 (wgN v 1))::uu10) rfl ?_;refine Z11 ?_
  refine y_wgCas extCas64 rfl zq (jec ?_) (fun hk=>jec ?_)
  ·refine Z3 ?_;refine jc1 rfl Tryz.func207 (jbT rfl) ?_;refine jg8 rfl ?_;refine Z6 ?_;refine jpI rfl rfl ?_;refine jcC (v:= .bool true) rfl rfl zA (jho zA) ?_;refine D77 ?_;refine Z6 ?_;refine jpM rfl zq ⟨rfl,.inr rfl⟩ joK.1 joK.2.1 joK.2.2 ?_
   refine y_saidC (.inr rfl) extWrite rfl zq (jec ?_)
   refine Z9 ?_;refine jcC (v:= .int .u64 0) rfl zq zA (jfE ((jc7 v 0 hv70 zO).flag)) ?_;refine D16 ?_;refine Z12 ?_
   refine y_wgPark extSemW rfl zq (jec ?_)
   refine Z6 ?_;refine D90 ?_;refine D85 ?_;refine Z9 ?_
   refine y_wgEnd jiW rfl zq (jec ?_)
   refine Z3 ?_;refine D96 ?_;refine jg8 rfl ?_;refine D16 ?_;refine Z6 ?_;refine jny jc5 rfl zq ?_;refine Z3 ?_;refine D98 ?_;refine y_join jj3 rfl zq ?_;refine Z9 ?_;refine jc1 rfl Tryz.func158 (jcY rfl) ?_
   exact hitc
  ·refine Z3 ?_;refine jc1 rfl Tryz.func207 (jbT rfl) ?_;refine jg8 rfl ?_;refine Z3 ?_;refine jmd ?_
   exact hnext _ _ _ _ _ zO ⟨kk-1,rfl,rfl,rfl,rfl,exU rfl⟩
end
end Go.Proofs
namespace Go.Proofs
open Go.Lo
open Go.Conc (G)
section
variable [LaidO B]
theorem jcs: ∀{xs ys:List Int},xs.length=ys.length→(jrW xs ys<0↔jbn xs ys=true)
 |[],[],_=>by simp [jrW,jbn]
 |[],_::_,h=>by simp at h
 |_::_,[],h=>by simp at h
 |a::r,c::s,h=>by
  have ih:=jcs (xs:=r) (ys:=s) (by simpa using h)
  unfold jrW jbn
  by_cases e:a=c
  ·subst e
   rw [if_neg zO,if_neg zO,if_pos rfl];exact ih
  ·rw [if_neg e,decide_eq_true_iff];by_cases e1:a<c
   ·rw [if_pos e1];exact ⟨fun _=>e1,fun _=>by decide⟩
   ·rw [if_neg e1,if_pos zO];exact ⟨fun h=>by omega,fun h=>absurd h e1⟩
def ltW (xs ys:List Int):Bool:=decide (xs.length<ys.length)||(decide (xs.length=ys.length)&&jbn xs ys)
theorem jiE {xs:List Int}:ltW xs ys=true↔jdh xs ys:=by simp [ltW,jdh]
def jhe (a:List Int) (ll:List (List Int)):List Int:=ll.foldl (fun o x=>if ltW x o then x else o) a
theorem jkb (a:List Int) (ll:List (List Int)) (k:Nat) (h:k<ll.length):jhe a (ll.take (k+1))=if ltW (ll.getD k []) (jhe a (ll.take k)) then ll.getD k [] else jhe a (ll.take k):=by
 rw [jhe,Gh,gD h,Gq,vJ,gC,gD h];rfl
theorem jjb: ∀(ll:List (List Int)) (a:List Int),jhe a ll∈a::ll∧ ∀x∈a::ll,¬jdh x (jhe a ll)
 |[],a=>⟨by simp [jhe],fun x hx=>by rw [gw.1 hx];exact jhz _⟩
 |y::r,a=>by
  have e:jhe a (y::r)=jhe (if ltW y a then y else a) r:=rfl
  obtain ⟨h1,h2⟩:=jjb r (if ltW y a then y else a)
  rw [e];by_cases hy:ltW y a=true
  ·rw [if_pos hy] at h1 h2⊢
   refine ⟨gO _ h1,fun x hx=>?_⟩
   rcases gU.1 hx with rfl|hx
   ·exact fun hf=>h2 y zS (jf1 (jiE.1 hy) hf)
   ·exact h2 x hx
  ·rw [if_neg hy] at h1 h2⊢
   refine ⟨?_,fun x hx=>?_⟩
   ·rcases gU.1 h1 with h1|h1
    ·rw [h1];simp
    ·simp [h1]
   ·rcases gU.1 hx with rfl|hx
    ·exact h2 _ zS
    ·rcases gU.1 hx with rfl|hx
     ·intro hf
      have e1: ¬jdh x a:=fun hh=>hy (jiE.2 hh)
      rcases jou x a with rfl|e2|e2
      ·exact h2 x zS hf
      ·exact e1 e2
      ·exact h2 a zS (jf1 e2 hf)
     ·exact h2 x (by simp [hx])
def jdU (p:List Int→Prop) (n:Nat) (g:List Int):Prop:=Asc g∧(∀x∈g,0≤x∧x<n)∧p g∧ ∀xs,Asc xs→(∀x∈xs,0≤x∧x<n)→p xs→ ¬jdh xs g
theorem jg2 {p:List Int→Prop} {g g2:List Int} (h:jdU p n g) (h2:jdU p n g2):g=g2:=by
 rcases jou g g2 with e|e|e
 ·exact e
 ·exact absurd e (h2.2.2.2 g h.1 h.2.1 h.2.2.1)
 ·exact absurd e (h.2.2.2 g2 h2.1 h2.2.1 h2.2.2.1)
theorem clr_all (hn:n≤12) (hs:s<2^n):bClr .u64 ((2^n-1:Nat):Int) (s:Int)=((2^n-1-s:Nat):Int):=by
 have h:((List.range 13).all fun n=>(List.range (2^n)).all fun s=>bClr .u64 ((2^n-1:Nat):Int) (s:Int)==((2^n-1-s:Nat):Int))=true:=by kernel_rfl
 have h1:=gZ.1 h n (gT.2 zO)
 simpa using gZ.1 h1 s (gT.2 hs)
theorem jn4 (hs:s<2^n):jdw (2^n-1-s) n=(jdw s n).map (!·):=by
 rw [jdw,jdw,vu];refine GP fun i hi=>?_
 rw [gT] at hi
 have:=Nat.testBit_two_pow_sub_succ hs i
 rw [show 2^n-(s+1)=2^n-1-s by omega] at this
 rw [this];simp [hi]
theorem jmw (hs:s<2^(jaa b).length):jfT (cdT b) (jdw (2^(jaa b).length-1-s) (jaa b).length)≠[]↔jbt (jbe (jdw s (jaa b).length) (cdT b))=true:=by
 rw [jn4 hs];exact jgW (by rw [jb3,jau])
theorem callB160:jcd Tryz.prog 160=true:=by kernel_rfl
section
variable {m:Md P B}
omit [LaidO B] in
theorem jri {x:Operand} {b:Int} {k:IntKind} (v:Int) (ho:ops[i]?=some ⟨d,.binOp .andNot t x y u,ty,pos,af,g⟩) (hw:Wt ops l g) [KHeap kd S h H] [ex:OpV l x (.int k a)] [ey:OpV l y (.int k b)] (hv:bClr k a b=v) [PutV l d (.int k v) l'] (n:RegK m S ops r l' h C):RegK m S ops ((i,kd)::r) l h C:=
 RegK.rd (v:= .int k v) ho hw (jbc ex.eq ey.eq zS (op_clr hv)) n
def RdK (B:Array Obj) (h:Hp) (w:Value) (xs:List Int):Prop:= ∃p c,w= .slice p xs.length c∧RdS B h 1 (.slice p xs.length c) xs.length (jav xs)∧xs.length≤c
theorem RdK.rdI {w:Value} {xs:List Int} (r:RdK B h w xs):RdI B h w xs:=by
 obtain ⟨p,c,e,r,_⟩:=r
 exact ⟨p,c,e,r⟩
theorem RdK.nil:RdK B h (.slice none 0 0) []:=⟨none,0,rfl,⟨none,0,rfl,rfl,.inl ⟨rfl,rfl⟩⟩,gM _⟩
end
theorem f160_c (m:Md Tryz.prog B) (h:Hp) {c:Nat} {xs:List Int} (rd:RdS B h 1 (.slice p n c) n (jav xs)) (hn:n≤1000000) {n2 c2:Nat} (rd2:RdS B h 1 (.slice p2 n2 c2) n2 (jav ys)) (hn2:n2≤1000000):FnC m 160 #[.slice p n c,.slice p2 n2 c2] h fun v h'=>h'=h∧IsB (jdh xs ys) v:=by
 have hl:=rd.ilen
 have hl2:=rd2.ilen
 refine jae Tryz.func160 rfl rfl (l:=(.slice p n c)::(.slice p2 n2 c2)::uu21) rfl ?_
 intro cf cs K hK
 refine Z5 ?_;refine jbm [Zf 0,Zf 1,Zf 2,Zf 3,Zf 4,Zf 5,Zf 6,Zf 7,Zf 8,Zf 9,Zf 10,Zf 11,Zf 12,Zf 13,Zf 14,Zf 15,Zf 16,Zf 17,Zf 18] zK zK ?_;refine Z4 ?_
 refine jam rfl zq (fun hc=>?_) (fun hc=>?_)
 ·refine Z16 ?_;refine jac (h) rfl Tryz.func160 rfl jab ?_;refine Zs ?_
  refine ⟨rfl,?_⟩
  unfold jdh
  first
   |exact IsB.yes (.inl zO)
   |exact E49
   |exact E50
   |exact E51
 ·refine Z2 ?_;refine jkO rfl rfl ?_;refine Zs ?_;refine jkO rfl rfl ?_
  refine jaE rfl rfl (fun hc=>?_) (fun hc=>?_)
  ·refine Z3 ?_;refine jaf (Post:=fun v=>v= .int .i64 (jrW xs ys)) rfl rfl zK (fun H' hH=>f210_c m H' (rd.keeps (sq hH)) hn (rd2.keeps (sq hH))) ?_
   rintro v rfl;refine Zs ?_
   refine jam rfl rfl (fun hc=>?_) (fun hc=>?_);all_goals
    refine Z5 ?_;refine jac (h) rfl Tryz.func160 rfl jab ?_;refine Zs ?_
    refine ⟨rfl,?_⟩
    unfold jdh
    first
     |exact IsB.yes (.inl zO)
     |exact E49
     |exact E50
     |exact E51
  ·refine Z10 ?_;refine jac (h) rfl Tryz.func160 rfl jab ?_;refine Zs ?_
   refine ⟨rfl,?_⟩
   unfold jdh
   first
    |exact IsB.yes (.inl zO)
    |exact E49
    |exact E50
    |exact E51
theorem f159_k (m:Md Tryz.prog B) (h:Hp) {c:Nat} {ll:List (List Int)} (rdv:RdS B h 1 (.slice p ll.length c) ll.length vs) (rde:RdE B h vs ll) (hn:ll.length≤10000) (hl: ∀l∈ll,l.length≤1000) {ac:Nat} {a:List Int} (ra:RdS B h 1 (.slice ap a.length ac) a.length (jav a)) (hal:a.length≤1000) (hac:a.length≤ac):
  FnC m 159 #[.func (.func 160) #[] #[],.slice ap a.length ac,.slice p ll.length c] h fun v h'=>h'=h∧RdK B h v (jhe a ll):=by
 refine jae Tryz.func159 rfl rfl (l:=(.func (.func 160) #[] #[])::(.slice ap a.length ac)::(.slice p ll.length c)::uu19) rfl ?_
 intro cf cs K hK
 refine Z12 ?_
 refine jag (fun nn l h'=> ∃(k:Nat) (gp:Option Addr) (gc:Nat) (w:List Int),nn=ll.length-k∧(k≤ll.length)∧(w=jhe a (ll.take k))∧(RdS B h 1 (.slice gp w.length gc) w.length (jav w))∧(w.length≤1000)∧(w.length≤gc)∧(∃U:Nat→Value,l=((.func (.func 160) #[] #[])::(.slice gp w.length gc)::(.slice p ll.length c)::vw6 U 3 ((.slice p ll.length c)::(.int .i64 (ll.length:Int))::(.int .i64 (k:Int))::vw10 U 12 [])))∧h=h') _ ⟨0,ap,ac,a,rfl,by omega,by rw [xg];rfl,ra,hal,hac,exU rfl,rfl⟩ ?_;rintro nn l h' ⟨k,gp,gc,w,rfl,hk,hw,hwr,hwl,hwc,⟨U,rfl⟩,rfl⟩ hnext;refine Z2 ?_
 refine jam rfl zq (fun hc=>?_) (fun hc=>?_)
 ·refine Z7 ?_
  obtain ⟨rb,ro,hrp⟩:=rdv.ptr zO
  have rdv':=rdv
  rw [hrp] at rdv'
  obtain ⟨ep,ec,ee,er⟩:=rde.2 k zO
  have hck:=rde.cap (i:=k) zO ee
  have hlk:(ll.getD k []).length≤1000:=hl _ (jqU.2 ⟨k,by omega,rfl⟩)
  refine Zs ?_;refine D57 ?_;refine jaN (v:= .slice ep (ll.getD k []).length ec) rfl zq (by rw [←ee];exact rdv'.vat k zO zO) ?_;refine Z7 ?_
  refine jfF (Post:=fun v=>IsB (jdh (ll.getD k []) w) v) rfl zq callB160 (fun H' hH=>by
   have h1:=f160_c m H' (er.keeps (sq hH)) zO (hwr.keeps (sq hH)) zO
   simpa using h1) ?_
  rintro v (⟨hc,rfl⟩|⟨hc,rfl⟩);refine Z7 ?_
  rotate_left
  refine Z4 ?_
  all_goals
   refine Z5 ?_
  ·exact m.weak jab (hnext _ _ _ zO ⟨k+1,gp,gc,w,rfl,by omega,by rw [jkb _ _ _ zO,←hw,if_neg (fun e=>hc (jiE.1 e))],hwr,hwl,hwc,exU rfl,rfl⟩)
  ·exact m.weak jab (hnext _ _ _ zO ⟨k+1,ep,ec,ll.getD k [],rfl,by omega,by rw [jkb _ _ _ zO,←hw,if_pos (jiE.2 hc)],er,hlk,hck,exU rfl,rfl⟩)
 ·refine Z10 ?_;refine jac (h) rfl Tryz.func159 rfl jab ?_;refine Zs ?_
  obtain rfl:k=ll.length:=by omega
  rw [gq zO] at hw
  rw [←hw];exact ⟨rfl,gp,gc,rfl,hwr,hwc⟩
theorem f105_c (m:Md Tryz.prog B) (h:Hp) (sh:Sheet B h b q tv) (rx:Rd B h ⟨qx,0,none⟩ (.pointer (some ⟨q,0,none⟩))) (hs:s<2^(jaa b).length):FnC m 105 #[.int .u64 (s:Int),.pointer (some ⟨qx,0,none⟩)] h fun v h'=>h'=h∧IsB (¬jbt (jbe (jdw s (jaa b).length) (cdT b))=true) v:=by
 have h12:=sh.twelve
 obtain ⟨pc,cc,hcv,hcc,hcr⟩:=sh.cells
 have hs2:2^(jaa b).length-1-s<4096:=by
  have:=GY (show 0<2 by omega) h12
  omega
 refine jae Tryz.func105 rfl rfl (l:=(.int .u64 (s:Int))::(.pointer (some ⟨qx,0,none⟩))::uu13) rfl ?_
 intro cf cs K hK
 refine Z5 ?_;refine jaq [Zp 7,Zr 0,Zr 1,Zp 2,Zp 3,Zr 4,Zp 5,Zk 6,Zp 8,Zk 9,Zp 10,Zp 11] zK zK (gE _) ?_;refine Zs ?_;refine D100 ?_;refine D100 ?_;refine Z2 ?_;refine D58 ?_;refine Zs ?_;refine jaf (Post:=fun v=>v= .int .u64 ((2^(jaa b).length-1:Nat):Int)) rfl zq zK (fun H' hH=>f106_c m H' _ h12) ?_
 rintro v rfl;refine Zs ?_;refine jri ((2^(jaa b).length-1-s:Nat):Int) rfl zq (clr_all h12 hs) ?_;refine jaf (Post:=fun v=>IsB _ v) rfl zq zK (fun H' hH=>f104_c m H' (sh.keeps (sq hH)) hs2) ?_
 rintro v (⟨hc,rfl⟩|⟨hc,rfl⟩);refine Z2 ?_
 rotate_left
 refine Z2 ?_
 all_goals
  refine Z3 ?_;refine jac (h) rfl Tryz.func105 rfl jab ?_;refine Zs ?_
  first|exact ⟨rfl,IsB.no fun e=>e ((jmw hs).1 hc)⟩|exact ⟨rfl,IsB.yes fun e=>hc ((jmw hs).2 e)⟩
end
section
variable [LaidO B]
def jk3 (N:Nat) (hit:Nat→Bool) (q6 ch:Nat):Crew:=⟨N,hit,fun k v hp=>OwnS 3 1 v (jbZ k 12).length (jav (jbZ k 12)) hp,q6,203,ch⟩
theorem callB154:jcd Tryz.prog 154=true:=by kernel_rfl
theorem callB157:jcd Tryz.prog 157=true:=by kernel_rfl
theorem je3:(kidF Tryz.prog).catches Tryz.prog=false:=by kernel_rfl
def Asks (B:Array Obj) (gv:Value) (hb:Hp) (N:Nat) (hit:Nat→Bool):Prop:= ∀(m:Md Tryz.prog B) (k:Nat) (H':Hp),k<N→hb.Sublist H'→CallV m gv [.int .u64 (k:Int)] H' fun v h'=>h'=H'∧IsB (hit k=true) v
theorem kid154 {q3 q7 kn:Nat} (hN:N≤4096) (hk:kn<N) (hg:Asks B gv hb N hit):
  ((SyC.kid Tryz.prog B (jk3 N hit q6 ch).pro i).im 0 (.w kn .on false) (hb++[⟨false,q3,.cells [gv].toArray 141 (0,0)⟩,⟨false,q5,.cells [.chan (some ch)].toArray 193 (0,0)⟩,⟨true,q7,.cells [.int .u64 (kn:Int)].toArray 134 (0,0)⟩])).R (kid0 Tryz.prog {target:= .fn (.func 154) [.pointer (some ⟨q6,0,none⟩),.pointer (some ⟨q3,0,none⟩),.pointer (some ⟨q7,0,none⟩),.pointer (some ⟨q5,0,none⟩)].toArray,args:= #[]++ #[]}):=by
 have hM:(jk3 N hit q6 ch).n≤4100:=show N≤4100 by omega
 refine jjW (hg:=fun e=>e) (al:=[.pointer (some ⟨q6,0,none⟩),.pointer (some ⟨q3,0,none⟩),.pointer (some ⟨q7,0,none⟩),.pointer (some ⟨q5,0,none⟩)]) (l:=(.pointer (some ⟨q6,0,none⟩))::(.pointer (some ⟨q3,0,none⟩))::(.pointer (some ⟨q7,0,none⟩))::(.pointer (some ⟨q5,0,none⟩))::uu6) callB154 Tryz.func154 rfl rfl rfl rfl ?_;refine Md.kidC.to (hg:=fun e=>e) ?_;refine Zs ?_;refine Md.kidC.of ?_;refine Zs ?_;refine jnj rfl zq rfl zA ?_;refine Zs ?_;refine Md.kidC.to (hg:=fun e=>e) ?_;refine Z4 ?_;refine jg5 rfl zq (hg _ kn _ hk SubH.sub) ?_
 rintro _ _ ⟨rfl,⟨hc,rfl⟩|⟨hc,rfl⟩⟩
 ·refine Z3 ?_;refine jqs 3 [Zr 0,Zr 1,Zc 2] [0,1,2,3] zK zK zK (gE _) ?_;refine Z2 ?_;refine jax rfl zq zK (fun H' hH=>f156_c _ H' kn zO) ?_
  rintro v new ov;refine Z2 ?_;refine Md.kidC.of ?_;refine SyC.weaken (h':=[]++new) (by rw [GJ];exact jab) ?_;refine y_send (hr:=[]) (hp:=new) rfl hc ov ?_;refine Zs ?_;refine jpn rfl ?_
  exact jrO hM (fun _=>rfl) rfl Tryz.func154 rfl rfl je3
 ·refine Z4 ?_;refine Md.kidC.of ?_;refine jpn rfl ?_
  exact jrO hM (fun e=>absurd e hc) rfl Tryz.func154 rfl rfl je3
theorem kid157 (hN:N≤4096):
  ((SyC.kid Tryz.prog B (jk3 N hit q6 ch).pro i).im 0 (.c (.look N)) (hb++[⟨false,q5,.cells [.chan (some ch)].toArray 193 (0,0)⟩])).R (kid0 Tryz.prog {target:= .fn (.func 157) [.pointer (some ⟨q6,0,none⟩),.pointer (some ⟨q5,0,none⟩)].toArray,args:= #[]++ #[]}):=by
 have hM:(jk3 N hit q6 ch).n≤4100:=show N≤4100 by omega
 refine jjW (hg:=fun e=>e) (al:=[.pointer (some ⟨q6,0,none⟩),.pointer (some ⟨q5,0,none⟩)]) (l:=[.pointer (some ⟨q6,0,none⟩),.pointer (some ⟨q5,0,none⟩),undef,undef]) callB157 Tryz.func157 rfl rfl rfl rfl ?_;refine Md.kidC.to (hg:=fun e=>e) ?_;refine Zs ?_;refine Md.kidC.of ?_;refine Zs ?_
 refine i_cal rfl zq zK (waitC_c hM ?_);refine jg8 rfl ?_;refine Zs ?_;refine Md.kidC.to (hg:=fun e=>e) ?_;refine D99 ?_;refine Z2 ?_;refine Md.kidC.of ?_;refine SyC.weaken (h':=[]) (Weak.sub (GN _)) ?_;refine y_close zA rfl ?_;show (Im.quit Tryz.prog 0).R _
 refine Zs ?_;refine jpn rfl ?_
 exact jnZ rfl Tryz.func157 rfl rfl je3
end
section
variable [LaidO B]
theorem jfN {mm:Nat} (h:mm<2^k):jbN (jbZ mm k)=mm:=by
 refine xR fun i=>?_
 rw [jbQ fun z hz=>by obtain ⟨j,_,rfl,_⟩:=jdG.1 hz;omega];by_cases hi:i<k
 ·by_cases hb:mm.testBit i=true
  ·rw [hb,decide_eq_true_iff];exact jdG.2 ⟨i,hi,rfl,(jc6 mm i).2 hb⟩
  ·rw [Bool.not_eq_true] at hb
   rw [hb,decide_eq_false_iff_not];intro hz
   obtain ⟨j,_,e,h2⟩:=jdG.1 hz
   obtain rfl:i=j:=by omega
   rw [(jc6 mm i).1 h2] at hb
   cases hb
 ·have h1:mm.testBit i=false:=VO (GZ h (GY zO zO))
  rw [h1,decide_eq_false_iff_not];intro hz
  obtain ⟨j,hj,e,_⟩:=jdG.1 hz
  omega
theorem keptI_in {mm:Nat} (h:mm<2^n): ∀x∈jbZ mm k,0≤x∧x<(n:Int):=fun x hx=>by
 obtain ⟨j,_,rfl,h2⟩:=jdG.1 hx
 refine ⟨by omega,?_⟩
 rcases vG j n with hj|hj
 ·omega
 ·have:=VO (GZ h (GY (show 0<2 by omega) hj))
  rw [(jc6 mm j).1 h2] at this
  cases this
def llW (got:List Nat):List (List Int):=got.map fun k=>jbZ k 12
theorem jod (got:List Nat) (k:Nat):llW (got++[k])=llW got++[jbZ k 12]:=by simp [llW]
theorem llW_len (got:List Nat):(llW got).length=got.length:=gN _
theorem got_le (h: ∀k∈got,k<n) (hd:got.Nodup):got.length≤n:=by
 have:=Gd (l₂:=List.range n) hd fun z hz=>gT.2 (h z hz)
 rwa [Vs] at this
theorem jpt (hn:n≤12) (hall: ∀k,k∈got↔k<2^n∧hit k=true) (h1:hit (2^n-1)=true):jdU (fun l=>hit (jbN l)=true) n (jhe (jbZ (2^n-1) 12) (llW got)):=by
 obtain ⟨hm,hb⟩:=jjb (llW got) (jbZ (2^n-1) 12)
 have hp:0<2^n:=Nat.two_pow_pos n
 have h12:2^n≤2^12:=GY zO hn
 obtain ⟨k,hk,hh,e⟩: ∃k,k<2^n∧hit k=true∧jhe (jbZ (2^n-1) 12) (llW got)=jbZ k 12:=by
  rcases gU.1 hm with hm|hm
  ·exact ⟨2^n-1,by omega,h1,hm⟩
  ·obtain ⟨k,hk,e⟩:=gR.1 hm
   obtain ⟨h2,h3⟩:=(hall k).1 hk
   exact ⟨k,h2,h3,e.symm⟩
 rw [e] at hb⊢
 refine ⟨jmD _ _,keptI_in hk,by show hit (jbN _)=true;rw [jfN zO];exact hh,fun xs ha hx hxs=>?_⟩
 obtain ⟨mm,hmm,rfl⟩:=jq4 ha (n:=12) fun x hx'=>by have:=hx x hx';omega
 have hlt:mm<2^n:=by
  refine gt fun hge=>?_
  obtain ⟨i,hi,hbit⟩:=Nat.exists_ge_and_testBit_of_ge_two_pow (show 2^n≤mm by omega)
  have hi12:i<12:=by
   refine gt fun h=>?_
   have:=VO (GZ hmm (GY (show 0<2 by omega) (show 12≤i by omega)))
   rw [hbit] at this
   cases this
  have:=hx _ (jdG.2 ⟨i,hi12,rfl,(jc6 mm i).2 hbit⟩)
  omega
 have hxs':hit (jbN (jbZ mm 12))=true:=hxs
 rw [jfN hmm] at hxs'
 exact hb _ (gO _ (gR.2 ⟨mm,(hall mm).2 ⟨hlt,hxs'⟩,rfl⟩))
theorem run_midC {C:Crew} {g:Goroutine} (n:((SyC.zero P B C.pro K).im 0 (.m C.n .idle [] false) h').R g):(Md.starC P B).R K g (h'++[C.wgC 0 0 0]++[⟨true,C.ch,.chan 0 #[] false 0 0 false⟩]):=joH n
theorem run_putm {m:Md P B} {b:Frame} {k:List Item} [p:PutV l d v l'] (n:m.R K (Gr b l' ds k cs) h):m.R K (Gr b (put l d v) ds k cs) h:=by rw [p.eq];exact n
theorem jkh {F1 F2 F3 X Y Z:Hp} [a:Off h' Z F1] [b:Off F1 Y F2] [c:Off F2 X F3] [s:SubH H F3]:Weak B h' (H++X++Y++Z):=
 Weak.trans (Weak.perm a.perm) (Weak.apps (Weak.trans (Weak.perm b.perm) (Weak.apps (Weak.trans (Weak.perm c.perm) (Weak.apps (Weak.sub s.sub) X)) Y)) Z)
theorem apAll {F:Hp} (hF: ∀c∈F,c.rw=false) (hH: ∀c∈H,c.rw=false):ApH F H:=fun c hc d hd hr=>by rw [hF c hc,hH d hd] at hr;simp at hr
section
variable {m:Md P B}
omit [LaidO B] in
theorem k_addW {k:IntKind} {x:Operand} {b:Int} (z:Int) (ho:ops[i]?=some ⟨d,.binOp .add t x y u,ty,pos,af,g⟩) (hw:Wt ops l g) [KHeap kd S h H] [ex:OpV l x (.int k a)] [ey:OpV l y (.int k b)] (hr:k.wrap (a+b)=z) [PutV l d (.int k z) l']
  (n:RegK m S ops r l' h C):RegK m S ops ((i,kd)::r) l h C:=
 RegK.rd (v:= .int k z) ho hw (jbc ex.eq ey.eq zS (by simp [binOp,Op.intArith,hr];rfl)) n
end
theorem jnA (h:n<5000):IntKind.wrap .u64 ((n:Nat):Int)=(n:Int):=by
 simp [IntKind.wrap,IntKind.bits,IntKind.signed]
 omega
theorem jnm {q3:Nat} {c3 c5:Array Value}:Weak B (h++[⟨true,q3,.cells c3 141 (0,0)⟩]++[⟨true,ch,.chan 0 #[] false 0 0 false⟩,⟨true,q5,.cells c5 193 (0,0)⟩,⟨true,q6,.cells ([.int .u64 0,.int .u32 0]:List Value).toArray 203 (0,0)⟩]) ((ro h++[⟨false,q3,.cells c3 141 (0,0)⟩,⟨false,q5,.cells c5 193 (0,0)⟩])++[(jk3 N hit q6 ch).wgC 0 0 0]++[⟨true,ch,.chan 0 #[] false 0 0 false⟩]):=by
 have h0:Weak B (h++[⟨true,q3,.cells c3 141 (0,0)⟩]++[⟨true,ch,.chan 0 #[] false 0 0 false⟩,⟨true,q5,.cells c5 193 (0,0)⟩,⟨true,q6,.cells ([.int .u64 0,.int .u32 0]:List Value).toArray 203 (0,0)⟩]) ((h++[⟨true,q3,.cells c3 141 (0,0)⟩,⟨true,q5,.cells c5 193 (0,0)⟩])++[⟨true,q6,.cells ([.int .u64 0,.int .u32 0]:List Value).toArray 203 (0,0)⟩,⟨true,ch,.chan 0 #[] false 0 0 false⟩]):=by
  refine Weak.perm ?_
  simp only [gI,gr,GJ]
  refine Gz _ (.cons _ ?_)
  exact vO (l₁:=[_]) (l₂:=[_,_])
 refine h0.trans ?_
 have h1:=jpQ (B:=B) (h++[⟨true,q3,.cells c3 141 (0,0)⟩,⟨true,q5,.cells c5 193 (0,0)⟩]) [⟨true,q6,.cells ([.int .u64 0,.int .u32 0]:List Value).toArray 203 (0,0)⟩,⟨true,ch,.chan 0 #[] false 0 0 false⟩]
 refine Weak.trans h1 ?_;refine Weak.perm ?_
 simp only [ro,GC,gx,vw,gI,gr,GJ]
 exact .refl _
theorem f103_k (h:Hp) (sh:Sheet B h b q tv) [cgv:CellsV gv [gv]] (hg:Asks B gv (ro h) (2^(jaa b).length) hit) (hh1:hit (2^(jaa b).length-1)=true):FnC (Md.starC Tryz.prog B) 103 #[.pointer (some ⟨q,0,none⟩),gv] h fun v h'=> ∃nw,h'=ro h++nw∧ ∃g,RdK B h' v g∧jdU (fun l=>hit (jbN l)=true) (jaa b).length g:=by
 have h12:=sh.twelve
 obtain ⟨pc,cc,hcv,hcc,hcr⟩:=sh.cells
 have hp0:0<2^(jaa b).length:=Nat.two_pow_pos _
 have hp12:2^(jaa b).length≤2^12:=GY zO h12
 obtain ⟨N,hN⟩: ∃N:Nat,N=2^(jaa b).length:=⟨_,rfl⟩
 rw [←hN] at hg
 have hM: ∀q6 ch,(jk3 N hit q6 ch).n≤4100:=fun _ _=>show N≤4100 by omega
 refine jae Tryz.func103 rfl rfl (l:=(.pointer (some ⟨q,0,none⟩))::gv::uu40) rfl ?_
 intro cf cs K hK
 refine Z2 ?_
 refine jaA rfl zq (fun q3=>jao (jad ?_));refine Z4 ?_
 refine k_mkchan (.inl rfl) rfl zq zK (fun ch=>jad ?_);refine jay rfl zq (fun q5=>jao (jad ?_));refine D19 ?_;refine Z3 ?_
 refine jay rfl zq (fun q6=>jao (jad ?_));refine Z7 ?_;refine D58 ?_;refine Zs ?_;refine D81 ?_
 rintro v rfl;refine Zs ?_;refine k_addW (N:Int) rfl zq (by rw [show ((2^(jaa b).length-1:Nat):Int)+1=((N:Nat):Int) by omega];exact jnA zO) ?_;refine Z3 ?_;refine (Md.starC Tryz.prog B).weak (h':=(ro h++[⟨false,q3,.cells [gv].toArray 141 (0,0)⟩,⟨false,q5,.cells [.chan (some ch)].toArray 193 (0,0)⟩])++[(jk3 N hit q6 ch).wgC 0 0 0]++[⟨true,ch,.chan 0 #[] false 0 0 false⟩]) jnm ?_;refine run_midC (C:=(jk3 N hit q6 ch)) ?_;refine jpN (fun nn D' s' h' l'=> ∃(t:Nat),D'=0∧s'= .m (N-t) .idle [] false∧ro h++[⟨false,q3,.cells [gv].toArray 141 (0,0)⟩,⟨false,q5,.cells [.chan (some ch)].toArray 193 (0,0)⟩]=h'∧nn=N-t∧t≤N∧ ∃U:Nat→Value,l'=((.pointer (some ⟨q,0,none⟩))::gv::(U 2)::(.pointer (some ⟨q3,0,none⟩))::(.slice none 0 0)::(.pointer (some ⟨q5,0,none⟩))::(.pointer (some ⟨q6,0,none⟩))::vw10 U 7 ((.int .u64 (N:Int))::(.int .u64 (t:Int))::vw23 U 19 []))) _ ⟨0,rfl,rfl,rfl,rfl,by omega,exU rfl⟩ ?_
 rintro nn _ _ _ _ ⟨t,rfl,rfl,rfl,rfl,ht,U,rfl⟩ hnext1;refine Md.midC.to ?_
 try dsimp only
 refine Z2 ?_
 refine jam rfl zq (fun hc=>?_) (fun hc=>?_)
 ·refine Z9 ?_
  refine jay rfl zq (fun q7=>jao (jad ?_));refine D19 ?_;refine Z2 ?_
  obtain ⟨r,hr⟩: ∃r,N-t=r+1:=⟨N-t-1,by omega⟩
  rw [hr];refine Md.midC.of ?_;refine Zs ?_
  refine i_cal rfl zq zK (addZ_c rfl (hM q6 ch) ?_);refine jg8 rfl ?_;refine Zs ?_;refine Md.midC.to ?_;refine D99 ?_;refine jhJ rfl zq ?_;refine Zs ?_;refine Md.midC.of ?_;refine joG (h':=ro h++[⟨false,q3,.cells [gv].toArray 141 (0,0)⟩,⟨false,q5,.cells [.chan (some ch)].toArray 193 (0,0)⟩]) (hc:=ro h++[⟨false,q3,.cells [gv].toArray 141 (0,0)⟩,⟨false,q5,.cells [.chan (some ch)].toArray 193 (0,0)⟩,⟨true,q7,.cells [.int .u64 (t:Int)].toArray 134 (0,0)⟩]) rfl (show r+1≤N by omega) jab jab (fun w sw=>?_) (fun j hj=>by
   rw [show (jk3 N hit q6 ch).n-(r+1)=t from (by omega:N-(r+1)=t)];exact kid154 zO zO hg) ?_
  ·refine ap_last (F:=ro h++[⟨false,q3,.cells [gv].toArray 141 (0,0)⟩,⟨false,q5,.cells [.chan (some ch)].toArray 193 (0,0)⟩]) (q:=q7) (o:= .cells [.int .u64 (t:Int)].toArray 134 (0,0)) (by simpa using sw) (fun c hc=>?_) (fun d hd hr=>?_)
   ·rcases gQ.1 hc with hc|hc
    ·exact (jiq hc).1
    ·simp only [gU,vW,or_false] at hc
     rcases hc with rfl|rfl<;>rfl
   ·rcases gQ.1 hd with hd|hd
    ·rw [(jiq hd).1] at hr
     cases hr
    ·simp only [gU,vW,or_false] at hd
     rcases hd with rfl|rfl|rfl
     ·cases hr
     ·cases hr
     ·rfl
  refine Md.midC.to ?_;refine jbB ?_;refine Z2 ?_;refine k_addW ((t+1:Nat):Int) rfl zq (by rw [show (t:Int)+1=((t+1:Nat):Int) by omega];exact jnA zO) ?_;refine Z2 ?_;refine Md.midC.of ?_;refine SyC.weaken (h':=ro h++[⟨false,q3,.cells [gv].toArray 141 (0,0)⟩,⟨false,q5,.cells [.chan (some ch)].toArray 193 (0,0)⟩]) jab ?_
  exact hnext1 _ _ _ _ _ zO ⟨t+1,rfl,by rw [show r=N-(t+1) by omega],rfl,rfl,by omega,exU rfl⟩
 ·refine Z5 ?_
  obtain rfl:N=t:=by omega
  rw [VT];refine D99 ?_;refine jhJ rfl zq ?_;refine Zs ?_;refine Md.midC.of ?_
  refine jmL (h':=ro h++[⟨false,q3,.cells [gv].toArray 141 (0,0)⟩,⟨false,q5,.cells [.chan (some ch)].toArray 193 (0,0)⟩]) (hc:=ro h++[⟨false,q5,.cells [.chan (some ch)].toArray 193 (0,0)⟩]) rfl jab jab (fun w sw=>?_) (fun j hj=>kid157 zO) ?_
  ·refine apAll (fun c hc=>?_) (fun c hc=>?_)
   ·rcases gQ.1 hc with hc|hc
    ·exact (jiq hc).1
    ·simp only [gU,vW,or_false] at hc
     rcases hc with rfl|rfl<;>rfl
   ·rcases gQ.1 hc with hc|hc
    ·exact (jiq hc).1
    ·simp only [gU,vW,or_false] at hc
     rcases hc with rfl
     rfl
  refine Md.midC.to ?_;refine jbB ?_;refine Z10 ?_;refine Md.midC.of ?_;refine jpN (fun nn D' s' h' l'=> ∃(got:List Nat) (sp:Option Addr) (sc:Nat) (ws:List Value) (X W:Hp),D'=0∧s'= .m 0 .idle got true∧ro h++[⟨false,q3,.cells [gv].toArray 141 (0,0)⟩,⟨false,q5,.cells [.chan (some ch)].toArray 193 (0,0)⟩]++X++W=h'∧nn=N-got.length∧(got.Nodup∧ ∀k∈got,k<N)∧OwnS 42 1 (.slice sp (llW got).length sc) (llW got).length ws W∧RdE B X ws (llW got)∧ ∃U:Nat→Value,l'=((.pointer (some ⟨q,0,none⟩))::gv::(U 2)::(.pointer (some ⟨q3,0,none⟩))::(.slice none 0 0)::(.pointer (some ⟨q5,0,none⟩))::(.pointer (some ⟨q6,0,none⟩))::(U 7)::(.slice sp (llW got).length sc)::vw8 U 9 ((.int .u64 (N:Int))::vw7 U 18 ((.chan (some ch))::vw16 U 26 [])))) _ ⟨[],none,0,[],[],[],rfl,rfl,by simp,rfl,⟨List.nodup_nil,fun k hk=>by cases hk⟩,OwnS.nil,RdE.nil,exU rfl⟩ ?_
  rintro nn _ _ _ _ ⟨got,sp,sc,ws,X,W,rfl,rfl,rfl,rfl,⟨hnd,hlt⟩,oW,eX,U,rfl⟩ hnext2;refine Md.midC.to ?_
  try dsimp only
  have hgl:=got_le hlt hnd
  have hll:(llW got).length=got.length:=llW_len got
  refine Zs ?_;refine jio [] [0,1] zK zK ?_;refine Zs ?_;refine Md.midC.of ?_
  refine jpL (dir:=0) (z:= .slice none 0 0) rfl rfl Mute.zero (fun kn v hp hh hkn hnin hP=>?_) (fun hnd2 hall=>?_)
  ·have hnd2:(got++[kn]).Nodup:=by
    rw [VB];exact ⟨hnd,by simp,fun a ha c hc=>by rw [gw] at hc;subst hc;exact fun e=>hnin (e▸ha)⟩
   have hlt2: ∀k∈got++[kn],k<N:=fun k hk=>by
    rcases gQ.1 hk with hk|hk
    ·exact hlt k hk
    ·rw [gw] at hk
     subst hk
     exact hkn
   have hgl2:=got_le hlt2 hnd2
   rw [gH,GU] at hgl2
   have hP':OwnS 3 1 v (jbZ kn 12).length (jav (jbZ kn 12)) hp:=hP
   obtain ⟨vp,vc,rfl,hvc,rV⟩:=jas (B:=B) hP'
   refine jec ?_;refine Md.midC.to ?_;refine jlI [Zf 1] zK rfl ?_;refine Z2 ?_;skip
   refine Z12 ?_
   refine jb7 kdq rfl zq zA zA rfl (fun q31=>jao (jad ?_));refine ja6 rfl zq rfl oW kdq zO zO (fun w32 n32 o32=>jad ?_);have e1:(llW (got++[kn])).length=(llW got).length+1:=by rw [jod,gH];rfl
   obtain ⟨p32,c32,rfl,_⟩:=o32.len
   refine Z3 ?_;refine Md.midC.of ?_;refine SyC.weaken (h':=ro h++[⟨false,q3,.cells [gv].toArray 141 (0,0)⟩,⟨false,q5,.cells [.chan (some ch)].toArray 193 (0,0)⟩]++X++hp++n32) jkh ?_
   exact hnext2 _ _ _ _ _ (by rw [gH];show N-(got.length+1)<_;omega) ⟨got++[kn],p32,c32,_,X++hp,n32,rfl,rfl,by simp only [gI],rfl,⟨hnd2,hlt2⟩,by rw [e1];exact o32,by rw [jod];exact (eX.keeps (gG _ _)).snoc rfl (rV.keeps (gK _ _)) hvc,by rw [e1];exact exU rfl⟩
  ·show (Md.starC Tryz.prog B).R K _ _
   refine run_putm ?_;refine jlI [Zf 1] zK rfl ?_;refine Z2 ?_;skip
   refine Z8 ?_;refine jaN rfl zq (hcv.ro.keeps SubH.sub) ?_;refine Zs ?_;refine D81 ?_
   rintro v rfl;refine Zs ?_;refine jax rfl zq zK (fun H' hH=>f156_c _ H' (2^(jaa b).length-1) zO) ?_
   rintro v nA oA;refine Zs ?_
   obtain ⟨ap,ac,rfl,hac,rA⟩:=jas (B:=B) oA
   refine Zs ?_;refine jdp rfl zq zK (f159_k _ _ ((oW.rd (gE _)).keeps SubH.sub) (eX.keeps SubH.sub) zO (fun l hl=>by obtain ⟨k,_,rfl⟩:=gR.1 hl;have:=jkN k 12;omega) (rA.keeps SubH.sub) (by have:=jkN (2^(jaa b).length-1) 12;omega) hac) ?_
   rintro v h' ⟨rfl,rv⟩;refine Z4 ?_;refine jac (ro h++[⟨false,q3,.cells [gv].toArray 141 (0,0)⟩,⟨false,q5,.cells [.chan (some ch)].toArray 193 (0,0)⟩]++X++W++nA) rfl Tryz.func103 rfl jab ?_;refine Zs ?_
   refine ⟨[⟨false,q3,.cells [gv].toArray 141 (0,0)⟩,⟨false,q5,.cells [.chan (some ch)].toArray 193 (0,0)⟩]++X++W++nA,by simp only [gI],_,rv,jpt h12 (fun k=>?_) hh1⟩
   rw [←hN];exact hall k
end
section
variable [LaidO B]
theorem callB104:jcd Tryz.prog 104=true:=by kernel_rfl
theorem callB105:jcd Tryz.prog 105=true:=by kernel_rfl
def fewB (b:Tb) (k:Nat):Bool:=!(jfT (cdT b) (jdw k (jaa b).length)).isEmpty
def jcK (b:Tb) (k:Nat):Bool:=!jbt (jbe (jdw k (jaa b).length) (cdT b))
theorem jkY:fewB b k=true↔jfT (cdT b) (jdw k (jaa b).length)≠[]:=by
 unfold fewB
 cases jfT (cdT b) (jdw k (jaa b).length)<;>simp
theorem jfv:jcK b k=true↔ ¬jbt (jbe (jdw k (jaa b).length) (cdT b))=true:=by simp [jcK]
theorem jgk {α:Type}: ∀(D:List α) (p:List Bool),(∀x∈p,x=true)→p.length=D.length→jbe p D=D
 |[],[],_,_=>rfl
 |[],_::_,_,h=>by simp at h
 |_::_,[],_,h=>by simp at h
 |d::D,x::p,h,hl=>by
  obtain rfl:=h x zS
  show d::jbe p D=d::D
  rw [jgk D p (fun y hy=>h y (by simp [hy])) (by simpa using hl)]
theorem jix (n:Nat): ∀x∈jdw (2^n-1) n,x=true:=fun x hx=>by
 rw [jdw,gR] at hx
 obtain ⟨i,hi,rfl⟩:=hx
 rw [gT] at hi
 rw [Nat.testBit_two_pow_sub_one];simpa using hi
theorem jqF (n:Nat):jdw 0 n=(jdw (2^n-1) n).map (!·):=by
 rw [←jn4 (by have:=Nat.two_pow_pos n;omega),VT]
theorem jn5: ∀(D:List Cd) (p:List Bool),(∀x∈p,x=true)→p.length=D.length→jfT D p≠[]
 |[],_,_,_=>by simp [jfT]
 |_::_,[],_,h=>by simp at h
 |d::D,x::p,h,hl=>by
  obtain rfl:=h x zS
  show (jfT D p).map _≠[]
  have:=jn5 D p (fun y hy=>h y (by simp [hy])) (by simpa using hl)
  simpa using this
theorem jrE (b:Tb):fewB b (2^(jaa b).length-1)=true:=jkY.2 (jn5 _ _ (jix _) (by rw [jb3,jau]))
theorem jif (b:Tb):jfT (cdT b) (jdw 0 (jaa b).length)≠[]↔jbt (cdT b)=true:=by
 rw [jqF,jgW (by rw [jb3,jau]),jgk _ _ (jix _) (by rw [jb3,jau])]
theorem jnt (h: ¬jbt (cdT b)=true):jcK b (2^(jaa b).length-1)=true:=jfv.2 (by rw [jgk _ _ (jix _) (by rw [jb3,jau])];exact h)
theorem Sheet.ro (s:Sheet B H b q tv):Sheet B (Lo.ro H) b q tv:=by
 obtain ⟨h0,h1,⟨p,c,h2,h3,h4⟩,⟨rw,qm,h5,h6⟩,h7,h8⟩:=s
 refine ⟨h0,fun j hj=>(h1 j hj).ro,⟨p,c,h2.ro,h3,h4.ro⟩,⟨false,qm,h5.ro,gR.2 ⟨_,h6,rfl⟩⟩,fun i hi=>(h7 i hi).ro,fun i hi=>?_⟩
 obtain ⟨p,c,a1,a2,a3⟩:=h8 i hi
 exact ⟨p,c,a1.ro,a2,a3.ro⟩
theorem asks104 (sh:Sheet B hb b q tv):Asks B (.func (.func 104) #[.pointer (some ⟨q,0,none⟩)] #[]) hb (2^(jaa b).length) (fewB b):=fun m k H' hk hs=>by
 have h12:2^(jaa b).length≤2^12:=GY zO sh.twelve
 refine CallV.mono (CallV.fn' (vs:= #[.pointer (some ⟨q,0,none⟩),.int .u64 (k:Int)]) callB104 zS (f104_c m H' (sh.keeps hs) zO)) fun v h' ⟨e,p⟩=>⟨e,?_⟩
 rcases p with ⟨c,e⟩|⟨c,e⟩
 ·exact .inl ⟨jkY.2 c,e⟩
 ·exact .inr ⟨fun x=>c (jkY.1 x),e⟩
theorem asks105 (sh:Sheet B hb b q tv) (rx:Rd B hb ⟨qx,0,none⟩ (.pointer (some ⟨q,0,none⟩))):Asks B (.func (.func 105) #[] #[.pointer (some ⟨qx,0,none⟩)]) hb (2^(jaa b).length) (jcK b):=fun m k H' hk hs=>by
 refine CallV.mono (CallV.fn' (vs:= #[.int .u64 (k:Int),.pointer (some ⟨qx,0,none⟩)]) callB105 zS (f105_c m H' (sh.keeps hs) (rx.keeps hs) hk)) fun v h' ⟨e,p⟩=>⟨e,?_⟩
 rcases p with ⟨c,e⟩|⟨c,e⟩
 ·exact .inl ⟨jfv.2 c,e⟩
 ·exact .inr ⟨fun x=>c (jfv.1 x),e⟩
theorem jhk (a c:Hp):ro (a++c)=ro a++ro c:=GC
theorem f40_c (h:Hp) (ra:RawTb B h b ps ns ks pw nw cw pb nb cb):FnC (Md.starC Tryz.prog B) 40 #[tbV b ps ns ks pw nw cw pb nb cb] h fun v h'=> ∃nw w g,h'=ro h++nw∧v= .tuple [w,.int .i64 (tbS b)].toArray∧RdI B h' w g∧(tbS b≠0→g=[])∧(tbS b=0→jdU (fun l=>fewB b (jbN l)=true) (jaa b).length g):=by
 refine jae Tryz.func40 rfl rfl (l:=(tbV b ps ns ks pw nw cw pb nb cb)::uu16) rfl ?_
 intro cf cs K hK
 refine Z2 ?_
 refine jaA rfl zq (fun q1=>jao (jad ?_));refine Z7 ?_;refine jaf (Post:=fun v=>v=_) rfl zq zK (fun H' hH=>f65_r _ H' (ra.keeps (sq hH))) ?_
 rintro v rfl;refine Z6 ?_
 refine jaI rfl zq (fun hc=>?_) (fun hc=>?_)
 ·refine Z9 ?_;refine jac (h) rfl Tryz.func40 rfl jab ?_;refine D91 ?_;refine Zs ?_
  have hne:tbS b≠0:=by omega
  exact ⟨[],_,[],by simp,rfl,RdI.nil,fun _=>rfl,fun e=>absurd e hne⟩
 ·refine Z4 ?_
  have hz0:tbS b=0:=by omega
  have hk:=jbf.1 hz0
  have h12:=ja3 hk
  refine Z2 ?_;refine D47 ?_
  rintro v n12 ⟨q,rfl,sh⟩;refine Z7 ?_;refine jhJ rfl zq ?_;refine jdp rfl zq zK (f103_k _ (sh.keeps SubH.sub) (asks104 (sh.keeps SubH.sub).ro) (jrE b)) ?_
  rintro v h' ⟨nz,rfl,g,rg,hl⟩;obtain ⟨gp,gc,rfl,rg,hgc⟩:=rg
  refine Z5 ?_;refine jac (ro (h++[⟨true,q1,.cells (tbL b ps ns ks pw nw cw pb nb cb).toArray 25 (0,0)⟩]++n12)++nz) rfl Tryz.func40 rfl jab ?_;refine Zs ?_
  exact ⟨ro [⟨true,q1,.cells (tbL b ps ns ks pw nw cw pb nb cb).toArray 25 (0,0)⟩]++ro n12++nz,_,g,by simp only [jhk,gI],by rw [hz0],⟨gp,gc,rfl,rg⟩,fun e=>absurd hz0 e,fun _=>hl⟩
theorem f41_k (h:Hp) (ra:RawTb B h b ps ns ks pw nw cw pb nb cb):FnC (Md.starC Tryz.prog B) 41 #[tbV b ps ns ks pw nw cw pb nb cb] h fun v h'=> ∃nw w g,h'=ro h++nw∧v= .tuple [w,.int .i64 (tbS b)].toArray∧RdK B h' w g∧(tbS b≠0→g=[])∧(tbS b=0→jbt (cdT b)=true→g=[])∧(tbS b=0→ ¬jbt (cdT b)=true→jdU (fun l=>jcK b (jbN l)=true) (jaa b).length g):=by
 refine jae Tryz.func41 rfl rfl (l:=(tbV b ps ns ks pw nw cw pb nb cb)::uu17) rfl ?_
 intro cf cs K hK
 refine Z2 ?_
 refine jaA rfl zq (fun q1=>jao (jad ?_));refine Z7 ?_;refine jaf (Post:=fun v=>v=_) rfl zq zK (fun H' hH=>f65_r _ H' (ra.keeps (sq hH))) ?_
 rintro v rfl;refine Z6 ?_
 refine jaI rfl zq (fun hc=>?_) (fun hc=>?_)
 ·refine Z9 ?_;refine jac (h) rfl Tryz.func41 rfl jab ?_;refine D91 ?_;refine Zs ?_
  have hne:tbS b≠0:=by omega
  exact ⟨[],_,[],by simp,rfl,RdK.nil,fun _=>rfl,fun _ _=>rfl,fun e=>absurd e hne⟩
 ·refine Z4 ?_
  have hz0:tbS b=0:=by omega
  have hk:=jbf.1 hz0
  have h12:=ja3 hk
  refine Z2 ?_;refine D47 ?_
  rintro v n12 ⟨q,rfl,sh⟩;refine Zs ?_
  refine jay rfl zq (fun q5=>jao (jad ?_));refine D19 ?_;refine Z5 ?_;refine jaf (Post:=fun v=>IsB _ v) rfl zq zK (fun H' hH=>f104_c _ H' (sh.keeps (sq hH)) (s:=0) zO) ?_
  rintro v (⟨hc,rfl⟩|⟨hc,rfl⟩)
  ·refine Zs ?_
   have hsd:=(jif b).1 hc
   refine Z8 ?_;refine jac (h) rfl Tryz.func41 rfl jab ?_;refine D91 ?_;refine Zs ?_
   exact ⟨[],_,[],by simp,by rw [hz0],RdK.nil,fun _=>rfl,fun _ _=>rfl,fun _ e=>absurd hsd e⟩
  ·refine Zs ?_
   have hcl:=fun e=>hc ((jif b).2 e)
   refine Z6 ?_;refine jhJ rfl zq ?_;refine jdp rfl zq zK (f103_k _ (sh.keeps SubH.sub) (asks105 (sh.keeps SubH.sub).ro (qx:=q5) (Rd.ro (Rd.held (show (⟨true,q5,.cells [.pointer (some ⟨q,0,none⟩)].toArray 109 (0,0)⟩:Chunk)∈_ by simp) rfl))) (jnt hcl)) ?_
   rintro v h' ⟨nz,rfl,g,rg,hl⟩;obtain ⟨gp,gc,rfl,rg,hgc⟩:=rg
   refine Z5 ?_;refine jac (ro (h++[⟨true,q1,.cells (tbL b ps ns ks pw nw cw pb nb cb).toArray 25 (0,0)⟩]++n12++[⟨true,q5,.cells [.pointer (some ⟨q,0,none⟩)].toArray 109 (0,0)⟩])++nz) rfl Tryz.func41 rfl jab ?_;refine Zs ?_
   exact ⟨ro [⟨true,q1,.cells (tbL b ps ns ks pw nw cw pb nb cb).toArray 25 (0,0)⟩]++ro n12++ro [⟨true,q5,.cells [.pointer (some ⟨q,0,none⟩)].toArray 109 (0,0)⟩]++nz,_,g,by simp only [jhk,gI],by rw [hz0],⟨gp,gc,rfl,rg,hgc⟩,fun e=>absurd hz0 e,fun _ e=>absurd e hcl,fun _ _=>hl⟩
theorem f41_c (h:Hp) (ra:RawTb B h b ps ns ks pw nw cw pb nb cb):FnC (Md.starC Tryz.prog B) 41 #[tbV b ps ns ks pw nw cw pb nb cb] h fun v h'=> ∃nw w g,h'=ro h++nw∧v= .tuple [w,.int .i64 (tbS b)].toArray∧RdI B h' w g∧(tbS b≠0→g=[])∧(tbS b=0→jbt (cdT b)=true→g=[])∧(tbS b=0→ ¬jbt (cdT b)=true→jdU (fun l=>jcK b (jbN l)=true) (jaa b).length g):=
 CallF.mono (f41_k h ra) fun v h' ⟨nw,w,g,e1,e2,e3,e4⟩=>⟨nw,w,g,e1,e2,e3.rdI,e4⟩
end
section
variable [LaidO B]
def badL (l:Ln):Prop:=20<l.figs.length∨ ∃k,k<l.figs.length∧100<(l.figs.getD k []).length
def grL (ls:List Ln):Prop:= ∃i,i<ls.length∧badL (ls.getD i default)
def jr7 (b:Tb):Prop:=20<b.sts.length∨20<b.waters.length∨20<b.butts.length∨(∃j,j<b.sts.length∧100<(b.sts.getD j []).length)∨grL b.waters∨grL b.butts
theorem jnM (h: ¬grL ls): ∀l∈ls,l.figs.length≤1000∧ ∀f∈l.figs,f.length≤100000:=fun l hl=>by
 obtain ⟨i,hi,e⟩:=GK.1 hl
 have hg:ls.getD i default=l:=by rw [gC,gD hi,gu,e]
 have hb: ¬badL l:=fun x=>h ⟨i,hi,by rw [hg];exact x⟩
 refine ⟨vm fun x=>hb (.inl zO),fun f hf=>vm fun x=>?_⟩
 obtain ⟨k,hk,e⟩:=GK.1 hf
 exact hb (.inr ⟨k,hk,by rw [gC,gD hk,gu,e];omega⟩)
theorem small_tb (h: ¬jr7 b):TbSm b:=by
 refine ⟨fun s hs=>vm fun x=>?_,jnM fun e=>h (.inr (.inr (.inr (.inr (.inl e))))),jnM fun e=>h (.inr (.inr (.inr (.inr (.inr e)))))⟩
 obtain ⟨k,hk,e⟩:=GK.1 hs
 exact h (.inr (.inr (.inr (.inl ⟨k,hk,by rw [gC,gD hk,gu,e];omega⟩))))
theorem f86_c (m:Md Tryz.prog B) (h:Hp) {c:Nat} (hln:RdLn B h (.slice p n c) n ls) (hn:n≤20):FnC m 86 #[.slice p n c] h fun v h'=>h'=h∧IsB (grL ls) v:=by
 obtain ⟨lps,rfl,rl,hfig⟩:=hln
 have hll:=rl.elen zA
 refine jae Tryz.func86 rfl rfl (l:=(.slice p n c)::uu37) rfl ?_
 intro cf cs K hK
 refine Z10 ?_
 refine jag (fun nn l h'=> ∃(i:Nat),nn=n-i∧(i≤n)∧(∀j,j<i→ ¬badL (lps.getD j default).ln)∧(∃U:Nat→Value,l=((.slice p n c)::(U 1)::(U 2)::(.int .i64 (i:Int))::vw34 U 4 []))∧h=h') _ ⟨0,rfl,by omega,fun j hj=>absurd hj zO,exU rfl,rfl⟩ ?_;rintro nn l h' ⟨i,rfl,hi,hgo,⟨U,rfl⟩,rfl⟩ hnext1;refine Z6 ?_
 refine jam rfl zq (fun hc=>?_) (fun hc=>?_)
 ·refine Z7 ?_
  obtain ⟨rlb,rlo,hrp⟩:=rl.ptr zO
  have rl2:=rl
  rw [hrp] at rl2
  obtain ⟨hxc,rdf0⟩:=hfig _ (jaj (l:=lps) (i:=i) zO)
  refine Z3 ?_;refine D57 ?_;refine Zs ?_;refine D36 ?_;refine Zs ?_
  refine jaJ rfl zq (fun hc=>?_) (fun hc=>?_)
  ·refine Z7 ?_;refine jac (h) rfl Tryz.func86 rfl jab ?_;refine Zs ?_
   exact ⟨rfl,IsB.yes ⟨i,by rw [gN];omega,by rw [ja5 _ _ zO];exact .inl zO⟩⟩
  ·refine Z8 ?_
   refine jag (fun nn l h'=> ∃(k:Nat),nn=(lps.getD i default).ln.figs.length-k∧(k≤(lps.getD i default).ln.figs.length)∧(∀j,j<k→ ¬100<((lps.getD i default).ln.figs.getD j []).length)∧(∃U:Nat→Value,l=((.slice p n c)::(U 1)::(U 2)::(.int .i64 (i:Int))::(.int .i64 (k:Int))::vw33 U 5 []))∧h=h') _ ⟨0,rfl,by omega,fun j hj=>absurd hj zO,exU rfl,rfl⟩ ?_;rintro nn l h' ⟨k,rfl,hk,hfk,⟨U,rfl⟩,rfl⟩ hnext2;refine Z6 ?_;refine D57 ?_;refine Zs ?_;refine D36 ?_;refine Zs ?_
   refine jam rfl zq (fun hc=>?_) (fun hc=>?_)
   ·refine Z6 ?_
    have rdf:=rdf0 zO
    obtain ⟨fb,fo,hfp⟩:=rdf.ptr zO
    have rdg:=rdf
    rw [hfp] at rdg
    refine Z3 ?_;refine D57 ?_;refine Zs ?_;refine D36 ?_;refine Zs ?_;refine D45 ?_;refine D86 ?_;refine Zs ?_
    refine jaJ rfl zq (fun hc=>?_) (fun hc=>?_)
    ·refine Z7 ?_;refine jac (h) rfl Tryz.func86 rfl jab ?_;refine Zs ?_
     exact ⟨rfl,IsB.yes ⟨i,by rw [gN];omega,by rw [ja5 _ _ zO];exact .inr ⟨k,by omega,by omega⟩⟩⟩
    ·refine Z9 ?_
     exact m.weak jab (hnext2 _ _ _ zO ⟨k+1,rfl,by omega,fun j hj=>by
      by_cases e:j<k
      ·exact hfk j e
      ·obtain rfl:j=k:=by omega
       omega,exU rfl,rfl⟩)
   ·refine Z9 ?_
    exact m.weak jab (hnext1 _ _ _ zO ⟨i+1,rfl,by omega,fun j hj=>by
     by_cases e:j<i
     ·exact hgo j e
     ·obtain rfl:j=i:=by omega
      rintro (e|⟨k2,hk2,e⟩)
      ·omega
      ·exact hfk k2 zO e,exU rfl,rfl⟩)
 ·refine Z8 ?_;refine jac (h) rfl Tryz.func86 rfl jab ?_;refine Zs ?_
  refine ⟨rfl,IsB.no ?_⟩
  rintro ⟨j,hj,e⟩;rw [gN] at hj
  rw [ja5 _ _ zO] at e
  exact hgo j zO e
theorem f19_c (m:Md Tryz.prog B) (h:Hp) (rds:RdS B h 1 (.slice ps ns ks) ns (jaC b.sts)) (hcs:ns≤ks) (rdw:RdLn B h (.slice pw nw cw) nw b.waters) (rdb:RdLn B h (.slice pb nb cb) nb b.butts):FnC m 19 #[tbV b ps ns ks pw nw cw pb nb cb] h fun v h'=>h'=h∧IsB (jr7 b) v:=by
 have hml:=rds.elen zA
 have hwl:=jbG rdw
 have hbl:=jbG rdb
 refine jae Tryz.func19 rfl rfl (l:=(tbV b ps ns ks pw nw cw pb nb cb)::uu41) rfl ?_
 intro cf cs K hK
 refine Z2 ?_
 refine jaA rfl zq (fun q1=>jao (jad ?_));refine Z4 ?_;refine D33 ?_;refine Z3 ?_
 refine jaJ rfl zq (fun hc=>?_) (fun hc=>?_)
 ·refine Z19 ?_;refine D83 ?_;refine Zs ?_
  first
   |exact E52
   |exact E53
   |exact E54
   |exact E55
   |exact E56
   |exact E57
   |exact ⟨rfl,IsB.no fun e=>by
     rcases e with e|e|e|⟨i,hi,e⟩|e|e
     ·omega
     ·omega
     ·omega
     ·exact hgo i zO e
     ·exact hgw e
     ·exact hgb e⟩
 ·refine Z3 ?_;refine jkO rfl rfl ?_
  refine jaJ rfl rfl (fun hc=>?_) (fun hc=>?_)
  ·refine Z14 ?_;refine D83 ?_;refine Zs ?_
   first
    |exact E52
    |exact E53
    |exact E54
    |exact E55
    |exact E56
    |exact E57
    |exact ⟨rfl,IsB.no fun e=>by
      rcases e with e|e|e|⟨i,hi,e⟩|e|e
      ·omega
      ·omega
      ·omega
      ·exact hgo i zO e
      ·exact hgw e
      ·exact hgb e⟩
  ·refine Z4 ?_;refine jkO rfl rfl ?_
   refine jaJ rfl rfl (fun hc=>?_) (fun hc=>?_)
   ·refine Z8 ?_;refine D83 ?_;refine Zs ?_
    first
     |exact E52
     |exact E53
     |exact E54
     |exact E55
     |exact E56
     |exact E57
     |exact ⟨rfl,IsB.no fun e=>by
       rcases e with e|e|e|⟨i,hi,e⟩|e|e
       ·omega
       ·omega
       ·omega
       ·exact hgo i zO e
       ·exact hgw e
       ·exact hgb e⟩
   ·refine Z10 ?_
    refine jag (fun nn l h'=> ∃(j:Nat),nn=ns-j∧(j≤ns)∧(∀i,i<j→ ¬100<(b.sts.getD i []).length)∧(∃U:Nat→Value,l=((tbV b ps ns ks pw nw cw pb nb cb)::(.pointer (some ⟨q1,0,none⟩))::(U 2)::(.int .i64 (j:Int))::vw38 U 4 []))∧h++[⟨true,q1,.cells (tbL b ps ns ks pw nw cw pb nb cb).toArray 25 (0,0)⟩]=h') _ ⟨0,rfl,by omega,fun i hi=>absurd hi zO,exU rfl,rfl⟩ ?_;rintro nn l h' ⟨j,rfl,hj,hgo,⟨U,rfl⟩,rfl⟩ hnext;refine Z7 ?_
    refine jam rfl zq (fun hc=>?_) (fun hc=>?_)
    ·refine Z6 ?_
     obtain ⟨sb,so,hsp⟩:=rds.ptr zO
     have rds2:=rds
     rw [hsp] at rds2
     refine Z4 ?_;refine jaL rfl zq hsp zO zO ?_;refine jaN rfl zq ((rds2.sat j zO zO).keeps (gG _ _)) ?_;refine Zs ?_
     refine jaJ rfl zq (fun hc=>?_) (fun hc=>?_)
     ·refine Z7 ?_;refine D83 ?_;refine Zs ?_
      first
       |exact E52
       |exact E53
       |exact E54
       |exact E55
       |exact E56
       |exact E57
       |exact ⟨rfl,IsB.no fun e=>by
         rcases e with e|e|e|⟨i,hi,e⟩|e|e
         ·omega
         ·omega
         ·omega
         ·exact hgo i zO e
         ·exact hgw e
         ·exact hgb e⟩
     ·refine Z9 ?_
      exact m.weak jab (hnext _ _ _ zO ⟨j+1,rfl,by omega,fun i hi=>by
       by_cases e:i<j
       ·exact hgo i e
       ·obtain rfl:i=j:=by omega
        omega,exU rfl,rfl⟩)
    ·refine Z7 ?_;refine jaf (Post:=fun v=>IsB _ v) rfl zq zK (fun H' hH=>f86_c m H' (rdw.keeps (sq hH)) zO) ?_
     rintro v (⟨hc,rfl⟩|⟨hc,rfl⟩)
     ·refine Zs ?_
      have hgw:=hc
      refine Z8 ?_;refine D83 ?_;refine Zs ?_
      first
       |exact E52
       |exact E53
       |exact E54
       |exact E55
       |exact E56
       |exact E57
       |exact ⟨rfl,IsB.no fun e=>by
         rcases e with e|e|e|⟨i,hi,e⟩|e|e
         ·omega
         ·omega
         ·omega
         ·exact hgo i zO e
         ·exact hgw e
         ·exact hgb e⟩
     ·refine Zs ?_
      have hgw:=hc
      refine Z3 ?_;refine jaf (Post:=fun v=>IsB _ v) rfl rfl zK (fun H' hH=>f86_c m H' (rdb.keeps (sq hH)) zO) ?_
      rintro v (⟨hc,rfl⟩|⟨hc,rfl⟩);all_goals
       refine Zs ?_
       have hgb:=hc
       refine Z4 ?_;refine D83 ?_;refine Zs ?_
       first
        |exact E52
        |exact E53
        |exact E54
        |exact E55
        |exact E56
        |exact E57
        |exact ⟨rfl,IsB.no fun e=>by
          rcases e with e|e|e|⟨i,hi,e⟩|e|e
          ·omega
          ·omega
          ·omega
          ·exact hgo i zO e
          ·exact hgw e
          ·exact hgb e⟩
theorem f61_c (m:Md Tryz.prog B) (h:Hp) {c n2 c2:Nat} {xs:List Int} (rd:RdS B h 1 (.slice p n c) n (jav xs)) (hn:n≤1000000) (rd2:RdS B h 1 (.slice p2 n2 c2) n2 (jav ys)):FnC m 61 #[.slice p n c,.slice p2 n2 c2] h fun v h'=>h'=h∧IsB (xs=ys) v:=by
 refine jae Tryz.func61 rfl rfl (l:=(.slice p n c)::(.slice p2 n2 c2)::uu6) rfl ?_
 intro cf cs K hK
 refine Z8 ?_;refine jaf (Post:=fun v=>IsB _ v) rfl zq zK (fun H' hH=>f42_c m H' (rd.keeps (sq hH)) hn (rd2.keeps (sq hH))) ?_
 rintro v (⟨hc,rfl⟩|⟨hc,rfl⟩);all_goals
  refine Z4 ?_;refine jac (h) rfl Tryz.func61 rfl jab ?_;refine Zs ?_
 ·exact ⟨rfl,IsB.yes hc⟩
 ·exact ⟨rfl,IsB.no hc⟩
end
section
variable [LaidO B]
def exT:Tb:=⟨1,[[97],[98]],[⟨64,[[49,45,50,45,51],[49,45,63,45,48]]⟩,⟨128,[[49,45,54,45,48],[49,45,52,45,52]]⟩],[⟨96,[[48,45,53,45,48],[48,45,57,45,48]]⟩]⟩
theorem f87_c (m:Md Tryz.prog B) (h:Hp):FnC m 87 #[] h fun v h'=> ∃nw,h'=h++nw∧ ∃ps pw pb,v=tbV exT ps 2 2 pw 2 2 pb 1 1∧RawTb B nw exT ps 2 2 pw 2 2 pb 1 1:=by
 refine jae Tryz.func87 rfl rfl (l:=uu11) rfl ?_
 intro cf cs K hK
 refine Z2 ?_
 refine jay rfl zq (fun q0=>jao (jad ?_));refine Z2 ?_;refine jpG ?_
 refine jb7 kdq rfl zq zA zA rfl (fun q1=>jao (jad ?_));refine jb7 kdq rfl zq zA zA rfl (fun q2=>jao (jad ?_));refine D30 ?_
 refine jb7 kdq rfl zq zA zA rfl (fun q4=>jao (jad ?_));refine D30 ?_
 refine jb7 kdq rfl zq zA zA rfl (fun q6=>jao (jad ?_));refine jb7 kdq rfl zq zA zA rfl (fun q7=>jao (jad ?_));refine D30 ?_
 refine jb7 kdq rfl zq zA zA rfl (fun q9=>jao (jad ?_));refine D30 ?_;refine D4 ?_;refine Z2 ?_;refine jac (h++[⟨true,q1,.cells ([str [97],str [98]]:List Value).toArray 9 (0,0)⟩,⟨true,q2,.cells ([str [49,45,50,45,51],str [49,45,63,45,48]]:List Value).toArray 9 (0,0)⟩,⟨true,q4,.cells ([str [49,45,54,45,48],str [49,45,52,45,52]]:List Value).toArray 9 (0,0)⟩,⟨true,q6,.cells ([.int .i64 64,.slice (some ⟨q2,0,none⟩) 2 2,.int .i64 128,.slice (some ⟨q4,0,none⟩) 2 2]:List Value).toArray 121 (0,0)⟩,⟨true,q7,.cells ([str [48,45,53,45,48],str [48,45,57,45,48]]:List Value).toArray 9 (0,0)⟩,⟨true,q9,.cells ([.int .i64 96,.slice (some ⟨q7,0,none⟩) 2 2]:List Value).toArray 121 (0,0)⟩]) rfl Tryz.func87 rfl jab ?_;refine Zs ?_
 refine ⟨_,rfl,_,_,_,rfl,⟨jeX (ys:=jaC exT.sts) (x:=⟨gl⟩) rfl,by decide,by decide,⟨[⟨⟨64,[[49,45,50,45,51],[49,45,63,45,48]]⟩,some ⟨q2,0,none⟩,2⟩,⟨⟨128,[[49,45,54,45,48],[49,45,52,45,52]]⟩,some ⟨q4,0,none⟩,2⟩],rfl,jeX (ys:=jaC ([⟨⟨64,[[49,45,50,45,51],[49,45,63,45,48]]⟩,some ⟨q2,0,none⟩,2⟩,⟨⟨128,[[49,45,54,45,48],[49,45,52,45,52]]⟩,some ⟨q4,0,none⟩,2⟩]:List Lp)) (x:=⟨by right;right;right;left⟩) rfl,fun x hx=>?_⟩,by decide,⟨[⟨⟨96,[[48,45,53,45,48],[48,45,57,45,48]]⟩,some ⟨q7,0,none⟩,2⟩],rfl,jeX (ys:=jaC ([⟨⟨96,[[48,45,53,45,48],[48,45,57,45,48]]⟩,some ⟨q7,0,none⟩,2⟩]:List Lp)) (x:=⟨by right;right;right;right;right;left⟩) rfl,fun x hx=>?_⟩,by decide,⟨by decide,by decide,by decide⟩⟩⟩
 ·rcases gU.1 hx with rfl|hx
  ·exact ⟨gM _,fun _=>jeX (ys:=jaC ([[49,45,50,45,51],[49,45,63,45,48]]:List Str)) (x:=⟨by right;left⟩) rfl⟩
  ·obtain rfl:=gw.1 hx
   exact ⟨gM _,fun _=>jeX (ys:=jaC ([[49,45,54,45,48],[49,45,52,45,52]]:List Str)) (x:=⟨by right;right;left⟩) rfl⟩
 ·obtain rfl:=gw.1 hx
  exact ⟨gM _,fun _=>jeX (ys:=jaC ([[48,45,53,45,48],[48,45,57,45,48]]:List Str)) (x:=⟨by right;right;right;right;left⟩) rfl⟩
end
section
variable [LaidO B]
theorem hhrd {c:Nat} {M:Hp} (o:HalfO (.slice p n c) n lns M) (s:M.Sublist H):RdLn B H (.slice p n c) n lns:=by
 obtain ⟨p',c',e,r⟩:=o.rd (B:=B)
 cases e
 exact r.keeps s
theorem f94_l (m:Md Tryz.prog B) (hs:h.Sublist H) (rlw:RdS B h 2 (.slice pw nw cw) nw (jaC lw)) (rlb:RdS B h 2 (.slice pb nb cb) nb (jaC lb)) {bt:Bool} {li st:Int} (h0:0≤li) (h1:li<(if bt then lb else lw).length):FnC m 94 #[tbV b ps ns ks pw nw cw pb nb cb,cV bt li st] H fun v h'=>h'=H∧v=lpV ((if bt then lb else lw).getD li.toNat default):=by
 refine jae Tryz.func94 rfl rfl (l:=(tbV b ps ns ks pw nw cw pb nb cb)::(cV bt li st)::uu17) rfl ?_
 intro cf cs K hK
 refine Z2 ?_
 refine jaA rfl zq (fun q2=>jao (jad ?_));refine jaA rfl zq (fun q3=>jao (jad ?_));refine jay rfl zq (fun q4=>jao (jad ?_));refine Z7 ?_
 refine jcl (fun hc=>?_) (fun hc=>?_);first|replace hc:=of_decide_eq_true hc|replace hc:=of_decide_eq_false hc|skip
 refine Zs ?_
 subst hc
 have hlt:li<lb.length:=h1
 have hll:=rlb.elen zA
 obtain ⟨z_b,z_o,hzp⟩:=rlb.ptr zO
 have rlg:=rlb.keeps hs
 rw [hzp] at rlg
 refine Z5 ?_;refine D68 ?_;refine jb4 (vs:=lpL (lb.getD li.toNat default)) rfl zq rfl (rlg.eat li.toNat zO zO) ?_
 rotate_left
 first|replace hc:=of_decide_eq_true hc|replace hc:=of_decide_eq_false hc|skip
 refine Z2 ?_
 subst hc
 have hlt:li<lw.length:=h1
 have hll:=rlw.elen zA
 obtain ⟨z_b,z_o,hzp⟩:=rlw.ptr zO
 have rlg:=rlw.keeps hs
 rw [hzp] at rlg
 refine Z5 ?_;refine D68 ?_;refine jb4 (vs:=lpL (lw.getD li.toNat default)) rfl zq rfl (rlg.eat li.toNat zO zO) ?_
 all_goals
  refine D4 ?_;refine Z2 ?_;refine jac (H) rfl Tryz.func94 rfl jab ?_;refine Zs ?_
  exact ⟨rfl,rfl⟩
theorem f33_c (m:Md Tryz.prog B) (h:Hp) (rlw:RdS B h 2 (.slice pw nw cw) nw (jaC lw)) (rlb:RdS B h 2 (.slice pb nb cb) nb (jaC lb)) (hnw:nw≤1000) (hnb:nb≤1000) (hfw: ∀x∈lw,x.ln.figs.length≤x.c∧RdS B h 1 (.slice x.p x.ln.figs.length x.c) x.ln.figs.length (jaC x.ln.figs)) (hfb: ∀x∈lb,x.ln.figs.length≤x.c∧RdS B h 1 (.slice x.p x.ln.figs.length x.c) x.ln.figs.length (jaC x.ln.figs)) (hsmw: ∀l∈lw.map (·.ln),l.figs.length≤1000) (hsmb: ∀l∈lb.map (·.ln),l.figs.length≤1000) (bt:Bool) (li st:Int) (f:Str) (hli0:0≤li) (hli1:li<((if bt then lb else lw).length:Int)) (hst0:0≤st) (hst1:st<(((if bt then lb else lw).getD li.toNat default).ln.figs.length:Int)):FnC m 33 #[tbV b ps ns ks pw nw cw pb nb cb,cV bt li st,str f] h fun v h'=> ∃nz pw' cw' pb' cb',h'=h++nz∧v=tbV b ps ns ks pw' nw cw' pb' nb cb'∧RdLn B nz (.slice pw' nw cw') nw (if bt then lw.map (·.ln) else jji (lw.map (·.ln)) li.toNat st.toNat f)∧RdLn B nz (.slice pb' nb cb') nb (if bt then jji (lb.map (·.ln)) li.toNat st.toNat f else lb.map (·.ln)):=by
 have hlw:=rlw.elen zA
 have hlb:=rlb.elen zA
 refine jae Tryz.func33 rfl rfl (l:=(tbV b ps ns ks pw nw cw pb nb cb)::(cV bt li st)::(str f)::uu73) rfl ?_
 intro cf cs K hK
 refine Z2 ?_
 refine jaA rfl zq (fun q3=>jao (jad ?_));refine jaA rfl zq (fun q4=>jao (jad ?_));refine jay rfl zq (fun q6=>jao (jad ?_));refine Z4 ?_
 refine jay rfl zq (fun q7=>jao (jad ?_));refine D4 ?_;refine Z4 ?_;refine D19 ?_;refine Zs ?_;refine D19 ?_;refine Z7 ?_
 refine jag (fun nn l h'=> ∃(i:Nat) (p1:Option Addr) (c1:Nat) (xw:List Lp) (W0 FM0:Hp),nn=nw-i∧(i≤nw)∧(xw.map (·.ln)=(lw.map (·.ln)).take i)∧(OwnS 121 2 (.slice p1 i c1) i (jaC xw) W0)∧(OwnF xw FM0)∧(∃U:Nat→Value,l=((tbV b ps ns ks pw nw cw pb nb cb)::(cV bt li st)::(str f)::(.pointer (some ⟨q3,0,none⟩))::(.pointer (some ⟨q4,0,none⟩))::(U 5)::(.pointer (some ⟨q6,0,none⟩))::(.pointer (some ⟨q7,0,none⟩))::(.int .i64 (i:Int))::vw67 U 9 []))∧h++[⟨true,q3,.cells (tbL b ps ns ks pw nw cw pb nb cb).toArray 25 (0,0)⟩,⟨true,q4,.cells [.bool bt,.int .i64 li,.int .i64 st].toArray 37 (0,0)⟩,⟨true,q6,.cells [.int .i64 0,.slice none 0 0,.slice none 0 0,.slice none 0 0].toArray 25 (0,0)⟩,⟨true,q7,.cells [.int .i64 b.wrong,.slice ps ns ks,.slice p1 i c1,.slice none 0 0].toArray 25 (0,0)⟩]++W0++FM0=h') _ ⟨0,none,0,[],[],[],rfl,by omega,rfl,OwnS.nil,OwnF.nil,exU rfl,zS⟩ ?_;rintro nn l h' ⟨i,p1,c1,xw,W0,FM0,rfl,hi,hmap0,how0,hof0,⟨U,rfl⟩,rfl⟩ hnext1;refine Z7 ?_
 refine jam rfl zq (fun hc=>?_) (fun hc=>?_)
 ·refine Z5 ?_
  obtain ⟨z_b,z_o,hzp⟩:=rlw.ptr zO
  have rl2:=rlw
  rw [hzp] at rl2
  obtain ⟨hxc,rdf⟩:=hfw _ (jaj (l:=lw) (i:=i) zO)
  obtain ⟨x,hx⟩: ∃x,x=lw.getD i default:=⟨_,rfl⟩
  rw [←hx] at hxc rdf
  have hxm:x∈lw:=hx▸jaj zO
  have hxl:x.ln.figs.length≤1000:=by
   have:=hsmw x.ln (gR.2 ⟨x,hxm,rfl⟩)
   exact this
  refine jbi (S:=h++[⟨true,q3,.cells (tbL b ps ns ks pw nw cw pb nb cb).toArray 25 (0,0)⟩,⟨true,q4,.cells [.bool bt,.int .i64 li,.int .i64 st].toArray 37 (0,0)⟩,⟨true,q6,.cells [.int .i64 0,.slice none 0 0,.slice none 0 0,.slice none 0 0].toArray 25 (0,0)⟩,⟨true,q7,.cells [.int .i64 b.wrong,.slice ps ns ks,.slice p1 i c1,.slice none 0 0].toArray 25 (0,0)⟩]) [0,1,2,3,4,5,6,7,8,9,10,11,12,13,14,15,16,17,18,19,20] zK zK SubH.sub ?_;refine D28 ?_;refine Z7 ?_;refine D68 ?_;refine Zs ?_;refine jaN (v:= .int .i64 x.ln.lat) rfl zq (hx▸rl2.fat i 0 zO zO rfl) ?_;refine Zs ?_;refine D68 ?_;refine Zs ?_;refine jaN (v:= .slice x.p x.ln.figs.length x.c) rfl zq (hx▸rl2.fat i 1 zO zO rfl) ?_;refine jcQ kdq rfl zq (fun q28=>jao (jad ?_));refine jbz rfl zq (OwnS.zero (q:=q28)) rdf.up (fun u hu=>jdr _ u hu) kdq zO zO (fun w35 n35 o35=>jad ?_);replace o35:OwnS 9 1 w35 x.ln.figs.length (jaC x.ln.figs) n35:=by simpa using o35
  obtain ⟨p35,c35,rfl,hc35,r35⟩:=jas (B:=B) o35
  refine D30 ?_
  refine jb7 kdq rfl zq zA zA rfl (fun q37=>jao (jad ?_));refine ja6 rfl zq rfl how0 kdq zO zO (fun w38 n38 o38=>jad ?_);replace o38:OwnS 121 2 w38 (i+1) (jaC (xw++[⟨x.ln,p35,c35⟩])) n38:=by rw [ja0];exact o38
  obtain ⟨p38,c38,rfl,_⟩:=o38.len
  refine Zs ?_;refine D19 ?_;refine Z7 ?_;refine m.weak (h':=h++[⟨true,q3,.cells (tbL b ps ns ks pw nw cw pb nb cb).toArray 25 (0,0)⟩,⟨true,q4,.cells [.bool bt,.int .i64 li,.int .i64 st].toArray 37 (0,0)⟩,⟨true,q6,.cells [.int .i64 0,.slice none 0 0,.slice none 0 0,.slice none 0 0].toArray 25 (0,0)⟩,⟨true,q7,.cells [.int .i64 b.wrong,.slice ps ns ks,.slice p38 (i+1) c38,.slice none 0 0].toArray 25 (0,0)⟩]++n38++(FM0++n35)) jeO ?_
  exact hnext1 _ _ _ zO ⟨i+1,_,_,xw++[⟨x.ln,p35,c35⟩],n38,FM0++n35,rfl,by omega,by rw [GC,hmap0,Gh,gD zI];simp only [VF,Gq,gx,vw];rw [hx,gC,gD zO];rfl,o38,.snoc hof0 o35,exU rfl,rfl⟩
 ·refine Z5 ?_
  obtain rfl:nw=i:=by omega
  refine Z4 ?_
  refine jag (fun nn l h'=> ∃(i:Nat) (p2:Option Addr) (c2:Nat) (xs:List Lp) (W FM:Hp),nn=nb-i∧(i≤nb)∧(xs.map (·.ln)=(lb.map (·.ln)).take i)∧(OwnS 121 2 (.slice p2 i c2) i (jaC xs) W)∧(OwnF xs FM)∧(∃U:Nat→Value,l=((tbV b ps ns ks pw nw cw pb nb cb)::(cV bt li st)::(str f)::(.pointer (some ⟨q3,0,none⟩))::(.pointer (some ⟨q4,0,none⟩))::(U 5)::(.pointer (some ⟨q6,0,none⟩))::(.pointer (some ⟨q7,0,none⟩))::(U 8)::(.int .i64 (i:Int))::vw66 U 10 []))∧h++[⟨true,q3,.cells (tbL b ps ns ks pw nw cw pb nb cb).toArray 25 (0,0)⟩,⟨true,q4,.cells [.bool bt,.int .i64 li,.int .i64 st].toArray 37 (0,0)⟩,⟨true,q6,.cells [.int .i64 0,.slice none 0 0,.slice none 0 0,.slice none 0 0].toArray 25 (0,0)⟩,⟨true,q7,.cells [.int .i64 b.wrong,.slice ps ns ks,.slice p1 nw c1,.slice p2 i c2].toArray 25 (0,0)⟩]++W0++FM0++W++FM=h') _ ⟨0,none,0,[],[],[],rfl,by omega,rfl,OwnS.nil,OwnF.nil,exU rfl,zS⟩ ?_;rintro nn l h' ⟨i,p2,c2,xs,W,FM,rfl,hi2,hmap,how,hof,⟨U,rfl⟩,rfl⟩ hnext2;refine Z7 ?_
  refine jam rfl zq (fun hc=>?_) (fun hc=>?_)
  ·refine Z5 ?_
   obtain ⟨z_b,z_o,hzp⟩:=rlb.ptr zO
   have rl2:=rlb
   rw [hzp] at rl2
   obtain ⟨hxc,rdf⟩:=hfb _ (jaj (l:=lb) (i:=i) zO)
   obtain ⟨x,hx⟩: ∃x,x=lb.getD i default:=⟨_,rfl⟩
   rw [←hx] at hxc rdf
   have hxm:x∈lb:=hx▸jaj zO
   have hxl:x.ln.figs.length≤1000:=by
    have:=hsmb x.ln (gR.2 ⟨x,hxm,rfl⟩)
    exact this
   refine jbi (S:=h++[⟨true,q3,.cells (tbL b ps ns ks pw nw cw pb nb cb).toArray 25 (0,0)⟩,⟨true,q4,.cells [.bool bt,.int .i64 li,.int .i64 st].toArray 37 (0,0)⟩,⟨true,q6,.cells [.int .i64 0,.slice none 0 0,.slice none 0 0,.slice none 0 0].toArray 25 (0,0)⟩,⟨true,q7,.cells [.int .i64 b.wrong,.slice ps ns ks,.slice p1 nw c1,.slice p2 i c2].toArray 25 (0,0)⟩]) [0,1,2,3,4,5,6,7,8,9,10,11,12,13,14,15,16,17,18,19,20] zK zK SubH.sub ?_;refine D28 ?_;refine Z7 ?_;refine D68 ?_;refine Zs ?_;refine jaN (v:= .int .i64 x.ln.lat) rfl zq (hx▸rl2.fat i 0 zO zO rfl) ?_;refine Zs ?_;refine D68 ?_;refine Zs ?_;refine jaN (v:= .slice x.p x.ln.figs.length x.c) rfl zq (hx▸rl2.fat i 1 zO zO rfl) ?_;refine jcQ kdq rfl zq (fun q55=>jao (jad ?_));refine jbz rfl zq (OwnS.zero (q:=q55)) rdf.up (fun u hu=>jdr _ u hu) kdq zO zO (fun w35 n35 o35=>jad ?_);replace o35:OwnS 9 1 w35 x.ln.figs.length (jaC x.ln.figs) n35:=by simpa using o35
   obtain ⟨p35,c35,rfl,hc35,r35⟩:=jas (B:=B) o35
   refine D30 ?_
   refine jb7 kdq rfl zq zA zA rfl (fun q64=>jao (jad ?_));refine ja6 rfl zq rfl how kdq zO zO (fun w38 n38 o38=>jad ?_);replace o38:OwnS 121 2 w38 (i+1) (jaC (xs++[⟨x.ln,p35,c35⟩])) n38:=by rw [ja0];exact o38
   obtain ⟨p38,c38,rfl,_⟩:=o38.len
   refine Zs ?_;refine D19 ?_;refine Z7 ?_;refine m.weak (h':=h++[⟨true,q3,.cells (tbL b ps ns ks pw nw cw pb nb cb).toArray 25 (0,0)⟩,⟨true,q4,.cells [.bool bt,.int .i64 li,.int .i64 st].toArray 37 (0,0)⟩,⟨true,q6,.cells [.int .i64 0,.slice none 0 0,.slice none 0 0,.slice none 0 0].toArray 25 (0,0)⟩,⟨true,q7,.cells [.int .i64 b.wrong,.slice ps ns ks,.slice p1 nw c1,.slice p38 (i+1) c38].toArray 25 (0,0)⟩]++W0++FM0++n38++(FM++n35)) jeO ?_
   exact hnext2 _ _ _ zO ⟨i+1,_,_,xs++[⟨x.ln,p35,c35⟩],n38,FM++n35,rfl,by omega,by rw [GC,hmap,Gh,gD zI];simp only [VF,Gq,gx,vw];rw [hx,gC,gD zO];rfl,o38,.snoc hof o35,exU rfl,rfl⟩
  ·refine Z4 ?_
   obtain rfl:nb=i:=by omega
   rw [gq zI] at hmap hmap0
   have hxwl:xw.length=nw:=by have:=congrArg List.length hmap0;simp only [gN] at this;omega
   have hxsl:xs.length=nb:=by have:=congrArg List.length hmap;simp only [gN] at this;omega
   cases bt
   replace hli1:li<(lw.length:Int):=by simpa using hli1
   replace hst1:st<((lw.getD li.toNat default).ln.figs.length:Int):=by simpa using hst1
   obtain ⟨sj,hsj⟩:=Gm hst0
   obtain ⟨M1f,Fb,M2f,rfl,hofb,hset⟩:=hof0.at (show li.toNat<xw.length by omega)
   obtain ⟨y,hy⟩: ∃y,y=xw.getD li.toNat default:=⟨_,rfl⟩
   rw [←hy] at hofb
   have hyf:st<y.ln.figs.length:=by
    have h1:=hst1
    have h2:(lw.map (·.ln)).getD li.toNat default=y.ln:=by rw [←hmap0,ja5 _ _ zO,←hy]
    rw [←h2,ja5 _ _ zO];exact h1
   rotate_left
   replace hli1:li<(lb.length:Int):=by simpa using hli1
   replace hst1:st<((lb.getD li.toNat default).ln.figs.length:Int):=by simpa using hst1
   obtain ⟨sj,hsj⟩:=Gm hst0
   obtain ⟨M1f,Fb,M2f,rfl,hofb,hset⟩:=hof.at (show li.toNat<xs.length by omega)
   obtain ⟨y,hy⟩: ∃y,y=xs.getD li.toNat default:=⟨_,rfl⟩
   rw [←hy] at hofb
   have hyf:st<y.ln.figs.length:=by
    have h1:=hst1
    have h2:(lb.map (·.ln)).getD li.toNat default=y.ln:=by rw [←hmap,ja5 _ _ zO,←hy]
    rw [←h2,ja5 _ _ zO];exact h1
   all_goals
    obtain ⟨bf,fc,junkf,hfv,rfl,hfl,hfc,hfn⟩:=jcx hofb zO
    injection hfv with hyp _ hyc
    haveI hsf:=jgP (ss:=y.ln.figs) (junk:=junkf) (j:=st) (i:=sj) hsj zO f
    have hrw:=how0.rd (B:=B) (gE _)
    have hrb:=how.rd (B:=B) (gE _)
    refine jaq [Zp 4,Zp 6,Zr 0,Zr 1,Zr 5,Zk 2,Zp 3,Zp 7,Zf 8] zK zK (gE _) ?_;refine Z5 ?_
   ·refine jaf (Post:=fun v=>v=lpV y) rfl zq zK (fun H' hH=>by
     have h1:=f94_l m (h:=h++[⟨true,q3,.cells (tbL b ps ns ks pw nw cw pb nb cb).toArray 25 (0,0)⟩,⟨true,q4,.cells [.bool true,.int .i64 li,.int .i64 st].toArray 37 (0,0)⟩,⟨true,q6,.cells [.int .i64 0,.slice none 0 0,.slice none 0 0,.slice none 0 0].toArray 25 (0,0)⟩,⟨true,q7,.cells [.int .i64 b.wrong,.slice ps ns ks,.slice p1 nw c1,.slice p2 nb c2].toArray 25 (0,0)⟩]++W0++FM0++W++(M1f++[⟨true,bf,.cells (jaC y.ln.figs++junkf).toArray 9 (0,0)⟩]++M2f)) (H:=H') (by exact hH) (b:=b) (ps:=ps) (ns:=ns) (ks:=ks) (rlw:=hrw.up) (rlb:=hrb.up) (bt:=true) (li:=li) (st:=st) hli0 (by show li<(xs.length:Int);omega)
     rw [hy];exact h1) ?_
    rintro v rfl;refine Zs ?_;refine jhK rfl zq ?_;refine D103 ?_;refine D19 ?_;refine Z2 ?_
    have hy2:OwnS 9 1 (.slice y.p (y.ln.figs.set sj f).length y.c) (y.ln.figs.set sj f).length (jaC (y.ln.figs.set sj f)) [⟨true,bf,.cells (jaC (y.ln.figs.set sj f)++junkf).toArray 9 (0,0)⟩]:=by
     rw [hyp,hyc];exact E45
    have hnew:=hset ⟨⟨y.ln.lat,y.ln.figs.set sj f⟩,y.p,y.c⟩ _ hy2
    have hH1:HalfO (.slice p2 nb c2) nb (jji (lb.map (·.ln)) li.toNat st.toNat f) (W++(M1f++[⟨true,bf,.cells (jaC (y.ln.figs.set sj f)++junkf).toArray 9 (0,0)⟩]++M2f)):=by
     refine ⟨_,_,_,_,_,rfl,?_,?_,hnew,rfl⟩
     ·have:=jhQ hmap (show li.toNat<xs.length by omega) (k:=sj) f y.p y.c
      rw [←hy] at this
      rw [show st.toNat=sj by omega];exact this
     ·rw [jdq zO (by rw [←hy];simp [lpL])];exact how
    have hH2:HalfO (.slice p1 nw c1) nw (lw.map (·.ln)) (W0++FM0):=⟨xw,_,_,_,_,rfl,hmap0,how0,hof0,rfl⟩
    refine Z2 ?_;refine D4 ?_;refine Z2 ?_;refine jac (h++W0++FM0++W++(M1f++[⟨true,bf,.cells (jaC (y.ln.figs.set sj f)++junkf).toArray 9 (0,0)⟩]++M2f)) rfl Tryz.func33 rfl jab ?_;refine Zs ?_
    exact ⟨W0++FM0++W++(M1f++[⟨true,bf,.cells (jaC (y.ln.figs.set sj f)++junkf).toArray 9 (0,0)⟩]++M2f),p1,c1,p2,c2,by simp only [gI],rfl,hhrd hH2 (by exact (gG _ _).trans (gG _ _)),hhrd hH1 (by rw [gI (W0++_)];exact E41)⟩
   ·refine jaf (Post:=fun v=>v=lpV y) rfl zq zK (fun H' hH=>by
     have h1:=f94_l m (h:=h++[⟨true,q3,.cells (tbL b ps ns ks pw nw cw pb nb cb).toArray 25 (0,0)⟩,⟨true,q4,.cells [.bool false,.int .i64 li,.int .i64 st].toArray 37 (0,0)⟩,⟨true,q6,.cells [.int .i64 0,.slice none 0 0,.slice none 0 0,.slice none 0 0].toArray 25 (0,0)⟩,⟨true,q7,.cells [.int .i64 b.wrong,.slice ps ns ks,.slice p1 nw c1,.slice p2 nb c2].toArray 25 (0,0)⟩]++W0++(M1f++[⟨true,bf,.cells (jaC y.ln.figs++junkf).toArray 9 (0,0)⟩]++M2f)++W++FM) (H:=H') (by exact hH) (b:=b) (ps:=ps) (ns:=ns) (ks:=ks) (rlw:=hrw.up) (rlb:=hrb.up) (bt:=false) (li:=li) (st:=st) hli0 (by show li<(xw.length:Int);omega)
     rw [hy];exact h1) ?_
    rintro v rfl;refine Zs ?_;refine jhK rfl zq ?_;refine D103 ?_;refine D19 ?_;refine Z2 ?_
    have hy2:OwnS 9 1 (.slice y.p (y.ln.figs.set sj f).length y.c) (y.ln.figs.set sj f).length (jaC (y.ln.figs.set sj f)) [⟨true,bf,.cells (jaC (y.ln.figs.set sj f)++junkf).toArray 9 (0,0)⟩]:=by
     rw [hyp,hyc];exact E45
    have hnew:=hset ⟨⟨y.ln.lat,y.ln.figs.set sj f⟩,y.p,y.c⟩ _ hy2
    have hH1:HalfO (.slice p1 nw c1) nw (jji (lw.map (·.ln)) li.toNat st.toNat f) (W0++(M1f++[⟨true,bf,.cells (jaC (y.ln.figs.set sj f)++junkf).toArray 9 (0,0)⟩]++M2f)):=by
     refine ⟨_,_,_,_,_,rfl,?_,?_,hnew,rfl⟩
     ·have:=jhQ hmap0 (show li.toNat<xw.length by omega) (k:=sj) f y.p y.c
      rw [←hy] at this
      rw [show st.toNat=sj by omega];exact this
     ·rw [jdq zO (by rw [←hy];simp [lpL])];exact how0
    have hH2:HalfO (.slice p2 nb c2) nb (lb.map (·.ln)) (W++FM):=⟨xs,_,_,_,_,rfl,hmap,how,hof,rfl⟩
    refine Z2 ?_;refine D4 ?_;refine Z2 ?_;refine jac (h++W0++(M1f++[⟨true,bf,.cells (jaC (y.ln.figs.set sj f)++junkf).toArray 9 (0,0)⟩]++M2f)++W++FM) rfl Tryz.func33 rfl jab ?_;refine Zs ?_
    exact ⟨W0++(M1f++[⟨true,bf,.cells (jaC (y.ln.figs.set sj f)++junkf).toArray 9 (0,0)⟩]++M2f)++W++FM,p1,c1,p2,c2,by simp only [gI],rfl,hhrd hH1 (by exact (gG _ _).trans (gG _ _)),hhrd hH2 (by rw [gI (W0++_)];exact E41)⟩
end
theorem jof {p:Nat→Bool} {g:List Int} (ha:Asc g) (hx: ∀x∈g,0≤x∧x<(n:Int)) (h1:p (jbN g)=true) (h2:((List.range (2^n)).all fun mm=>!p mm||!ltW (jbZ mm n) g)=true):jdU (fun l=>p (jbN l)=true) n g:=by
 refine ⟨ha,hx,h1,fun xs ha' hx' hp hf=>?_⟩
 obtain ⟨mm,hmm,rfl⟩:=jq4 ha' hx'
 have h3:=gZ.1 h2 mm (gT.2 hmm)
 have hp':p (jbN (jbZ mm n))=true:=hp
 rw [jfN hmm] at hp'
 rw [hp',jiE.2 hf] at h3
 cases h3
def exN:Tb:={exT with wrong:=0}
def exC:Tb:=jbl exN ⟨false,0,1⟩ [49,45,50,45,48]
theorem ex_ok:tbS exT=0:=by kernel_rfl
theorem exN_ok:tbS exN=0:=by kernel_rfl
theorem jj4:tbS exC=0:=by kernel_rfl
theorem jow:(jah exT).length=11:=by kernel_rfl
theorem jmq:(jah exN).length=1:=by kernel_rfl
theorem jrK:(jah exC).length=0:=by kernel_rfl
theorem ex_sound:jbt (cdT exT)=true:=by kernel_rfl
theorem jrI:jbt (cdT exC)=false:=by kernel_rfl
theorem exC_few:jdU (fun l=>fewB exC (jbN l)=true) 6 [1]:=jof (by simp [Asc]) zA zK zK
theorem jrJ:jdU (fun l=>jcK exC (jbN l)=true) 6 [1,5]:=jof (by simp [Asc]) zA zK zK
def fiC:Ce:=⟨false,0,1⟩
def buC:Ce:=⟨true,0,1⟩
theorem jeC:jaH exT 0=0∧jaH exN 0=0∧jaH exT (jgX exT fiC)=0∧jaH exN (jgX exN fiC)=0∧jaH exT (jgX exT buC)=0∧jaH exN (jgX exN buC)=0:=by
 refine ⟨?_,?_,?_,?_,?_,?_⟩<;>kernel_rfl
theorem exT_can:jr0 exT fiC=[96,104,112,120,128]:=by kernel_rfl
theorem exN_can:jr0 exN fiC=[96]:=by kernel_rfl
theorem jrF:jkm (jnz (jah exT) (plN exT buC)) (jah exT).length=0:=by kernel_rfl
theorem jrG:jkm (jnz (jah exN) (plN exN buC)) (jah exN).length=2:=by kernel_rfl
theorem ex_fig:figN 115=[49,45,50,45,51]:=by kernel_rfl
theorem jiX:ja2 [49,45,63,45,48]=true∧firstM (jdN [49,45,63,45,48])=96∧lastM (jdN [49,45,63,45,48])=184∧(jdN [49,45,63,45,48]).length=12:=by
 refine ⟨?_,?_,?_,?_⟩<;>kernel_rfl
theorem jno:jaZ exN false 1 96=(96,132):=by kernel_rfl
theorem jpv:jaZ exN true 1 100=(72,128):=by kernel_rfl
theorem jrH:jaH exN (jfx exN 1 96)=0∧jaH exN (jfx exN 1 100)=0:=by
 refine ⟨?_,?_⟩<;>kernel_rfl
theorem jnn:(jkc exT).2=6∧(jkc exT).1.isSome=true∧cOfA exT (jkc exT).1=fiC:=by
 refine ⟨?_,?_,?_⟩<;>kernel_rfl
def exR:Tb:=jbl exT fiC (jbM (jd0 exT fiC [49,45,48,45,63]))
def exP:Tb:=jbl exT buC [48,45,56,45,48]
theorem jmo:jeq exT fiC [49,45,48,45,63]=0∧tbS exR=0∧(jah exR).length=7:=by
 refine ⟨?_,?_,?_⟩<;>kernel_rfl
theorem jmp:jlT exT buC [48,45,56,45,48]=0∧tbS exP=0∧(jah exP).length=38:=by
 refine ⟨?_,?_,?_⟩<;>kernel_rfl
section
variable [LaidO B]
theorem RdLn.ro (r:RdLn B h v n lns):RdLn B (Lo.ro h) v n lns:=by
 obtain ⟨lps,e,r1,r2⟩:=r
 exact ⟨lps,e,r1.ro,fun x hx=>⟨(r2 x hx).1,fun hp=>((r2 x hx).2 hp).ro⟩⟩
theorem RawTb.ro (r:RawTb B h b ps ns ks pw nw cw pb nb cb):RawTb B (Lo.ro h) b ps ns ks pw nw cw pb nb cb:=
 ⟨r.s.ro,r.sc,r.sn,RdLn.ro r.w,r.wn,RdLn.ro r.u,r.un,r.sm⟩
theorem jo0 (a:Hp):ro (ro a)=ro a:=by simp [ro]
theorem jgR (w:Bool) (q:Nat) (o:Obj) (a:Hp):ro (⟨w,q,o⟩::a)=⟨false,q,o⟩::ro a:=rfl
theorem jjM:ro []=[]:=rfl
theorem exN_raw (r:RawTb B h exT ps 2 2 pw 2 2 pb 1 1):RawTb B h exN ps 2 2 pw 2 2 pb 1 1:=⟨r.s,r.sc,r.sn,r.w,r.wn,r.u,r.un,⟨r.sm.sts,r.sm.wat,r.sm.but⟩⟩
section
variable {m:Md P B}
omit [LaidO B] in
theorem jng {x:Operand} {b a' b':Int} (ho:ops[i]?=some ⟨d,.binOp .eql t x y u,ty,pos,af,g⟩) (hw:Wt ops l g) [kh:KHeap kd S h H] [ex:OpV l x (.agg [.int .i64 a,.int .i64 b].toArray)] [ey:OpV l y (.agg [.int .i64 a',.int .i64 b'].toArray)] [KeyT P t]
  (hg:P.eqGuardType P.depth t=false) (e:a=a'∧b=b') [pf:PutV l d (.bool true) l'] (q:RegK m S ops r l' h C):RegK m S ops ((i,kd)::r) l h C:=by
 have he:=jlO (P:=P) (B:=B) (h:=H) 9998 (t:=t) a b a' b'
 have e2:(a==a'&&b==b')=true:=by simp [e]
 rw [e2] at he
 exact jjX ho hw hg he q
omit [LaidO B] in
theorem k_eqlCT {x:Operand} {b a' b':Int} {c c':Bool} (ho:ops[i]?=some ⟨d,.binOp .eql t x y u,ty,pos,af,g⟩) (hw:Wt ops l g) [kh:KHeap kd S h H] [ex:OpV l x (.agg [.bool c,.int .i64 a,.int .i64 b].toArray)] [ey:OpV l y (.agg [.bool c',.int .i64 a',.int .i64 b'].toArray)] [KeyCT P t]
  (hg:P.eqGuardType P.depth t=false) (e:c=c'∧a=a'∧b=b') [pf:PutV l d (.bool true) l'] (q:RegK m S ops r l' h C):RegK m S ops ((i,kd)::r) l h C:=by
 have he:=jgj (P:=P) (B:=B) (h:=H) 9997 (t:=t) c c' a b a' b'
 have e2:(c==c'&&(a==a'&&b==b'))=true:=by simp [e]
 rw [e2] at he
 exact jjX ho hw hg he q
end
instance:KeyT Tryz.prog 29:=⟨by kernel_rfl⟩
theorem exC_sm:TbSm exC:=⟨by decide,by decide,by decide⟩
theorem f33_x (m:Md Tryz.prog B) (h:Hp) (r:RawTb B h exN ps 2 2 pw 2 2 pb 1 1):FnC m 33 #[tbV exN ps 2 2 pw 2 2 pb 1 1,cV false 0 1,str [49,45,50,45,48]] h fun v h'=> ∃nz,h'=h++nz∧ ∃pw' cw' pb' cb',v=tbV exN ps 2 2 pw' 2 cw' pb' 1 cb'∧RdLn B nz (.slice pw' 2 cw') 2 exC.waters∧RdLn B nz (.slice pb' 1 cb') 1 exC.butts:=by
 obtain ⟨lw,hlw,rlw,hfw⟩:=r.w
 obtain ⟨lb,hlb,rlb,hfb⟩:=r.u
 have hl:lw.length=2:=rlw.elen zA
 have h2:(lw.map (·.ln)).getD 0 default=(lw.getD 0 default).ln:=ja5 _ _ zO
 have h3:(lw.getD 0 default).ln.figs.length=2:=by rw [←h2,hlw];rfl
 have hfw':=fun x hx=>(⟨(hfw x hx).1,(hfw x hx).2 ((by decide: ∀l∈exN.waters,0<l.figs.length) x.ln (hlw▸gR.2 ⟨x,hx,rfl⟩))⟩:x.ln.figs.length≤x.c∧RdS B h 1 (.slice x.p x.ln.figs.length x.c) x.ln.figs.length (jaC x.ln.figs))
 have hfb':=fun x hx=>(⟨(hfb x hx).1,(hfb x hx).2 ((by decide: ∀l∈exN.butts,0<l.figs.length) x.ln (hlb▸gR.2 ⟨x,hx,rfl⟩))⟩:x.ln.figs.length≤x.c∧RdS B h 1 (.slice x.p x.ln.figs.length x.c) x.ln.figs.length (jaC x.ln.figs))
 refine CallF.mono (f33_c m h (b:=exN) rlw rlb zO zO hfw' hfb' (by rw [hlw];decide) (by rw [hlb];decide) false 0 1 [49,45,50,45,48] zO zN zO (by simp;simp at h3;omega)) ?_
 rintro v h' ⟨nz,pw',cw',pb',cb',e1,e2,e3,e4⟩;refine ⟨nz,e1,pw',cw',pb',cb',e2,?_,?_⟩
 ·rw [hlw] at e3
  exact e3
 ·rw [hlb] at e4
  exact e4
theorem f20_c (h:Hp):FnC (Md.starC Tryz.prog B) 20 #[] h fun v h'=> ∃nw,h'=ro h++nw∧v= .bool true:=by
 refine jae Tryz.func20 rfl rfl (l:=uu320) rfl ?_
 intro cf cs K hK
 refine Z6 ?_;refine D62 ?_
 rintro v nA ⟨pA1,pA2,pA3,rfl,raA⟩;refine jaz (jad ?_);refine D62 ?_
 rintro v nB ⟨pB1,pB2,pB3,rfl,raB⟩;refine jaz (jad ?_);have raN:=exN_raw raB
 refine jay rfl zq (fun q1=>jao (jad ?_));refine jay rfl zq (fun q2=>jao (jad ?_));refine D4 ?_;refine D4 ?_;refine Z4 ?_;refine D19 ?_;refine Z3 ?_;refine D30 ?_;refine D30 ?_
 refine jay rfl zq (fun q3=>jao (jad ?_));refine jay rfl zq (fun q4=>jao (jad ?_));refine D4 ?_;refine D4 ?_;refine Z5 ?_;refine jax rfl zq zK (Post:=fun v nw=> ∃pw' cw' pb' cb',v=tbV exN pB1 2 2 pw' 2 cw' pb' 1 cb'∧RdLn B nw (.slice pw' 2 cw') 2 exC.waters∧RdLn B nw (.slice pb' 1 cb') 1 exC.butts) (fun H' hH=>f33_x _ H' (raN.keeps (sq hH))) ?_
 rintro v nC ⟨pC2,cC2,pC3,cC3,rfl,wC,uC⟩;refine jaz (jad ?_);have raC: ∀H',nB.Sublist H'→nC.Sublist H'→RawTb B H' exC pB1 2 2 pC2 2 cC2 pC3 1 cC3:=fun H' s1 s2=>⟨raB.s.keeps s1,raB.sc,raB.sn,wC.keeps s2,by omega,uC.keeps s2,by omega,exC_sm⟩
 refine jay rfl zq (fun q5=>jao (jad ?_));refine jdP ?_;refine jaf (Post:=fun v=>v= .tuple [.int .i64 96,.int .i64 184,.int .i64 12,.int .i64 0].toArray) rfl zq zK (fun H' hH=>by have:=f62_c (Md.starC Tryz.prog B) H' [49,45,63,45,48] zA;rw [if_pos jiX.1,if_pos jiX.1,if_pos jiX.1,if_pos jiX.1,jiX.2.1,jiX.2.2.1,jiX.2.2.2] at this;exact this) ?_
 rintro v rfl;refine Z4 ?_;refine jiI rfl zq ?_;refine jol rfl zq ?_;refine Z7 ?_;refine jaf (Post:=fun v=>v= .tuple [str [49,45,50,45,51],.int .i64 0].toArray) rfl zq zK (fun H' hH=>by have:=f59_c (Md.starC Tryz.prog B) H' 115;rw [if_pos zA,if_pos zA,show (115:Int).toNat=115 from rfl,ex_fig] at this;exact this) ?_
 rintro v rfl;refine Z10 ?_;refine jaf (Post:=fun v=>v= .tuple [.int .i64 11,.int .i64 0].toArray) rfl zq zK (fun H' hH=>by have:=f28_c (Md.starC Tryz.prog B) H' (b:=exT) (raA.keeps (sq hH));rw [if_pos ex_ok,jow,ex_ok] at this;exact this) ?_
 rintro v rfl;refine Z10 ?_;refine jaf (Post:=fun v=>v= .tuple [.int .i64 1,.int .i64 0].toArray) rfl zq zK (fun H' hH=>by have:=f28_c (Md.starC Tryz.prog B) H' (b:=exN) (raN.keeps (sq hH));rw [if_pos exN_ok,jmq,exN_ok] at this;exact this) ?_
 rintro v rfl;refine Z10 ?_;refine jaf (Post:=fun v=>v= .tuple [.int .i64 0,.int .i64 0].toArray) rfl zq zK (fun H' hH=>by have:=f28_c (Md.starC Tryz.prog B) H' (b:=exC) (raC H' (sq hH) (sq hH));rw [if_pos jj4,jrK,jj4] at this;exact this) ?_
 rintro v rfl;refine Z11 ?_;refine jax rfl zq zK (Post:=fun v nw=> ∃w,v= .tuple [w,.int .i64 (jaH exT (jgX exT fiC))].toArray∧RdI B nw w (jr0 exT fiC)) (fun H' hH=>f29_s _ H' (b:=exT) (raA.keeps (sq hH)) fiC (by rw [jow];decide)) ?_
 rintro v nD ⟨w,rfl,hw⟩;refine jaz (jad ?_);rw [exT_can] at hw
 rw [jeC.2.2.1];obtain ⟨pcT,ccT,rfl,rcT⟩:=hw
 refine Z10 ?_;refine jax rfl zq zK (Post:=fun v nw=> ∃w,v= .tuple [w,.int .i64 (jaH exN (jgX exN fiC))].toArray∧RdI B nw w (jr0 exN fiC)) (fun H' hH=>f29_s _ H' (b:=exN) (raN.keeps (sq hH)) fiC (by rw [jmq];decide)) ?_
 rintro v nE ⟨w,rfl,hw⟩;refine jaz (jad ?_);rw [exN_can] at hw
 rw [jeC.2.2.2.1];obtain ⟨pcN,ccN,rfl,rcN⟩:=hw
 refine Z10 ?_;refine jaf (Post:=fun v=>v= .tuple [.int .i64 0,.int .i64 0].toArray) rfl zq zK (fun H' hH=>by have:=f30_c (Md.starC Tryz.prog B) H' (b:=exT) (raA.keeps (sq hH)) buC;rw [if_pos jeC.2.2.2.2.1,jrF,jeC.2.2.2.2.1] at this;exact this) ?_
 rintro v rfl;refine Z11 ?_;refine jaf (Post:=fun v=>v= .tuple [.int .i64 2,.int .i64 0].toArray) rfl zq zK (fun H' hH=>by have:=f30_c (Md.starC Tryz.prog B) H' (b:=exN) (raN.keeps (sq hH)) buC;rw [if_pos jeC.2.2.2.2.2,jrG,jeC.2.2.2.2.2] at this;exact this) ?_
 rintro v rfl;refine Z10 ?_;refine jaf (Post:=fun v=> ∃w,v= .tuple [w,.int .i64 (tbS exT)].toArray∧IsB (tbS exT=0∧jbt (cdT exT)=true) w) rfl zq zK (fun H' hH=>f45_c _ H' (b:=exT) (raA.keeps (sq hH))) ?_
 rintro v ⟨w45,rfl,hw45⟩;obtain rfl:=isB_true hw45 ⟨ex_ok,ex_sound⟩
 rw [ex_ok];refine Z10 ?_;refine jdp rfl zq zK (f40_c _ (raC _ SubH.sub SubH.sub)) ?_
 rintro v h' ⟨nF,w40,g40,rfl,rfl,rg40,_,hl40⟩;refine Zs ?_
 obtain rfl:=jg2 (hl40 jj4) exC_few
 rw [jj4];obtain ⟨p40,c40,rfl,r40⟩:=rg40
 have raCr: ∀H',(ro nB).Sublist H'→(ro nC).Sublist H'→RawTb B H' exC pB1 2 2 pC2 2 cC2 pC3 1 cC3:=fun H' s1 s2=>⟨raB.s.ro.keeps s1,raB.sc,raB.sn,(RdLn.ro wC).keeps s2,by omega,(RdLn.ro uC).keeps s2,by omega,exC_sm⟩
 simp only [jhk,jo0,jgR,jjM]
 simp only [jhk,jo0,jgR,jjM] at r40
 refine Z9 ?_;refine jdp rfl zq zK (f41_c _ (raCr _ SubH.sub SubH.sub)) ?_
 rintro v h' ⟨nG,w41,g41,rfl,rfl,rg41,_,_,hl41⟩;refine Zs ?_
 obtain rfl:=jg2 (hl41 jj4 (by rw [jrI];decide)) jrJ
 rw [jj4];obtain ⟨p41,c41,rfl,r41⟩:=rg41
 have raAr:=raA.ro
 have raNr:=raN.ro
 have r40r:=r40.ro
 have rcTr:=rcT.ro
 have rcNr:=rcN.ro
 simp only [jhk,jo0,jgR,jjM]
 simp only [jhk,jo0,jgR,jjM] at r41 r40r
 refine Z9 ?_;refine jaf (Post:=fun v=>v= .tuple [.agg [.int .i64 96,.int .i64 132].toArray,.int .i64 0].toArray) rfl zq zK (fun H' hH=>by have:=f21_c (Md.starC Tryz.prog B) H' (b:=exN) (raNr.keeps (sq hH)) 1 96;rw [jno,jrH.1] at this;exact this) ?_
 rintro v rfl;refine Z4 ?_
 refine jay rfl zq (fun q32=>jao (jad ?_));refine D4 ?_;refine Z5 ?_;refine jaf (Post:=fun v=>v= .tuple [.agg [.int .i64 72,.int .i64 128].toArray,.int .i64 0].toArray) rfl zq zK (fun H' hH=>by have:=f23_c (Md.starC Tryz.prog B) H' (b:=exN) (raNr.keeps (sq hH)) 1 100;rw [jpv,jrH.2] at this;exact this) ?_
 rintro v rfl;refine Z4 ?_
 refine jay rfl zq (fun q34=>jao (jad ?_));refine jdP ?_;refine D48 ?_;refine Zs ?_;refine jaf (Post:=fun v=>v= .tuple [.agg [.bool false,.int .i64 0,.int .i64 1].toArray,.int .i64 6,.bool true,.int .i64 0].toArray) rfl zq zK (fun H' hH=>by have:=f50_c (Md.starC Tryz.prog B) H' (b:=exT) (raAr.keeps (sq hH));rw [jnn.2.2,jnn.1,jnn.2.1,jeC.1] at this;exact this) ?_
 rintro v rfl;refine Z4 ?_;refine jiI rfl zq ?_;refine jol rfl zq ?_
 refine jay rfl zq (fun q36=>jao (jad ?_));refine D4 ?_;refine Z8 ?_;refine jax rfl zq zK (Post:=fun v nw=>jmE B (jeq exT fiC [49,45,48,45,63]) exR nw v) (fun H' hH=>f53_c _ H' (b:=exT) (raAr.keeps (sq hH)) fiC [49,45,48,45,63] zA) ?_
 rintro v nH ⟨x0,y1,z1,w1,y2,z2,w2,y3,z3,w3,rfl,_,hz⟩;refine jaz (jad ?_);obtain ⟨psexR,nsexR,ksexR,pwexR,nwexR,cwexR,pbexR,nbexR,cbexR,eexR,raexR⟩:=hz jmo.1
 rw [eexR,jmo.1];refine Z3 ?_
 refine jay rfl zq (fun q40=>jao (jad ?_));refine D4 ?_;refine Z5 ?_;refine jaf (Post:=fun v=>v= .tuple [.int .i64 7,.int .i64 0].toArray) rfl zq zK (fun H' hH=>by have:=f28_c (Md.starC Tryz.prog B) H' (b:=exR) (raexR.keeps (sq hH));rw [if_pos jmo.2.1,jmo.2.2,jmo.2.1] at this;exact this) ?_
 rintro v rfl;refine Z11 ?_;refine jax rfl zq zK (Post:=fun v nw=>jmE B (jlT exT buC [48,45,56,45,48]) exP nw v) (fun H' hH=>f60_c _ H' (b:=exT) (raAr.keeps (sq hH)) buC [48,45,56,45,48] zA) ?_
 rintro v nP ⟨x0,y1,z1,w1,y2,z2,w2,y3,z3,w3,rfl,_,hz⟩;refine jaz (jad ?_);obtain ⟨psexP,nsexP,ksexP,pwexP,nwexP,cwexP,pbexP,nbexP,cbexP,eexP,raexP⟩:=hz jmp.1
 rw [eexP,jmp.1];refine Z3 ?_
 refine jay rfl zq (fun q44=>jao (jad ?_));refine D4 ?_;refine Z5 ?_;refine jaf (Post:=fun v=>v= .tuple [.int .i64 38,.int .i64 0].toArray) rfl zq zK (fun H' hH=>by have:=f28_c (Md.starC Tryz.prog B) H' (b:=exP) (raexP.keeps (sq hH));rw [if_pos jmp.2.1,jmp.2.2,jmp.2.1] at this;exact this) ?_
 rintro v rfl;refine Z9 ?_;refine jbm [Zf 0,Zf 1,Zf 2,Zf 3,Zf 4,Zf 5,Zf 6,Zf 7,Zf 8,Zf 9,Zf 10,Zf 11,Zf 12,Zf 13,Zf 14,Zf 15,Zf 16,Zf 17,Zf 18,Zf 19,Zf 20,Zf 21,Zf 22,Zf 23,Zf 24,Zf 25,Zf 26,Zf 27,Zf 28,Zf 29,Zf 30,Zf 31,Zf 32,Zf 33,Zf 34,Zf 35,Zf 36,Zf 37,Zf 38,Zf 39,Zf 40,Zf 41,Zf 42,Zf 43,Zf 44,Zf 45,Zf 46,Zf 47,Zf 48,Zf 49,Zf 50,Zf 51,Zf 52,Zf 53,Zf 54,Zf 55,Zf 56,Zf 57,Zf 58,Zf 59,Zf 60,Zf 61,Zf 62,Zf 63,Zf 64,Zf 65,Zf 66,Zf 67,Zf 68,Zf 69,Zf 70,Zf 71,Zf 72,Zf 73] zK zK ?_;refine Zs ?_;refine jeH rfl zq zA ?_;refine Z2 ?_;refine D117 ?_;refine D117 ?_;refine D117 ?_;refine D117 ?_;refine D117 ?_;refine D117 ?_;refine D117 ?_;refine D117 ?_;refine D105 ?_;refine D14 ?_;refine Z6 ?_;refine jbm [Zf 0,Zf 1,Zf 2,Zf 3,Zf 4,Zf 5,Zf 6,Zf 7,Zf 8,Zf 9,Zf 10,Zf 11,Zf 12,Zf 13,Zf 14,Zf 15,Zf 16,Zf 17,Zf 18,Zf 19,Zf 20,Zf 21,Zf 22,Zf 23,Zf 24,Zf 25,Zf 26,Zf 27,Zf 28,Zf 29,Zf 30,Zf 31,Zf 32,Zf 33,Zf 34,Zf 35,Zf 36,Zf 37] zK zK ?_;refine Zs ?_;refine jeH rfl zq zA ?_;refine Z2 ?_;refine D117 ?_;refine jez rfl rfl rfl ?_;refine Z3 ?_;refine D117 ?_;refine D105 ?_
 refine jb7 kdq rfl rfl zA zA rfl (fun q261=>jao (jad ?_));have rd261:RdS B [⟨true,q261,.cells [.int .i64 96,.int .i64 104,.int .i64 112,.int .i64 120,.int .i64 128].toArray 3 (0,0)⟩] 1 (.slice (some ⟨q261,0,none⟩) 5 5) 5 (jav [96,104,112,120,128]):=(OwnS.full (t:=3) (q:=q261) (cs:=jav [96,104,112,120,128]) rfl).rd (gE _)
 refine jaf (Post:=fun v=>IsB _ v) rfl rfl zK (fun H' hH=>f61_c _ H' (rcTr.keeps (sq hH)) zA (rd261.keeps (sq hH))) ?_;rintro v (⟨hc,rfl⟩|⟨hc,rfl⟩)
 ·refine D115 ?_;refine Z3 ?_
  refine jb7 kdq rfl rfl zA zA rfl (fun q267=>jao (jad ?_));have rd267:RdS B [⟨true,q267,.cells [.int .i64 96].toArray 3 (0,0)⟩] 1 (.slice (some ⟨q267,0,none⟩) 1 1) 1 (jav [96]):=(OwnS.full (t:=3) (q:=q267) (cs:=jav [96]) rfl).rd (gE _)
  refine jaf (Post:=fun v=>IsB _ v) rfl rfl zK (fun H' hH=>f61_c _ H' (rcNr.keeps (sq hH)) zA (rd267.keeps (sq hH))) ?_;rintro v (⟨hc,rfl⟩|⟨hc,rfl⟩)
  ·refine D115 ?_;refine Z5 ?_;refine jbm [Zf 0,Zf 1,Zf 2,Zf 3,Zf 4,Zf 5,Zf 6,Zf 7,Zf 8,Zf 9,Zf 10,Zf 11,Zf 12,Zf 13,Zf 14,Zf 15,Zf 16,Zf 17,Zf 18,Zf 19,Zf 20,Zf 21,Zf 22,Zf 23,Zf 24,Zf 25,Zf 26,Zf 27,Zf 28,Zf 29,Zf 30,Zf 31,Zf 32,Zf 33,Zf 34,Zf 35,Zf 36,Zf 37,Zf 38,Zf 39,Zf 40,Zf 41,Zf 42,Zf 43,Zf 44,Zf 45,Zf 46,Zf 47,Zf 48,Zf 49] zK zK ?_;refine Zs ?_;refine jeI rfl zq zA ?_;refine Z2 ?_;refine jeI rfl rfl zA ?_;refine Z6 ?_
   refine jb7 kdq rfl rfl zA zA rfl (fun q282=>jao (jad ?_));have rd282:RdS B [⟨true,q282,.cells [.int .i64 1].toArray 3 (0,0)⟩] 1 (.slice (some ⟨q282,0,none⟩) 1 1) 1 (jav [1]):=(OwnS.full (t:=3) (q:=q282) (cs:=jav [1]) rfl).rd (gE _)
   refine jaf (Post:=fun v=>IsB _ v) rfl rfl zK (fun H' hH=>f61_c _ H' (r40r.keeps (sq hH)) zA (rd282.keeps (sq hH))) ?_;rintro v (⟨hc,rfl⟩|⟨hc,rfl⟩)
   ·refine Z4 ?_
    refine jb7 kdq rfl rfl zA zA rfl (fun q287=>jao (jad ?_));have rd287:RdS B [⟨true,q287,.cells [.int .i64 1,.int .i64 5].toArray 3 (0,0)⟩] 1 (.slice (some ⟨q287,0,none⟩) 2 2) 2 (jav [1,5]):=(OwnS.full (t:=3) (q:=q287) (cs:=jav [1,5]) rfl).rd (gE _)
    refine jaf (Post:=fun v=>IsB _ v) rfl rfl zK (fun H' hH=>f61_c _ H' (r41.keeps (sq hH)) zA (rd287.keeps (sq hH))) ?_;rintro v (⟨hc,rfl⟩|⟨hc,rfl⟩)
    ·refine Z3 ?_;refine jhI rfl rfl ?_;refine k_bld rfl rfl ?_;refine jng rfl rfl zK zA ?_;refine Z2 ?_;refine jhI rfl rfl ?_;refine k_bld rfl rfl ?_;refine jng rfl rfl zK zA ?_;refine Z2 ?_;refine jhI rfl rfl ?_;refine jhI rfl rfl ?_;refine k_eqlCT rfl rfl zK zA ?_;refine Z3 ?_;refine jeI rfl rfl zA ?_;refine Z6 ?_;refine jeI rfl rfl zA ?_;refine Z3 ?_;refine jeI rfl rfl zA ?_;refine Z4 ?_;refine jac (ro h) rfl Tryz.func20 rfl jab ?_;refine Zs ?_
     exact ⟨[],by simp,rfl⟩
    ·refine Zs ?_
     exact absurd rfl hc
   ·refine Zs ?_
    exact absurd rfl hc
  ·refine Zs ?_
   exact absurd rfl hc
 ·refine Zs ?_
  exact absurd rfl hc
end
end Go.Proofs
namespace Go.Proofs
open Go.Lo
section
theorem jeF (hi:i<(jaa b).length):jcn b ((jaa b).getD i default)=true∧jbU b ((jaa b).getD i default)≠jdZ:=jbS (jaj hi)
theorem can_at (hi:i<(jaa b).length):(dA (cdT b) i).can=jdN (jbU b ((jaa b).getD i default)):=by rw [jaB b hi];rfl
theorem jej (h:tbS b=0):TbOk b:=jbf.1 h
end
theorem jdm (b:Tb) (c:Ce) (f:Str):(jbl b c f).sts=b.sts∧(jbl b c f).wrong=b.wrong:=by unfold jbl;split<;>exact ⟨rfl,rfl⟩
end Go.Proofs
namespace Go.Proofs
open Go.Lo
open Go.Conc (G)
section
variable [LaidO B]
section
variable {m:Md P B}
end
section
theorem f66_r (m:Md Tryz.prog B) (h:Hp) (r:RawTb B h b ps ns ks pw nw cw pb nb cb):FnC m 66 #[tbV b ps ns ks pw nw cw pb nb cb] h fun v h'=>h'=h∧v= .int .i64 (tbS b):=f66_c m h r.s r.sc r.sn r.sm.sts r.w r.wn r.u r.un r.sm
theorem raw_of (rds:RdS B h 1 (.slice ps ns ks) ns (jaC b.sts)) (hcs:ns≤ks) (rdw:RdLn B h (.slice pw nw cw) nw b.waters) (rdb:RdLn B h (.slice pb nb cb) nb b.butts) (hg: ¬jr7 b):RawTb B h b ps ns ks pw nw cw pb nb cb:=by
 have hml:=rds.elen zA
 have hwl:=jbG rdw
 have hbl:=jbG rdb
 have h1:ns≤20:=vm fun x=>hg (.inl zO)
 have h2:nw≤20:=vm fun x=>hg (.inr (.inl zO))
 have h3:nb≤20:=vm fun x=>hg (.inr (.inr (.inl zO)))
 exact ⟨rds,hcs,by omega,rdw,by omega,rdb,by omega,small_tb hg⟩
theorem jos (sm:TbSm b) (k:TbOk b) {c:Ce} (hc:jcn b c=true):(jbU b c).length≤100000:=by
 have h1:=jrD k hc
 have h2:=jdR hc
 unfold jaO at h2
 split at h2
 ·exact (sm.but _ h2).2 _ h1
 ·exact (sm.wat _ h2).2 _ h1
end
end
end Go.Proofs
namespace Go.Proofs.YtggpepeiedkbbaaGreatDoor
open Go Go.Lo Go.ChangeShapes Go.WideShapes Go.ChangeAt Go.RowKit Go.Conc
theorem jlm (Lk:Looks) {p:Pinned} {s:OpenSpec} {k:StoodClaim8} {ks:List StandKind} (kinds:List LaidKind) (tests:Bool) (h:Claim7.holdsNew p (.plain s) {stood:=k,kinds:=ks}) (hw:k.row.wfByText s=true):
  Claim7.holdsNew p (.plain s) {stood:=k,kinds:=ks,goes:=true,laidByText:=true,laidKinds:=kinds,laidTests:=tests,laidLooks:=Lk}:=by
 obtain ⟨_,rest⟩:=h
 exact ⟨hw,rest⟩
theorem jrZ (Lk:Looks) {p:Pinned} {s:OpenSpec} {c:OpenClaim} (kinds:List LaidKind) (tests:Bool) (har:Bool×String) (lk:Bool)
  (hc:c.holds p s) (hw:c.wfByText s=true) (htie:c.laidByTextAt Lk p kinds tests)
  (hst:c.start= .entering) (hnb:c.noBlocks=false∧c.again=false) (hm:p.checked.prog.mainIs=some (har.1,har.2.toList)) (hn:(!har.1&&har.2.isEmpty&&!lk)=false)
  (hl: ∀f fn,p.checked.prog.funcNamed c.func=some f→p.checked.prog.funcs[f]?=some fn→lk=p.checked.prog.looks []∧ ∀(j:Nat) t,fn.params[j]?=some t→p.checked.prog.wantsStandIn t=false)
  (hg:true=c.goesBy p.checked.prog):
  Claim7.holds p (.plain s) {stood:={row:=c,standIns:=[],harness:=har,looks:=lk},kinds:=[],alts:=[],goes:=true,laidByText:=true,laidKinds:=kinds,laidTests:=tests,laidLooks:=Lk}:=by
 have h6: ∀r:OpenClaim,Claim7.isSixth {stood:={row:=r,standIns:=[],harness:=har,looks:=lk},kinds:=[]}=false:=fun r=>by simpa [Claim7.isSixth] using hn
 exact ⟨jlm Lk kinds tests (Claim7.new_of_sixth hc har lk hst hnb hm (h6 c) hl) hw,(fun D hD=>by cases hD),htie,(fun h=>by cases h),hg⟩
theorem own:ownKnob Tryz.prog.godebug=none:=by kernel_rfl
theorem je2:laidOutB Tryz.prog=true:=by kernel_rfl
theorem jog:laidOutB Tryz.pinned.checked.prog=true:=je2
def laidL:List (String×DataW Unit):=[("math/bits.deBruijn32tab",Rows.laid_math_bits_deBruijn32tab),("math/bits.deBruijn64tab",Rows.laid_math_bits_deBruijn64tab),("internal/strconv.uint64pow10",Rows.laid_internal_strconv_uint64pow10),("ribband/offsets.mosts",Rows.laid_ribband_offsets_mosts),("ribband/offsets.halves",Rows.laid_ribband_offsets_halves)]
theorem joy (os:Os) (args:Array Value):laidMetH Tryz.prog laidL ((World.doorLaid Tryz.prog 36 os).forCall (fun _ _=>0) ⟨#[],args,[]⟩).memory:=by
 have d:((DataW.laidRun Tryz.prog ((World.doorLaid Tryz.prog 36 os).forCall (fun _ _=>0) ⟨#[],args,[]⟩).memory 8 ((laidL.filter fun x=>x.2.handleName?.isNone).map (·.1))).bind fun x=>
   if nodupBits 65 x.2 0&&laidRowsB Tryz.prog ((World.doorLaid Tryz.prog 36 os).forCall (fun _ _=>0) ⟨#[],args,[]⟩).memory x.2&&(laidL.filter fun x=>x.2.handleName?.isSome&&x.2.funcsIn?.isNone).all (handleAtB Tryz.prog ((World.doorLaid Tryz.prog 36 os).forCall (fun _ _=>0) ⟨#[],args,[]⟩).memory)
   then (funcsRun Tryz.prog ((World.doorLaid Tryz.prog 36 os).forCall (fun _ _=>0) ⟨#[],args,[]⟩).memory 8 ((funcsListed laidL).map (·.1))).map fun y=>(x.1,y) else none)=some (laidL.filter fun x=>x.2.handleName?.isNone,(funcsListed laidL).map (·.2.funcsOut)):=by kernel_rfl
 simp only [Option.bind_eq_some_iff] at d
 obtain ⟨x,hx,d⟩:=d
 split at d
 ·rename_i hb
  simp only [gL] at hb
  simp only [VM,VA] at d
  obtain ⟨y,hy,e1,e2⟩:=d
  exact laidMetH_of_parts3 (fuel:=8) (laidMet_of_run (ps:=x.2) 8 (by rw [hx,←e1]) (decide_eq_true (nodupBits_sound hb.1.1).1) hb.1.2) hb.2 (by rw [hy,e2])
 ·cases d
theorem str_lit {s:ByteArray} {l:List UInt8} (h:s.data.toList=l):Value.string s=str l:=by subst h;exact jp4 s
theorem jrp (h:laidMetH Tryz.prog laidL W): ∃t f,W.heap[0]?=some (.cells [str [119,97,116,101,114],.bool false,.func (.func 261) #[] #[],str [98,117,116,116],.bool true,.func (.func 262) #[] #[]].toArray t f):=by
 obtain ⟨g,t,cs,fuel,p,hg,ht,hv,hd⟩:=h.funcs (n:= "ribband/offsets.halves") (gO _ (gO _ (gO _ (gO _ (gl ..)))))
 obtain rfl:=gF ((show Tryz.prog.globalNamed "ribband/offsets.halves" =some 0 by kernel_rfl).symm.trans hg)
 obtain rfl:=gF ((show (Tryz.prog.globals[0]?).map (·.type)=some 185 by kernel_rfl).symm.trans ht)
 have hu: Tryz.prog.underlying 185=some (.array 2 184):=by kernel_rfl
 obtain ⟨fs,hs,hfs⟩: ∃fs,Tryz.prog.underlying 184=some (.struct fs)∧fs.toList.map (fun f=>(f.offset,f.type))=[(0,9),(1,4),(2,182)]:=⟨_,Tryz.underlying184,by kernel_rfl⟩
 have c3: Tryz.prog.cellsOf 184=3:=by kernel_rfl
 have k9: Tryz.prog.cellsOf 9=1:=by kernel_rfl
 have k4: Tryz.prog.cellsOf 4=1:=by kernel_rfl
 have kf: Tryz.prog.cellsOf 182=1:=by kernel_rfl
 have u9: Tryz.prog.underlying 9=some .string:=by kernel_rfl
 have u4: Tryz.prog.underlying 4=some .bool:=by kernel_rfl
 obtain ⟨qs,rs,va,hfun⟩: ∃qs rs va,Tryz.prog.underlying 182=some (.func qs rs va):=⟨_,_,_,Tryz.underlying182⟩
 obtain ⟨f0,f1,f2,rfl⟩: ∃f0 f1 f2,fs= #[f0,f1,f2]:=by
  obtain ⟨fl⟩:=fs
  have hlen:fl.length=3:=by simpa using congrArg List.length hfs
  match fl,hlen with
  |[f0,f1,f2],_=>exact ⟨_,_,_,rfl⟩
 simp only [gx,vw,Ge,VA,and_true] at hfs
 obtain ⟨⟨o0,t0⟩,⟨o1,t1⟩,o2,t2⟩:=hfs
 obtain ⟨xs,m,_,ex,hl,hxl,hx⟩:=DataW.trod_array hu hd
 have hl6:cs.toList.length=6:=hl.trans zK
 obtain ⟨cl⟩:=cs
 obtain ⟨c0,c1,c2,d0,d1,d2,rfl⟩: ∃c0 c1 c2 d0 d1 d2,cl=[c0,c1,c2,d0,d1,d2]:=by
  match cl,hl6 with
  |[c0,c1,c2,d0,d1,d2],_=>exact ⟨_,_,_,_,_,_,rfl⟩
 obtain ⟨y0,y1,rfl⟩: ∃y0 y1,xs=[y0,y1]:=by
  match xs,hxl with
  |[y0,y1],_=>exact ⟨_,_,rfl⟩
 have e2: ∃a b:List UInt8,(Rows.laid_ribband_offsets_halves:DataW Unit)= .iface "func table" (.agg [.agg [.lit (.string [119,97,116,101,114]),.lit (.bool false),.iface "func" (.lit (.string a))],.agg [.lit (.string [98,117,116,116]),.lit (.bool true),.iface "func" (.lit (.string b))]])∧
   ((List.range Tryz.prog.funcs.size).filter fun f=>(Tryz.prog.funcs[f]?).any (·.name.toUTF8.data.toList==a))=[261]∧((List.range Tryz.prog.funcs.size).filter fun f=>(Tryz.prog.funcs[f]?).any (·.name.toUTF8.data.toList==b))=[262]∧a≠[]∧b≠[]∧
   [y0.1,y1.1]=[.agg [.lit (.string [119,97,116,101,114]),.lit (.bool false),.held a],.agg [.lit (.string [98,117,116,116]),.lit (.bool true),.held b]]:=by
  refine ⟨_,_,rfl,by kernel_rfl,by kernel_rfl,by simp,by simp,?_⟩
  have:=congrArg Prod.fst ex
  simp only [DataW.funcsOut,DataW.funcsOutAll,gx,vw] at this
  injection this with this
  exact this.symm
 obtain ⟨a,b,_,fa,fb,na,nb,e3⟩:=e2
 simp only [Ge,and_true] at e3
 obtain ⟨z0,z1⟩:=e3
 have key: ∀(u0 u1 u2:Value) (y:DataW (List UInt8)×List MemPlace) (s:List UInt8) (bb:Bool) (l:List UInt8) (fn:FuncId),DataW.trod (funcToken Tryz.prog) Tryz.prog W 0 (fun _=>true) true m 184 [u0,u1,u2]=some y→y.1= .agg [.lit (.string s),.lit (.bool bb),.held l]→l≠[]→((List.range Tryz.prog.funcs.size).filter fun f=>(Tryz.prog.funcs[f]?).any (·.name.toUTF8.data.toList==l))=[fn]→u0=str s∧u1= .bool bb∧u2= .func (.func fn) #[] #[]:=by
  intro u0 u1 u2 y s bb l fn h1 h2 h3 h4
  obtain ⟨ys,k,_,ey,_,hyl,hy⟩:=DataW.trod_struct hs h1
  obtain ⟨w0,w1,w2,rfl⟩: ∃w0 w1 w2,ys=[w0,w1,w2]:=by
   match ys,hyl with
   |[w0,w1,w2],_=>exact ⟨_,_,_,rfl⟩
  have g0:=hy 0 f0 rfl
  have g1:=hy 1 f1 rfl
  have g2:=hy 2 f2 rfl
  rw [t0,o0,k9] at g0
  rw [t1,o1,k4] at g1
  rw [t2,o2,kf] at g2
  obtain ⟨s0,q0,x0,_⟩:=DataW.trod_string u9 g0
  obtain ⟨b0,q1,x1⟩:=DataW.trod_bool u4 g1
  subst ey
  simp only [gx,vw,DataW.agg.injEq,Ge,and_true] at h2
  obtain ⟨e0,e1,e2⟩:=h2
  rw [x0] at e0
  rw [x1] at e1
  have q0':=GF (show [u0]=[Value.string s0] from q0)
  have q1':=GF (show [u1]=[Value.bool b0] from q1)
  refine ⟨by rw [q0'];exact str_lit (by simpa using e0),by rw [q1'];congr 1;simpa using e1,?_⟩
  obtain ⟨w21,w22⟩:=w2
  obtain rfl:w21= .held l:=e2
  cases l with
  |nil=>exact absurd rfl h3
  |cons b0 r0=>exact func_of_trod hfun h4 g2
 have g0:=hx 0 zO
 have g1:=hx 1 zO
 rw [c3] at g0 g1
 obtain ⟨rfl,rfl,rfl⟩:=key c0 c1 c2 y0 _ _ a 261 g0 z0 na fa
 obtain ⟨rfl,rfl,rfl⟩:=key d0 d1 d2 y1 _ _ b 262 g1 z1 nb fb
 unfold World.var? at hv
 rw [hg] at hv
 simp only [VV] at hv
 split at hv
 ·rename_i cs t f hb
  obtain rfl:=gF hv
  exact ⟨t,f,hb⟩
 ·cases hv
theorem mosts_of (h:laidMetH Tryz.prog laidL W): ∃t f,W.heap[1]?=some (.cells [.int .i64 9,.int .i64 11,.int .i64 7].toArray t f):=by
 obtain ⟨ps,hl,_,_⟩:=(laidMetH_iff.1 h).1
 have e:(laidL.filter fun x=>x.2.handleName?.isNone)=[("math/bits.deBruijn32tab",Rows.laid_math_bits_deBruijn32tab),("math/bits.deBruijn64tab",Rows.laid_math_bits_deBruijn64tab),("internal/strconv.uint64pow10",Rows.laid_internal_strconv_uint64pow10),("ribband/offsets.mosts",Rows.laid_ribband_offsets_mosts)]:=by kernel_rfl
 rw [e] at hl
 obtain ⟨_,_,_,_,_,_,_,_,_,_,hl,_⟩:=hl
 obtain ⟨_,_,_,_,_,_,_,_,_,_,hl,_⟩:=hl
 obtain ⟨_,_,_,_,_,_,_,_,_,_,hl,_⟩:=hl
 obtain ⟨g,t,cs,fuel,p,q,hg,ht,hv,hd,_,_⟩:=hl
 obtain rfl:=gF ((show Tryz.prog.globalNamed "ribband/offsets.mosts" =some 1 by kernel_rfl).symm.trans hg)
 obtain rfl:=gF ((show (Tryz.prog.globals[1]?).map (·.type)=some 145 by kernel_rfl).symm.trans ht)
 have hu: Tryz.prog.underlying 145=some (.array 3 3):=by kernel_rfl
 have h3: Tryz.prog.underlying 3=some (.int .i64):=by kernel_rfl
 have c3: Tryz.prog.cellsOf 3=1:=by kernel_rfl
 obtain ⟨xs,m,_,ex,hl3,hxl,hx⟩:=DataW.trod_array hu hd
 have hl3:cs.toList.length=3:=hl3.trans zK
 obtain ⟨cl⟩:=cs
 obtain ⟨c0,c1,c2,rfl⟩: ∃c0 c1 c2,cl=[c0,c1,c2]:=by
  match cl,hl3 with
  |[c0,c1,c2],_=>exact ⟨_,_,_,rfl⟩
 obtain ⟨y0,y1,y2,rfl⟩: ∃y0 y1 y2,xs=[y0,y1,y2]:=by
  match xs,hxl with
  |[y0,y1,y2],_=>exact ⟨_,_,_,rfl⟩
 have g0:=hx 0 zO
 have g1:=hx 1 zO
 have g2:=hx 2 zO
 rw [c3] at g0 g1 g2
 obtain ⟨n0,q0,x0,_⟩:=DataW.trod_int h3 g0
 obtain ⟨n1,q1,x1,_⟩:=DataW.trod_int h3 g1
 obtain ⟨n2,q2,x2,_⟩:=DataW.trod_int h3 g2
 obtain rfl:=GF (show [c0]=[Value.int .i64 n0] from q0)
 obtain rfl:=GF (show [c1]=[Value.int .i64 n1] from q1)
 obtain rfl:=GF (show [c2]=[Value.int .i64 n2] from q2)
 have ex1:=congrArg Prod.fst ex
 have ex2:(DataW.agg [.lit (.int .i64 9),.lit (.int .i64 11),.lit (.int .i64 7)]:DataW Unit)= .agg [y0.1,y1.1,y2.1]:=ex1
 rw [x0,x1,x2] at ex2
 simp only [DataW.agg.injEq,Ge,DataW.lit.injEq,Lit.int.injEq,true_and,and_true] at ex2
 obtain ⟨rfl,rfl,rfl⟩:=ex2
 unfold World.var? at hv
 rw [hg] at hv
 simp only [VV] at hv
 split at hv
 ·rename_i cs t f hb
  obtain rfl:=gF hv
  exact ⟨t,f,hb⟩
 ·cases hv
theorem jq3 (h:laidMetH Tryz.prog laidL W):LaidO W.heap:=⟨jrp h,mosts_of h⟩
theorem jn0: Tryz.pinned.checked.prog.mainIs=some (true, "efa58da0d05803ae4d87aecc1d7dc94e05dff7fe0015b2fcbfa254297eea66aa".toList):=by kernel_rfl
theorem jlV:false= Tryz.pinned.checked.prog.looks []:=by kernel_rfl
end Go.Proofs.YtggpepeiedkbbaaGreatDoor
