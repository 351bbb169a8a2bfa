/- A part of the proof of a law. Condition of each theorem: as its statement says. -/
import Derived.Test.YtggpepeiedkbbaaGreatDoorVN8
set_option linter.all false
variable {B:Array Go.Obj} {h S h' H hb:Go.Lo.Hp} {q i k ns ks nw cw nb cb s n qx q5 q6 ch N:Nat} {t ty u:Go.TypeId} {xs lps lw lb:List Go.Lo.Lp} {junk l l' vs tv:List Go.Value} {j a:Int} {y:Go.Operand} {b:Go.Lo.Tb} {f:Go.Lo.Str} {ls lns:List Go.Lo.Ln} {ps pw pb p p2 ap pw' pb':Option Go.Addr} {v gv:Go.Value} {C:List Go.Value→Go.Lo.Hp→Prop} {r:List (Nat×Go.Lo.Kd)} {got:List Nat} {ds:List Go.Deferred} {cs:List Go.Frame} {d:Option Go.Tmp} {ys:List Int} {g:Option (Nat×Bool)} {P:Go.Program} {ops:Array Go.Oper} {kd:Go.Lo.Kd} {pos:String} {af:Array Go.Edge} {hit:Nat→Bool} {K:Go.Goroutine→Go.Lo.Hp→Prop}
set_option maxHeartbeats 4000000
set_option maxRecDepth 100000
set_option synthInstance.maxHeartbeats 1000000
set_option synthInstance.maxSize 100000
namespace Go.Proofs
open Go.Lo
open Go.Conc (G)
section
variable [LaidO B]
theorem lp_rd {t:Nat} {rw:Bool} {fr:Nat×Nat} [hh:Has h q rw (.cells (jax xs++junk).toArray t fr)] (hj:j=i) (hi:i<xs.length):Rd B h ⟨q,0+j.toNat*2+1,none⟩ (.slice (xs.getD i default).p (xs.getD i default).ln.figs.length (xs.getD i default).c):=by
 subst hj
 refine Rd.held hh.mem ?_
 have:=jbm xs
 rw [List.getElem?_toArray,List.getElem?_append_left zO,show 0+(i:Int).toNat*2+1=i*2+1 by omega,jqP xs i hi 1 zO];rfl
theorem jg1 {y:Lp} (hy:y.ln=(xs.getD i default).ln):(xs.set i y).map (·.ln)=xs.map (·.ln):=by
 refine List.ext_getElem zS fun a h1 h2=>?_
 simp only [List.getElem_map,List.getElem_set]
 split
 ·rename_i e
  subst e
  rw [hy,List.getD_eq_getElem?_getD,List.getElem?_eq_getElem (by simpa using h2)];rfl
 ·rfl
theorem jk2 (h:i<xs.length) (y:Lp):(xs.set i y).take (i+1)=xs.take i++[y]:=by
 rw [List.set_eq_take_append_cons_drop,if_pos h,List.take_append,List.length_take,show i+1-min i xs.length=1 by omega];simp [List.take_take]
theorem jlU {j:Nat} (h:i≠j) (y:Lp):(xs.set i y).getD j default=xs.getD j default:=by
 rw [List.getD_eq_getElem?_getD,List.getElem?_set_ne h,List.getD_eq_getElem?_getD]
theorem jgk {ss:List Str} (hj:j=i) (h:i<ss.length) (s:Str):SetSeg (jax ss++junk) (0+j.toNat*1) [str s] (jax (ss.set i s)++junk):=by
 subst hj
 have hl:(jax ss).length=ss.length:=by rw [jaQ,Nat.mul_one]
 refine jc5 zN ?_
 rw [Int.toNat_natCast,Nat.zero_add,Nat.mul_one,List.set_append_left _ _ zO,jc0,jc0,List.map_set]
theorem jn8 {c:Ce} (hi:i<2) (h:c.butt=decide (i=1)):hL (jbf b c f) i=ji1 (hL b i) c.line.toNat c.st.toNat f:=by
 rw [jkA _ hi,jkA _ hi,jb4,if_pos h.symm]
theorem jrk {c:Ce} (hi:i<2) (h:c.butt≠decide (i=1)):hL (jbf b c f) i=hL b i:=by
 rw [jkA _ hi,jkA _ hi,jb4,if_neg (fun e=>h e.symm)]
theorem jpF (h: ∀l∈ls,l.figs.length≤1000∧ ∀f∈l.figs,f.length≤100000) (hf:f.length≤100000): ∀l∈ji1 ls i k f,l.figs.length≤1000∧ ∀f∈l.figs,f.length≤100000:=by
 intro l hl
 rcases List.mem_or_eq_of_mem_set hl with hl|rfl
 ·exact h l hl
 ·have hd:(ls.getD i default).figs.length≤1000∧ ∀f∈(ls.getD i default).figs,f.length≤100000:=by
   by_cases hi:i<ls.length
   ·exact h _ (jak hi)
   ·rw [List.getD_eq_getElem?_getD,List.getElem?_eq_none zO];exact ⟨Nat.zero_le _,fun f hf=>by cases hf⟩
  refine ⟨by simpa using hd.1,fun g hg=>?_⟩
  rcases List.mem_or_eq_of_mem_set hg with hg|rfl
  ·exact hd.2 g hg
  ·exact hf
theorem jp6 (h:TbSm b) {c:Ce} (hf:f.length≤100000):TbSm (jbf b c f):=by
 unfold jbf
 split
 ·exact ⟨h.sts,h.wat,jpF h.but hf⟩
 ·exact ⟨h.sts,jpF h.wat hf,h.but⟩
theorem jhl (A W M:Hp) (x:Chunk):Weak B (A++[x]++W++M) (A++(W++M)):=by
 rw [List.append_assoc (A++[x])];exact (Weak.sub ((List.sublist_append_left A [x]).append_right _))
theorem jhs (e:xs.map (·.ln)=ls) (h:i<xs.length) (f:Str) (p:Option Addr) (c:Nat):(xs.set i ⟨⟨(xs.getD i default).ln.lat,(xs.getD i default).ln.figs.set k f⟩,p,c⟩).map (·.ln)=ji1 ls i k f:=by
 subst e
 rw [ji1,List.map_set];congr 1
 have:(xs.map (·.ln)).getD i default=(xs.getD i default).ln:=by
  rw [List.getD_eq_getElem?_getD,List.getElem?_map,List.getElem?_eq_getElem h,List.getD_eq_getElem?_getD,List.getElem?_eq_getElem h];rfl
 rw [this]
theorem f112_c (m:Md Tryz.prog B) (h:Hp) (rd:RdTb B h b ps ns ks pw nw cw pb nb cb) {c:Ce} (hc0:jcb b c=true) (f:Str) (hf:f.length≤100000):FnC m 112 #[tbV b ps ns ks pw nw cw pb nb cb,cV c.butt c.line c.st,str f] h fun v h'=> ∃new ps' ks' pw' cw' pb' cb',h'=h++new∧v=tbV (jbf b c f) ps' ns ks' pw' nw cw' pb' nb cb'∧RawTb B new (jbf b c f) ps' ns ks' pw' nw cw' pb' nb cb':=by
 have hsl0:=rd.sl
 have hn1:=rd.n1
 have hn3:=rd.n3
 have hw2:=rd.w2
 have hb2:=rd.b2
 refine jae Tryz.func112 rfl rfl (l:=(tbV b ps ns ks pw nw cw pb nb cb)::(cV c.butt c.line c.st)::(str f)::uu64) rfl ?_
 intro cf cs K hK
 refine Z2 ?_
 refine jaR rfl zq (fun q3=>jas (jad ?_));refine jaR rfl zq (fun q4=>jas (jad ?_));refine jaw rfl zq (fun q6=>jas (jad ?_));refine Z5 ?_;refine jaN rfl zq zK (Post:=fun v nz=>OwnS 9 1 v ns (jax b.sts) nz) (fun H' hH=>f162_c m H' (rd.s.keeps (sq hH)) zO) ?_
 rintro v n14 o14;refine jaH (jad ?_);obtain ⟨p14,c14,rfl,hc14,r14⟩:=jao (B:=B) o14
 refine Zs ?_;refine D9 ?_;refine Z4 ?_;refine jcD (vs:=halvesL) rfl zq rfl jfp ?_;refine Z3 ?_
 refine jaj (fun nn l h'=> ∃(i:Nat) (wp:Option Addr) (wc:Nat) (bp:Option Addr) (bc:Nat) (M0 M1:Hp),nn=2-i∧(i≤2)∧(i=0→pw=wp∧cw=wc∧M0=[])∧(i≤1→pb=bp∧cb=bc∧M1=[])∧(1≤i→HalfO (.slice wp nw wc) nw (hL (jbf b c f) 0) M0)∧(2≤i→HalfO (.slice bp nb bc) nb (hL (jbf b c f) 1) M1)∧(∃U:Nat→Value,l=((tbV b ps ns ks pw nw cw pb nb cb)::(cV c.butt c.line c.st)::(str f)::(.pointer (some ⟨q3,0,none⟩))::(.pointer (some ⟨q4,0,none⟩))::(U 5)::(.pointer (some ⟨q6,0,none⟩))::vw9 U 7 ((.agg halvesL.toArray)::(.int .i64 (i:Int))::vw49 U 18 [])))∧h++[⟨true,q3,.cells [.int .i64 b.wrong,.slice p14 ns c14,.slice wp nw wc,.slice bp nb bc].toArray 25 (0,0)⟩,⟨true,q4,.cells [.bool c.butt,.int .i64 c.line,.int .i64 c.st].toArray 37 (0,0)⟩,⟨true,q6,.cells [.int .i64 0,.slice none 0 0,.slice none 0 0,.slice none 0 0].toArray 25 (0,0)⟩]++n14++M0++M1=h') _ ⟨0,pw,cw,pb,cb,[],[],rfl,by omega,fun _=>⟨rfl,rfl,rfl⟩,fun _=>⟨rfl,rfl,rfl⟩,fun e=>by omega,fun e=>by omega,exU rfl,(by rw [List.append_nil,List.append_nil])⟩ ?_;rintro nn l h' ⟨i,wp,wc,bp,bc,M0,M1,rfl,hi,hz0,hz1,hz2,hz3,⟨U,rfl⟩,rfl⟩ hnext1;refine Z2 ?_
 refine jal rfl zq (fun hc=>?_) (fun hc=>?_)
 ·refine Z7 ?_
  rcases (by omega:i=0∨i=1) with rfl|rfl
  obtain ⟨rfl,rfl,rfl⟩:=hz0 rfl
  obtain ⟨rfl,rfl,rfl⟩:=hz1 zO
  obtain ⟨lps0,hle,rl,hfig⟩:=rd.w
  have hll:=rl.elen zA
  replace hle:lps0.map (·.ln)=hL b 0:=hle
  have hwf: ∀l∈hL b 0,l.figs.length=ns∧ ∀f∈l.figs,jbe f=true:=rd.wf
  rw [List.append_nil,List.append_nil];refine Zs ?_;refine jn2 rfl zq zO zO (jiw 0 zO) ?_
  rotate_left
  obtain ⟨rfl,rfl,rfl⟩:=hz1 zO
  have hh0:=hz2 zO
  obtain ⟨lps0,hle,rl,hfig⟩:=rd.u
  have hll:=rl.elen zA
  replace hle:lps0.map (·.ln)=hL b 1:=hle
  have hwf: ∀l∈hL b 1,l.figs.length=ns∧ ∀f∈l.figs,jbe f=true:=rd.bf
  rw [List.append_nil];refine Zs ?_;refine jn2 rfl zq zO zO (jiw 1 zO) ?_
  all_goals
   refine jaw rfl zq (fun q8=>jas (jad ?_));refine ji7 ?_
  ·refine Z2 ?_;refine jfT (Post:=fun v=>v= .pointer (some ⟨q3,3,none⟩)) rfl zq (jix 1 zO) (fun H' hH=>jrl m H' q3 1 zO) ?_
   rintro v rfl;refine Z9 ?_;refine jaN rfl zq zK (Post:=fun v nz=>OwnS 121 2 v nb (jax lps0) nz) (fun H' hH=>f163_c m H' (rl.keeps (sq hH)) zO) ?_
   rintro v n27 o27;refine jaH (jad ?_);obtain ⟨p27,c27,rfl,hc27,r27⟩:=jao (B:=B) o27
   refine Zs ?_;refine D9 ?_;refine Z11 ?_
   refine jaj (fun nn l h'=> ∃(k:Nat) (lps:List Lp) (W FM:Hp),nn=nb-k∧(k≤nb)∧(lps.length=nb)∧(lps.map (·.ln)=hL b 1)∧(∀j,k≤j→lps.getD j default=lps0.getD j default)∧(OwnS 121 2 (.slice p27 nb c27) nb (jax lps) W)∧(OwnF (lps.take k) FM)∧(∃U:Nat→Value,l=((tbV b ps ns ks pw nw cw pb nb cb)::(cV c.butt c.line c.st)::(str f)::(.pointer (some ⟨q3,0,none⟩))::(.pointer (some ⟨q4,0,none⟩))::(U 5)::(.pointer (some ⟨q6,0,none⟩))::(U 7)::(.pointer (some ⟨q8,0,none⟩))::(.pointer (some ⟨q3,3,none⟩))::vw6 U 10 ((.agg halvesL.toArray)::(.int .i64 1)::vw13 U 18 ((.slice p27 nb c27)::(.int .i64 (nb:Int))::(.int .i64 (k:Int))::vw33 U 34 []))))∧h++[⟨true,q3,.cells [.int .i64 b.wrong,.slice p14 ns c14,.slice wp nw wc,.slice p27 nb c27].toArray 25 (0,0)⟩,⟨true,q4,.cells [.bool c.butt,.int .i64 c.line,.int .i64 c.st].toArray 37 (0,0)⟩,⟨true,q6,.cells [.int .i64 0,.slice none 0 0,.slice none 0 0,.slice none 0 0].toArray 25 (0,0)⟩]++n14++M0++[⟨true,q8,.cells [str (hwS 1),.bool (decide (1=1)),.func (.func (261+1)) #[] #[]].toArray 184 (0,0)⟩]++W++FM=h') _ ⟨0,lps0,n27,[],rfl,by omega,hll,hle,fun j _=>rfl,o27,by rw [List.take_zero];exact .nil,exU rfl,(by rw [List.append_nil])⟩ ?_;rintro nn l h' ⟨k,lps,W,FM,rfl,hk,hlen,hmap,hsame,how,hof,⟨U,rfl⟩,rfl⟩ hnext2;refine Z2 ?_
   refine jal rfl zq (fun hc=>?_) (fun hc=>?_)
   ·refine Z7 ?_
    have rdW:=how.rd (B:=B) (List.Sublist.refl _)
    obtain ⟨bl,lc1,junk,hwv,rfl,hwl,hwc,hwn⟩:=jcr how zO
    cases hwv
    have hxk:=hsame k (Nat.le_refl k)
    obtain ⟨x,hx⟩: ∃x,x=lps0.getD k default:=⟨_,rfl⟩
    rw [←hx] at hxk
    have hxm:x∈lps0:=hx▸jak zO
    obtain ⟨hxc,rdf0⟩:=hfig x hxm
    have hxf:x.ln.figs.length=ns:=(hwf x.ln (by rw [←hle];exact List.mem_map.2 ⟨x,hxm,rfl⟩)).1
    have rdf:=rdf0 (by have:=rd.n1;omega)
    refine Z2 ?_;refine D10 ?_;refine jcD (vs:=lpL x) rfl zq rfl (hxk▸rdW.eat k zO zO) ?_
    refine jaw rfl zq (fun q11=>jas (jad ?_));refine Zs ?_;refine D5 ?_;refine Zs ?_;refine D60 ?_;refine Z6 ?_;refine D77 ?_
    rintro v n44 o44;refine jaH (jad ?_);obtain ⟨p44,c44,rfl,hc44,r44⟩:=jao (B:=B) o44
    refine D10 ?_;refine Zs ?_
    haveI hsl2:=jle (xs:=lps) (junk:=junk) (i:=k) zO (x:=⟨x.ln,p44,c44⟩) (by rw [hxk])
    refine jne ?_;refine m.weak (h':=h++[⟨true,q3,.cells [.int .i64 b.wrong,.slice p14 ns c14,.slice wp nw wc,.slice (some ⟨bl,0,none⟩) nb c27].toArray 25 (0,0)⟩,⟨true,q4,.cells [.bool c.butt,.int .i64 c.line,.int .i64 c.st].toArray 37 (0,0)⟩,⟨true,q6,.cells [.int .i64 0,.slice none 0 0,.slice none 0 0,.slice none 0 0].toArray 25 (0,0)⟩]++n14++M0++[⟨true,q8,.cells [str (hwS 1),.bool (decide (1=1)),.func (.func (261+1)) #[] #[]].toArray 184 (0,0)⟩]++[⟨true,bl,.cells (jax (lps.set k ⟨x.ln,p44,c44⟩)++junk).toArray 121 (0,0)⟩]++(FM++n44)) jen ?_
    exact E48
   ·refine Z10 ?_
    obtain rfl:nb=k:=by omega
    rw [List.take_of_length_le zO] at hof
    refine jlM rfl zq zK (fun hbt=>?_) (fun hbt=>?_)
    ·refine Z2 ?_
     have hbe:c.butt=decide (1=1):=hbt.symm
     have hce:=jcR.1 hc0
     have hlL:c.line.toNat<lps.length:=by
      have h1:(jaA b c.butt).length=nb:=by rw [hbe,←jkA b zO,←hmap,List.length_map,hlen]
      omega
     obtain ⟨li,hli⟩:=Int.eq_ofNat_of_zero_le hce.1
     obtain ⟨sj,hsj⟩:=Int.eq_ofNat_of_zero_le hce.2.2.1
     obtain ⟨M1f,Fb,M2f,rfl,hofb,hset⟩:=hof.at hlL
     obtain ⟨bl,lc1,junk,hwv,rfl,hwl,hwc,hwn⟩:=jcr how zO
     cases hwv
     rw [show c.line.toNat=li by omega] at hlL hofb hset
     obtain ⟨y,hy⟩: ∃y,y=lps.getD li default:=⟨_,rfl⟩
     rw [←hy] at hofb
     have hyl:y.ln∈hL b 1:=by rw [←hmap];exact List.mem_map.2 ⟨y,hy▸jak hlL,rfl⟩
     have hyf:y.ln.figs.length=ns:=(hwf y.ln hyl).1
     obtain ⟨bf,fc,junkf,hfv,rfl,hfl,hfc,hfn⟩:=jcr hofb zO
     injection hfv with hyp _ hyc
     haveI hsf:=jgk (ss:=y.ln.figs) (junk:=junkf) (j:=c.st) (i:=sj) hsj zO f
     refine D45 ?_;refine Z7 ?_;refine D10 ?_;refine Zs ?_;refine jbc rfl zq (lp_rd (xs:=lps) (junk:=junk) hli hlL) ?_
     rw [←hy];refine Zs ?_;refine D113 ?_;refine jne ?_
     have hy2:OwnS 9 1 (.slice y.p (y.ln.figs.set sj f).length y.c) (y.ln.figs.set sj f).length (jax (y.ln.figs.set sj f)) [⟨true,bf,.cells (jax (y.ln.figs.set sj f)++junkf).toArray 9 (0,0)⟩]:=by
      rw [hyp,hyc];exact E49
     have hnew:=hset ⟨⟨y.ln.lat,y.ln.figs.set sj f⟩,y.p,y.c⟩ _ hy2
     have hHalf:HalfO (.slice (some ⟨bl,0,none⟩) nb c27) nb (hL (jbf b c f) 1) ([⟨true,bl,.cells (jax lps++junk).toArray 121 (0,0)⟩]++(M1f++[⟨true,bf,.cells (jax (y.ln.figs.set sj f)++junkf).toArray 9 (0,0)⟩]++M2f)):=by
      refine ⟨_,_,_,_,_,rfl,?_,?_,hnew,rfl⟩
      ·rw [jn8 zO hbe,show c.line.toNat=li by omega,show c.st.toNat=sj by omega];have:=jhs hmap hlL (k:=sj) f y.p y.c
       rw [←hy] at this
       exact this
      ·rw [jc1 hlL (by rw [←hy];simp [lpL])];exact how
     refine m.weak (h':=h++[⟨true,q3,.cells [.int .i64 b.wrong,.slice p14 ns c14,.slice wp nw wc,.slice (some ⟨bl,0,none⟩) nb c27].toArray 25 (0,0)⟩,⟨true,q4,.cells [.bool c.butt,.int .i64 c.line,.int .i64 c.st].toArray 37 (0,0)⟩,⟨true,q6,.cells [.int .i64 0,.slice none 0 0,.slice none 0 0,.slice none 0 0].toArray 25 (0,0)⟩]++n14++M0++([⟨true,bl,.cells (jax lps++junk).toArray 121 (0,0)⟩]++(M1f++[⟨true,bf,.cells (jax (y.ln.figs.set sj f)++junkf).toArray 9 (0,0)⟩]++M2f))) (jhl _ _ _ _) ?_
     exact E50
    ·refine Z8 ?_
     have hHalf:HalfO (.slice p27 nb c27) nb (hL (jbf b c f) 1) (W++FM):=⟨lps,p27,c27,W,FM,rfl,by rw [jrk zO (fun e=>hbt e.symm)];exact hmap,how,hof,rfl⟩
     refine m.weak (h':=h++[⟨true,q3,.cells [.int .i64 b.wrong,.slice p14 ns c14,.slice wp nw wc,.slice p27 nb c27].toArray 25 (0,0)⟩,⟨true,q4,.cells [.bool c.butt,.int .i64 c.line,.int .i64 c.st].toArray 37 (0,0)⟩,⟨true,q6,.cells [.int .i64 0,.slice none 0 0,.slice none 0 0,.slice none 0 0].toArray 25 (0,0)⟩]++n14++M0++(W++FM)) (jhl _ _ _ _) ?_
     exact E50
  ·refine Z2 ?_;refine jfT (Post:=fun v=>v= .pointer (some ⟨q3,2,none⟩)) rfl zq (jix 0 zO) (fun H' hH=>jrl m H' q3 0 zO) ?_
   rintro v rfl;refine Z9 ?_;refine jaN rfl zq zK (Post:=fun v nz=>OwnS 121 2 v nw (jax lps0) nz) (fun H' hH=>f163_c m H' (rl.keeps (sq hH)) zO) ?_
   rintro v n27 o27;refine jaH (jad ?_);obtain ⟨p27,c27,rfl,hc27,r27⟩:=jao (B:=B) o27
   refine Zs ?_;refine D9 ?_;refine Z11 ?_
   refine jaj (fun nn l h'=> ∃(k:Nat) (lps:List Lp) (W FM:Hp),nn=nw-k∧(k≤nw)∧(lps.length=nw)∧(lps.map (·.ln)=hL b 0)∧(∀j,k≤j→lps.getD j default=lps0.getD j default)∧(OwnS 121 2 (.slice p27 nw c27) nw (jax lps) W)∧(OwnF (lps.take k) FM)∧(∃U:Nat→Value,l=((tbV b ps ns ks pw nw cw pb nb cb)::(cV c.butt c.line c.st)::(str f)::(.pointer (some ⟨q3,0,none⟩))::(.pointer (some ⟨q4,0,none⟩))::(U 5)::(.pointer (some ⟨q6,0,none⟩))::(U 7)::(.pointer (some ⟨q8,0,none⟩))::(.pointer (some ⟨q3,2,none⟩))::vw6 U 10 ((.agg halvesL.toArray)::(.int .i64 0)::vw13 U 18 ((.slice p27 nw c27)::(.int .i64 (nw:Int))::(.int .i64 (k:Int))::vw33 U 34 []))))∧h++[⟨true,q3,.cells [.int .i64 b.wrong,.slice p14 ns c14,.slice p27 nw c27,.slice pb nb cb].toArray 25 (0,0)⟩,⟨true,q4,.cells [.bool c.butt,.int .i64 c.line,.int .i64 c.st].toArray 37 (0,0)⟩,⟨true,q6,.cells [.int .i64 0,.slice none 0 0,.slice none 0 0,.slice none 0 0].toArray 25 (0,0)⟩]++n14++[⟨true,q8,.cells [str (hwS 0),.bool (decide (0=1)),.func (.func (261+0)) #[] #[]].toArray 184 (0,0)⟩]++W++FM=h') _ ⟨0,lps0,n27,[],rfl,by omega,hll,hle,fun j _=>rfl,o27,by rw [List.take_zero];exact .nil,exU rfl,(by rw [List.append_nil])⟩ ?_;rintro nn l h' ⟨k,lps,W,FM,rfl,hk,hlen,hmap,hsame,how,hof,⟨U,rfl⟩,rfl⟩ hnext2;refine Z2 ?_
   refine jal rfl zq (fun hc=>?_) (fun hc=>?_)
   ·refine Z7 ?_
    have rdW:=how.rd (B:=B) (List.Sublist.refl _)
    obtain ⟨bl,lc1,junk,hwv,rfl,hwl,hwc,hwn⟩:=jcr how zO
    cases hwv
    have hxk:=hsame k (Nat.le_refl k)
    obtain ⟨x,hx⟩: ∃x,x=lps0.getD k default:=⟨_,rfl⟩
    rw [←hx] at hxk
    have hxm:x∈lps0:=hx▸jak zO
    obtain ⟨hxc,rdf0⟩:=hfig x hxm
    have hxf:x.ln.figs.length=ns:=(hwf x.ln (by rw [←hle];exact List.mem_map.2 ⟨x,hxm,rfl⟩)).1
    have rdf:=rdf0 (by have:=rd.n1;omega)
    refine Z2 ?_;refine D10 ?_;refine jcD (vs:=lpL x) rfl zq rfl (hxk▸rdW.eat k zO zO) ?_
    refine jaw rfl zq (fun q11=>jas (jad ?_));refine Zs ?_;refine D5 ?_;refine Zs ?_;refine D60 ?_;refine Z6 ?_;refine D77 ?_
    rintro v n44 o44;refine jaH (jad ?_);obtain ⟨p44,c44,rfl,hc44,r44⟩:=jao (B:=B) o44
    refine D10 ?_;refine Zs ?_
    haveI hsl2:=jle (xs:=lps) (junk:=junk) (i:=k) zO (x:=⟨x.ln,p44,c44⟩) (by rw [hxk])
    refine jne ?_;refine m.weak (h':=h++[⟨true,q3,.cells [.int .i64 b.wrong,.slice p14 ns c14,.slice (some ⟨bl,0,none⟩) nw c27,.slice pb nb cb].toArray 25 (0,0)⟩,⟨true,q4,.cells [.bool c.butt,.int .i64 c.line,.int .i64 c.st].toArray 37 (0,0)⟩,⟨true,q6,.cells [.int .i64 0,.slice none 0 0,.slice none 0 0,.slice none 0 0].toArray 25 (0,0)⟩]++n14++[⟨true,q8,.cells [str (hwS 0),.bool (decide (0=1)),.func (.func (261+0)) #[] #[]].toArray 184 (0,0)⟩]++[⟨true,bl,.cells (jax (lps.set k ⟨x.ln,p44,c44⟩)++junk).toArray 121 (0,0)⟩]++(FM++n44)) jen ?_
    exact E48
   ·refine Z10 ?_
    obtain rfl:nw=k:=by omega
    rw [List.take_of_length_le zO] at hof
    refine jlM rfl zq zK (fun hbt=>?_) (fun hbt=>?_)
    ·refine Z2 ?_
     have hbe:c.butt=decide (0=1):=hbt.symm
     have hce:=jcR.1 hc0
     have hlL:c.line.toNat<lps.length:=by
      have h1:(jaA b c.butt).length=nw:=by rw [hbe,←jkA b zO,←hmap,List.length_map,hlen]
      omega
     obtain ⟨li,hli⟩:=Int.eq_ofNat_of_zero_le hce.1
     obtain ⟨sj,hsj⟩:=Int.eq_ofNat_of_zero_le hce.2.2.1
     obtain ⟨M1f,Fb,M2f,rfl,hofb,hset⟩:=hof.at hlL
     obtain ⟨bl,lc1,junk,hwv,rfl,hwl,hwc,hwn⟩:=jcr how zO
     cases hwv
     rw [show c.line.toNat=li by omega] at hlL hofb hset
     obtain ⟨y,hy⟩: ∃y,y=lps.getD li default:=⟨_,rfl⟩
     rw [←hy] at hofb
     have hyl:y.ln∈hL b 0:=by rw [←hmap];exact List.mem_map.2 ⟨y,hy▸jak hlL,rfl⟩
     have hyf:y.ln.figs.length=ns:=(hwf y.ln hyl).1
     obtain ⟨bf,fc,junkf,hfv,rfl,hfl,hfc,hfn⟩:=jcr hofb zO
     injection hfv with hyp _ hyc
     haveI hsf:=jgk (ss:=y.ln.figs) (junk:=junkf) (j:=c.st) (i:=sj) hsj zO f
     refine D45 ?_;refine Z7 ?_;refine D10 ?_;refine Zs ?_;refine jbc rfl zq (lp_rd (xs:=lps) (junk:=junk) hli hlL) ?_
     rw [←hy];refine Zs ?_;refine D113 ?_;refine jne ?_
     have hy2:OwnS 9 1 (.slice y.p (y.ln.figs.set sj f).length y.c) (y.ln.figs.set sj f).length (jax (y.ln.figs.set sj f)) [⟨true,bf,.cells (jax (y.ln.figs.set sj f)++junkf).toArray 9 (0,0)⟩]:=by
      rw [hyp,hyc];exact E49
     have hnew:=hset ⟨⟨y.ln.lat,y.ln.figs.set sj f⟩,y.p,y.c⟩ _ hy2
     have hHalf:HalfO (.slice (some ⟨bl,0,none⟩) nw c27) nw (hL (jbf b c f) 0) ([⟨true,bl,.cells (jax lps++junk).toArray 121 (0,0)⟩]++(M1f++[⟨true,bf,.cells (jax (y.ln.figs.set sj f)++junkf).toArray 9 (0,0)⟩]++M2f)):=by
      refine ⟨_,_,_,_,_,rfl,?_,?_,hnew,rfl⟩
      ·rw [jn8 zO hbe,show c.line.toNat=li by omega,show c.st.toNat=sj by omega];have:=jhs hmap hlL (k:=sj) f y.p y.c
       rw [←hy] at this
       exact this
      ·rw [jc1 hlL (by rw [←hy];simp [lpL])];exact how
     refine m.weak (h':=h++[⟨true,q3,.cells [.int .i64 b.wrong,.slice p14 ns c14,.slice (some ⟨bl,0,none⟩) nw c27,.slice pb nb cb].toArray 25 (0,0)⟩,⟨true,q4,.cells [.bool c.butt,.int .i64 c.line,.int .i64 c.st].toArray 37 (0,0)⟩,⟨true,q6,.cells [.int .i64 0,.slice none 0 0,.slice none 0 0,.slice none 0 0].toArray 25 (0,0)⟩]++n14++([⟨true,bl,.cells (jax lps++junk).toArray 121 (0,0)⟩]++(M1f++[⟨true,bf,.cells (jax (y.ln.figs.set sj f)++junkf).toArray 9 (0,0)⟩]++M2f))) (jhl _ _ _ _) ?_
     exact E51
    ·refine Z8 ?_
     have hHalf:HalfO (.slice p27 nw c27) nw (hL (jbf b c f) 0) (W++FM):=⟨lps,p27,c27,W,FM,rfl,by rw [jrk zO (fun e=>hbt e.symm)];exact hmap,how,hof,rfl⟩
     refine m.weak (h':=h++[⟨true,q3,.cells [.int .i64 b.wrong,.slice p14 ns c14,.slice p27 nw c27,.slice pb nb cb].toArray 25 (0,0)⟩,⟨true,q4,.cells [.bool c.butt,.int .i64 c.line,.int .i64 c.st].toArray 37 (0,0)⟩,⟨true,q6,.cells [.int .i64 0,.slice none 0 0,.slice none 0 0,.slice none 0 0].toArray 25 (0,0)⟩]++n14++(W++FM)) (jhl _ _ _ _) ?_
     exact E51
 ·refine Z5 ?_
  obtain rfl:i=2:=by omega
  obtain ⟨_,_,hw1,hwr⟩:=(hz2 zO).rd (B:=B)
  cases hw1
  obtain ⟨_,_,hb1,hbr⟩:=(hz3 zO).rd (B:=B)
  cases hb1
  refine Z2 ?_;refine jnd ?_;refine jac (h++n14++M0++M1) rfl Tryz.func112 rfl jaa ?_;refine Zs ?_
  exact ⟨n14++M0++M1,p14,c14,wp,wc,bp,bc,by simp only [List.append_assoc],by rw [tbV,tbL,setF_wrong],⟨by rw [jcX];exact r14.keeps (List.Sublist.trans (List.sublist_append_left _ _) (List.sublist_append_left _ _)),hc14,by omega,hwr.keeps (List.Sublist.trans (List.sublist_append_right _ _) (List.sublist_append_left _ _)),by omega,hbr.keeps (List.sublist_append_right _ _),by omega,jp6 rd.sm hf⟩⟩
end
section
variable [LaidO B]
def ji3 (b:Tb) (c:Ce) (f:Str):Int:=if tbS b≠0 then tbS b else if c∉jab b then 6 else if ja0 f=false then 3 else 0
def jps (b:Tb) (c:Ce) (f:Str):List Int:=if ji3 b c f=0 then jaq (jbI b c) else [0,0,0]
def jpw (b:Tb) (c:Ce) (f:Str):List Int:=if ji3 b c f=0 then jaq f else [0,0,0]
theorem jl1 {c:Ce} (h:ji3 b c f=0):tbS b=0∧c∈jab b∧ja0 f=true:=by
 unfold ji3 at h
 split at h
 ·contradiction
 ·rename_i h1
  split at h
  ·cases h
  ·rename_i h2
   split at h
   ·cases h
   ·rename_i h3
    exact ⟨Classical.not_not.1 h1,Classical.not_not.1 h2,by simpa using h3⟩
abbrev zeroL:List Value:=[.int .i64 0,.slice none 0 0,.slice none 0 0,.slice none 0 0]
def TabO (B:Array Obj) (s:Int) (b:Tb) (new:Hp) (v:Value):Prop:= ∃x0 y1 z1 w1 y2 z2 w2 y3 z3 w3,v= .tuple [.agg [Value.int .i64 x0,.slice y1 z1 w1,.slice y2 z2 w2,.slice y3 z3 w3].toArray,.int .i64 s].toArray∧(s≠0→[Value.int .i64 x0,.slice y1 z1 w1,.slice y2 z2 w2,.slice y3 z3 w3]=zeroL)∧(s=0→ ∃ps ns ks pw nw cw pb nb cb,[Value.int .i64 x0,.slice y1 z1 w1,.slice y2 z2 w2,.slice y3 z3 w3]=tbL b ps ns ks pw nw cw pb nb cb∧RawTb B new b ps ns ks pw nw cw pb nb cb)
theorem jmv {s:Int} (h:s≠0):TabO B s b [] (.tuple [.agg zeroL.toArray,.int .i64 s].toArray):=⟨_,_,_,_,_,_,_,_,_,_,rfl,fun _=>rfl,fun e=>absurd e h⟩
theorem jnh {p o:List Int} (hp:PtOk p) (ho:PtOk o):PtOk (jem p o):=by
 have e: ∀j,j<3→(jem p o).getD j 0=if p.getD j 0= -1 then o.getD j 0 else p.getD j 0:=fun j hj=>by
  rw [jem,List.getD_eq_getElem?_getD,List.getElem?_map,List.getElem?_range hj];rfl
 refine ⟨by simp [jem],fun j=>?_,fun j hj=>?_⟩
 ·by_cases hj:j<3
  ·rw [e j hj];split
   ·exact ho.lo j
   ·exact hp.lo j
  ·rw [List.getD_eq_getElem?_getD,List.getElem?_eq_none (by simp [jem];omega)];decide
 ·rw [e j hj];split
  ·exact ho.hi j hj
  ·exact hp.hi j hj
theorem digS_le (n:Nat):(jgg n).length≤2:=by unfold jgg;split<;>simp
theorem jh7 (x:Int):(jdq x).length≤2:=by unfold jdq;split;simp;exact digS_le _
theorem textS_le {v:List Int} (h:v.length=3):(jeh v).length≤8:=by
 match v,h with
 |[a,b,c],_=>
  have h1:=jh7 a
  have h2:=jh7 b
  have h3:=jh7 c
  simp [jeh,jmW]
  omega
def jfs (b:Tb) (c:Ce) (f:Str):List Int:=jem (jps b c f) (jpw b c f)
def jkl (b:Tb) (c:Ce) (f:Str):Int:=if ji3 b c f≠0 then ji3 b c f else if jem (jpw b c f) (jps b c f)≠jfs b c f then 9 else ja3 (jbf b c (jeh (jfs b c f))) 0
def putS (b:Tb) (c:Ce) (f:Str):Int:=if ji3 b c f≠0 then ji3 b c f else ja3 (jbf b c f) 0
theorem callB161:jbQ Tryz.prog 161=true:=by kernel_rfl
theorem jqQ (h:lps.map (·.ln)=ls) (k:Nat):(lps.getD k default).ln=ls.getD k default:=by
 subst h
 rw [List.getD_eq_getElem?_getD,List.getD_eq_getElem?_getD,List.getElem?_map];cases lps[k]?<;>rfl
theorem figT_sm (h:TbSm b) (c:Ce):(jbI b c).length≤100000:=by
 have gen: ∀ls:List Ln,(∀l∈ls,l.figs.length≤1000∧ ∀f∈l.figs,f.length≤100000)→ ∀i j,((ls.getD i default).figs.getD j []).length≤100000:=fun ls hl i j=>by
  by_cases hi:i<ls.length
  ·by_cases hj:j<(ls.getD i default).figs.length
   ·exact (hl _ (jak hi)).2 _ (jak (l:=(ls.getD i default).figs) hj)
   ·rw [List.getD_eq_getElem?_getD (l:=(ls.getD i default).figs),List.getElem?_eq_none zO];simp
  ·rw [List.getD_eq_getElem?_getD (l:=ls),List.getElem?_eq_none zO];simp [default,instInhabitedLn.default]
 unfold jbI jbH jaA
 split
 ·exact gen _ h.but _ _
 ·exact gen _ h.wat _ _
theorem f109_c (m:Md Tryz.prog B) (h:Hp) (ra:RawTb B h b ps ns ks pw nw cw pb nb cb) (c:Ce) (f:Str) (hf:f.length≤100000):FnC m 109 #[tbV b ps ns ks pw nw cw pb nb cb,cV c.butt c.line c.st,str f] h fun v h'=>h'=h∧v= .tuple [.agg (jat (jps b c f)).toArray,.agg (jat (jpw b c f)).toArray,.int .i64 (ji3 b c f)].toArray:=by
 refine jae Tryz.func109 rfl rfl (l:=(tbV b ps ns ks pw nw cw pb nb cb)::(cV c.butt c.line c.st)::(str f)::uu58) rfl ?_
 intro cf cs K hK
 refine Z2 ?_
 refine jaR rfl zq (fun q3=>jas (jad ?_));refine jaR rfl zq (fun q4=>jas (jad ?_));refine jaw rfl zq (fun q6=>jas (jad ?_));refine jaw rfl zq (fun q7=>jas (jad ?_));refine Z6 ?_;refine D51 ?_
 rintro v rfl;refine Z6 ?_
 refine ja9 rfl zq (fun hc=>?_) (fun hc=>?_)
 ·refine Z4 ?_;refine D47 ?_;refine D47 ?_;refine Zs ?_;refine D5 ?_;refine ji7 ?_;refine D102 ?_;refine Zs ?_
  have eb:ji3 b c f=tbS b:=by rw [ji3,if_pos hc]
  exact ⟨rfl,by rw [jps,jpw,eb,if_neg hc,if_neg hc];rfl⟩
 ·refine Z5 ?_
  have hz0:tbS b=0:=by omega
  have hk:=ja8.1 hz0
  refine jcg [0,1,2,3,4,5] zK zK (List.Sublist.refl _) ?_;refine DrawT.leaf [Zr 0,Zr 2,Zk 1,Zk 3,Zk 4,Zp 5] zK ?_;refine Z2 ?_;refine D6 ?_;rintro v nz ⟨qs,rfl,rfl⟩;refine jaH (jad ?_);refine D16 ?_
  rintro v n9 ⟨q9,rfl,sh⟩;refine jaH (jad ?_);refine jfT (Post:=fun v=>v= .int .i64 (ji2 b c)) rfl zq jol (fun H' hH=>by
   have hs9:n9.Sublist H':=List.Sublist.trans zW hH
   simpa [ji2] using f149_c m H' (sh.keeps hs9) (c:=c) (RdN.keepsN (jnB (q:=qs)) hH)) ?_
  rintro v rfl;refine Z6 ?_
  refine ja9 rfl zq (fun hc=>?_) (fun hc=>?_)
  ·refine Z4 ?_;refine D47 ?_;refine D47 ?_;refine Zs ?_;refine D5 ?_;refine ji7 ?_;refine D102 ?_;refine Zs ?_
   have hno:c∉jab b:=fun e=>by
    have hcc:=hc
    rw [ji2,if_pos e] at hcc
    exact hcc rfl
   have e6:ji3 b c f=6:=by rw [ji3,if_neg (fun e=>e hz0),if_pos hno]
   exact ⟨rfl,by rw [jps,jpw,e6,ji2,if_neg hno];rfl⟩
  ·refine Z6 ?_;refine jah (Post:=fun v=>v=_) rfl zq zK (fun H' hH=>f119_c m H' _ hf) ?_
   rintro v rfl;refine Z4 ?_;refine D37 ?_;refine Z4 ?_
   cases hfo:ja0 f
   refine Z7 ?_;refine D47 ?_;refine D47 ?_;refine D5 ?_
   haveI hsz:SetSeg (jat (jaq f)) 0 [.int .i64 0,.int .i64 0,.int .i64 0] [.int .i64 0,.int .i64 0,.int .i64 0]:=jjv (by rw [List.length_map,(jaW f).len];rfl)
   refine ji7 ?_;refine D102 ?_;refine Zs ?_
   rotate_left
   refine Z7 ?_
   all_goals
    have hin:c∈jab b:=Classical.byContradiction fun e=>by
     have hcc:=hc
     rw [ji2,if_neg e] at hcc
     omega
    have hht:=(jbs hin).1
   ·have hce:=jcR.1 hht
    obtain ⟨li,hli⟩:=Int.eq_ofNat_of_zero_le hce.1
    obtain ⟨sj,hsj⟩:=Int.eq_ofNat_of_zero_le hce.2.2.1
    have hf2:(jbI b c).length≤100000:=figT_sm ra.sm c
    have rd:=ra.rd hk
    have hsl:=rd.sl
    have e0:ji3 b c f=0:=by rw [ji3,if_neg (fun e=>e hz0),if_neg (fun e=>e hin),if_neg (by rw [hfo];simp)]
    refine Z11 ?_
    refine jdI (fun hc=>?_) (fun hc=>?_)
    ·first|replace hc:=of_decide_eq_true hc|replace hc:=of_decide_eq_false hc|skip
     refine Z6 ?_;refine D36 ?_
     have hlines: ∃p n c',RdLn B h (.slice p n c') n (jaA b c.butt)∧n≤1000∧(c.butt=true→p=pb∧n=nb∧c'=cb)∧(c.butt=false→p=pw∧n=nw∧c'=cw):=by
      cases hcb:c.butt with
      |true=>exact ⟨pb,nb,cb,ra.u,ra.un,fun _=>⟨rfl,rfl,rfl⟩,by intro e;cases e⟩
      |false=>exact ⟨pw,nw,cw,ra.w,ra.wn,(by intro e;cases e),fun _=>⟨rfl,rfl,rfl⟩⟩
     obtain ⟨pl,nl,cl,hln,hnl,hl1,hl2⟩:=hlines
     obtain ⟨lps,hle,rl,hfig⟩:=hln
     have hll:=rl.elen zA
     have hlen:(jaA b c.butt).length=nl:=by rw [←hle,List.length_map,hll]
     have hlx:li<nl:=by omega
     obtain ⟨x,hx⟩: ∃x,x=lps.getD li default:=⟨_,rfl⟩
     have hxm:x∈lps:=hx▸jak zO
     obtain ⟨hxc,rdf0⟩:=hfig x hxm
     have hxl:x.ln=jbH b c:=by rw [hx,jqQ hle,jbH,show c.line.toNat=li by omega]
     have hxf:x.ln.figs.length=ns:=by rw [hxl,((hk.lines c.butt).ok _ (jdr hht)).len,hsl]
     have hfg:jbI b c=x.ln.figs.getD sj []:=by rw [jbI,←hxl,show c.st.toNat=sj by omega]
     obtain ⟨rlb,rlo,hrlp⟩:=rl.ptr zO
     have rdf:=rdf0 zO
     obtain ⟨rfb,rfo,hrfp⟩:=rdf.ptr zO
     have rl':=rl
     rw [hrlp] at rl'
     have rdf':=rdf
     rw [hrfp] at rdf'
     first
      |(have hq:=hl1 hc;obtain ⟨rfl,rfl,rfl⟩:=hq)
      |(have hq:=hl2 hc;obtain ⟨rfl,rfl,rfl⟩:=hq)
     refine Z4 ?_;refine jci rfl zq hrlp zO zO ?_;refine Zs ?_;refine jbc (v:= .slice x.p x.ln.figs.length x.c) rfl zq (hx▸rl'.fat li 1 zO zO rfl) ?_;refine Zs ?_;refine jci rfl zq hrfp zO zO ?_;refine jbc rfl zq (rdf'.sat sj zO zO) ?_
     rw [←hfg];refine D68 ?_
     rintro v rfl;refine Z4 ?_;refine D37 ?_;refine Z2 ?_
     haveI hs1:Seg (jat (jaq f)) 0 3 (jat (jaq f)):=seg_all (by rw [List.length_map,(jaW f).len])
     haveI hs2:Seg (jat (jaq (jbI b c))) 0 3 (jat (jaq (jbI b c))):=seg_all (by rw [List.length_map,(jaW (jbI b c)).len])
     refine D64 ?_;refine D31 ?_;refine D31 ?_;refine D76 ?_;refine D76 ?_;refine Z3 ?_;refine D102 ?_;refine Zs ?_
     exact ⟨rfl,by rw [jps,jpw,e0];rfl⟩
    ·first|replace hc:=of_decide_eq_true hc|replace hc:=of_decide_eq_false hc|skip
     refine Z2 ?_;refine D36 ?_
     have hlines: ∃p n c',RdLn B h (.slice p n c') n (jaA b c.butt)∧n≤1000∧(c.butt=true→p=pb∧n=nb∧c'=cb)∧(c.butt=false→p=pw∧n=nw∧c'=cw):=by
      cases hcb:c.butt with
      |true=>exact ⟨pb,nb,cb,ra.u,ra.un,fun _=>⟨rfl,rfl,rfl⟩,by intro e;cases e⟩
      |false=>exact ⟨pw,nw,cw,ra.w,ra.wn,(by intro e;cases e),fun _=>⟨rfl,rfl,rfl⟩⟩
     obtain ⟨pl,nl,cl,hln,hnl,hl1,hl2⟩:=hlines
     obtain ⟨lps,hle,rl,hfig⟩:=hln
     have hll:=rl.elen zA
     have hlen:(jaA b c.butt).length=nl:=by rw [←hle,List.length_map,hll]
     have hlx:li<nl:=by omega
     obtain ⟨x,hx⟩: ∃x,x=lps.getD li default:=⟨_,rfl⟩
     have hxm:x∈lps:=hx▸jak zO
     obtain ⟨hxc,rdf0⟩:=hfig x hxm
     have hxl:x.ln=jbH b c:=by rw [hx,jqQ hle,jbH,show c.line.toNat=li by omega]
     have hxf:x.ln.figs.length=ns:=by rw [hxl,((hk.lines c.butt).ok _ (jdr hht)).len,hsl]
     have hfg:jbI b c=x.ln.figs.getD sj []:=by rw [jbI,←hxl,show c.st.toNat=sj by omega]
     obtain ⟨rlb,rlo,hrlp⟩:=rl.ptr zO
     have rdf:=rdf0 zO
     obtain ⟨rfb,rfo,hrfp⟩:=rdf.ptr zO
     have rl':=rl
     rw [hrlp] at rl'
     have rdf':=rdf
     rw [hrfp] at rdf'
     first
      |(have hq:=hl1 hc;obtain ⟨rfl,rfl,rfl⟩:=hq)
      |(have hq:=hl2 hc;obtain ⟨rfl,rfl,rfl⟩:=hq)
     refine Z4 ?_;refine jci rfl zq hrlp zO zO ?_;refine Zs ?_;refine jbc (v:= .slice x.p x.ln.figs.length x.c) rfl zq (hx▸rl'.fat li 1 zO zO rfl) ?_;refine Zs ?_;refine jci rfl zq hrfp zO zO ?_;refine jbc rfl zq (rdf'.sat sj zO zO) ?_
     rw [←hfg];refine D68 ?_
     rintro v rfl;refine Z4 ?_;refine D37 ?_;refine Z2 ?_
     haveI hs1:Seg (jat (jaq f)) 0 3 (jat (jaq f)):=seg_all (by rw [List.length_map,(jaW f).len])
     haveI hs2:Seg (jat (jaq (jbI b c))) 0 3 (jat (jaq (jbI b c))):=seg_all (by rw [List.length_map,(jaW (jbI b c)).len])
     refine D64 ?_;refine D31 ?_;refine D31 ?_;refine D76 ?_;refine D76 ?_;refine Z3 ?_;refine D102 ?_;refine Zs ?_
     exact ⟨rfl,by rw [jps,jpw,e0];rfl⟩
   ·have e3:ji3 b c f=3:=by rw [ji3,if_neg (fun e=>e hz0),if_neg (fun e=>e hin),if_pos hfo]
    exact ⟨rfl,by rw [jps,jpw,e3];rfl⟩
end
section
variable [LaidO B]
theorem jeo (b:Tb) (c:Ce) (f:Str):PtOk (jps b c f):=by unfold jps;split;exact jaW _;exact PtOk.zero
theorem jex (b:Tb) (c:Ce) (f:Str):PtOk (jpw b c f):=by unfold jpw;split;exact jaW _;exact PtOk.zero
theorem f111_c (m:Md Tryz.prog B) (h:Hp) (ra:RawTb B h b ps ns ks pw nw cw pb nb cb):FnC m 111 #[tbV b ps ns ks pw nw cw pb nb cb] h fun v h'=>h'=h∧ ∃x0 y1 z1 w1 y2 z2 w2 y3 z3 w3,v= .tuple [.agg [Value.int .i64 x0,.slice y1 z1 w1,.slice y2 z2 w2,.slice y3 z3 w3].toArray,.int .i64 (ja3 b 0)].toArray∧(ja3 b 0≠0→[Value.int .i64 x0,.slice y1 z1 w1,.slice y2 z2 w2,.slice y3 z3 w3]=zeroL)∧(ja3 b 0=0→[Value.int .i64 x0,.slice y1 z1 w1,.slice y2 z2 w2,.slice y3 z3 w3]=(tbL b ps ns ks pw nw cw pb nb cb)):=by
 refine jae Tryz.func111 rfl rfl (l:=(tbV b ps ns ks pw nw cw pb nb cb)::uu15) rfl ?_
 intro cf cs K hK
 refine Z2 ?_
 refine jaR rfl zq (fun q1=>jas (jad ?_));refine jaw rfl zq (fun q2=>jas (jad ?_));refine Z6 ?_;refine jaN rfl zq zK (Post:=fun v nz=>jgN B b (tbL b ps ns ks pw nw cw pb nb cb) (ja3 b 0) nz v) (fun H' hH=>f88_c m H' (ra.keeps (sq hH)) callB161 (fun hk K q hKs hs=>by simpa using f161_c m K _)) ?_
 rintro v n8 ⟨qp,p8,m8,c8,rfl,hz⟩;refine jaH (jad ?_);refine Z3 ?_
 refine jaw rfl zq (fun q4=>jas (jad ?_));refine D5 ?_;refine Z5 ?_
 refine ja9 rfl zq (fun hc=>?_) (fun hc=>?_);refine Z4 ?_;refine D34 ?_;refine Zs ?_
 rotate_left
 refine Z6 ?_
 all_goals
  refine ji7 ?_;refine jac (h) rfl Tryz.func111 rfl jaa ?_;refine Zs ?_
 ·have hz0:ja3 b 0=0:=by omega
  exact ⟨rfl,_,_,_,_,_,_,_,_,_,_,by rw [hz0],fun e=>absurd hz0 e,fun _=>rfl⟩
 ·exact ⟨rfl,_,_,_,_,_,_,_,_,_,_,rfl,fun _=>rfl,fun e=>absurd e zD⟩
theorem f60_c (m:Md Tryz.prog B) (h:Hp) (ra:RawTb B h b ps ns ks pw nw cw pb nb cb) (c:Ce) (f:Str) (hf:f.length≤100000):FnC m 60 #[tbV b ps ns ks pw nw cw pb nb cb,cV c.butt c.line c.st,str f] h fun v h'=> ∃new,h'=h++new∧TabO B (putS b c f) (jbf b c f) new v:=by
 refine jae Tryz.func60 rfl rfl (l:=(tbV b ps ns ks pw nw cw pb nb cb)::(cV c.butt c.line c.st)::(str f)::uu27) rfl ?_
 intro cf cs K hK
 refine Z2 ?_
 refine jaR rfl zq (fun q3=>jas (jad ?_));refine jaR rfl zq (fun q4=>jas (jad ?_));refine jaw rfl zq (fun q6=>jas (jad ?_));refine Z4 ?_;refine rr13 ?_;refine Z3 ?_;refine D50 ?_
 rintro v rfl;refine Z4 ?_;refine jjN rfl zq ?_
 refine jaw rfl zq (fun q8=>jas (jad ?_));refine jaw rfl zq (fun q9=>jas (jad ?_));refine D129 ?_;refine Z5 ?_
 refine ja9 rfl zq (fun hc=>?_) (fun hc=>?_)
 ·refine Z4 ?_;refine D34 ?_;refine Zs ?_;refine ji7 ?_;refine jac (h) rfl Tryz.func60 rfl jaa ?_;refine Zs ?_
  have e1:putS b c f=ji3 b c f:=by rw [putS,if_pos hc]
  exact ⟨[],by simp,by rw [e1];exact jmv hc⟩
 ·refine Z4 ?_
  have ef:ji3 b c f=0:=by omega
  obtain ⟨hz0,hin,hfo⟩:=jl1 ef
  have hk:=ja8.1 hz0
  have hht:=(jbs hin).1
  have rd:=ra.rd hk
  have e0:putS b c f=ja3 (jbf b c f) 0:=by rw [putS,if_neg (fun e=>e ef)]
  refine Z4 ?_;refine jaN rfl zq zK (Post:=fun v nz=> ∃ps' ks' pw' cw' pb' cb',v=tbV (jbf b c f) ps' ns ks' pw' nw cw' pb' nb cb'∧RawTb B nz (jbf b c f) ps' ns ks' pw' nw cw' pb' nb cb') (fun H' hH=>CallF.mono (f112_c m H' (rd.keeps (sq hH)) hht f hf) fun v h' ⟨nz,p1,k1,p2,k2,p3,k3,e1,e2,e3⟩=>⟨nz,e1,p1,k1,p2,k2,p3,k3,e2,e3⟩) ?_
  rintro v n37 ⟨p1,k1,p2,k2,p3,k3,rfl,ra2⟩;refine jaH (jad ?_);refine jah (Post:=fun v=> ∃x0 y1 z1 w1 y2 z2 w2 y3 z3 w3,v= .tuple [.agg [Value.int .i64 x0,.slice y1 z1 w1,.slice y2 z2 w2,.slice y3 z3 w3].toArray,.int .i64 (ja3 (jbf b c f) 0)].toArray∧(ja3 (jbf b c f) 0≠0→[Value.int .i64 x0,.slice y1 z1 w1,.slice y2 z2 w2,.slice y3 z3 w3]=zeroL)∧(ja3 (jbf b c f) 0=0→[Value.int .i64 x0,.slice y1 z1 w1,.slice y2 z2 w2,.slice y3 z3 w3]=tbL (jbf b c f) p1 ns k1 p2 nw k2 p3 nb k3)) rfl zq zK (fun H' hH=>f111_c m H' (ra2.keeps (List.Sublist.trans (List.sublist_append_right _ _) hH))) ?_;rintro v ⟨x0,y1,z1,w1,y2,z2,w2,y3,z3,w3,rfl,ha1,ha2⟩;refine Z3 ?_;refine ji7 ?_;refine jac (h++n37) rfl Tryz.func60 rfl jaa ?_;refine Zs ?_
  exact E52
theorem f53_c (m:Md Tryz.prog B) (h:Hp) (ra:RawTb B h b ps ns ks pw nw cw pb nb cb) (c:Ce) (f:Str) (hf:f.length≤100000):FnC m 53 #[tbV b ps ns ks pw nw cw pb nb cb,cV c.butt c.line c.st,str f] h fun v h'=> ∃new,h'=h++new∧TabO B (jkl b c f) (jbf b c (jeh (jfs b c f))) new v:=by
 refine jae Tryz.func53 rfl rfl (l:=(tbV b ps ns ks pw nw cw pb nb cb)::(cV c.butt c.line c.st)::(str f)::uu38) rfl ?_
 intro cf cs K hK
 refine Z2 ?_
 refine jaR rfl zq (fun q3=>jas (jad ?_));refine jaR rfl zq (fun q4=>jas (jad ?_));refine jaw rfl zq (fun q6=>jas (jad ?_));refine Z3 ?_;refine rr13 ?_;refine Z3 ?_;refine D50 ?_
 rintro v rfl;refine Z4 ?_;refine jjN rfl zq ?_
 refine jaw rfl zq (fun q8=>jas (jad ?_));refine jaw rfl zq (fun q9=>jas (jad ?_));refine D129 ?_;refine Z6 ?_
 refine ja9 rfl zq (fun hc=>?_) (fun hc=>?_)
 ·refine Z4 ?_;refine D34 ?_;refine Zs ?_;refine ji7 ?_;refine jac (h) rfl Tryz.func53 rfl jaa ?_;refine Zs ?_
  have e1:jkl b c f=ji3 b c f:=by rw [jkl,if_pos hc]
  exact ⟨[],by simp,by rw [e1];exact jmv hc⟩
 ·refine Z4 ?_
  have ef:ji3 b c f=0:=by omega
  obtain ⟨hz0,hin,hfo⟩:=jl1 ef
  have hk:=ja8.1 hz0
  have hht:=(jbs hin).1
  have rd:=ra.rd hk
  have hbo:PtOk (jfs b c f):=jnh (jeo b c f) (jex b c f)
  refine Zs ?_;refine jcV rfl zq (jeo b c f).len ?_;refine jcV rfl zq (jex b c f).len ?_;refine jah (Post:=fun v=>v= .agg (jat (jfs b c f)).toArray) rfl zq zK (fun H' hH=>f110_c m H' (jeo b c f).len (jex b c f).len) ?_
  rintro v rfl;refine Zs ?_
  refine jaw rfl zq (fun q11=>jas (jad ?_));refine jeB rfl zq hbo.len (by rw [hbo.len];rfl) ?_;refine Z3 ?_;refine D98 ?_;refine jcV rfl zq (jex b c f).len ?_;refine jcV rfl zq (jeo b c f).len ?_;refine jcV rfl zq hbo.len ?_;refine jah (Post:=fun v=>v= .agg (jat (jem (jpw b c f) (jps b c f))).toArray) rfl zq zK (fun H' hH=>f110_c m H' (jex b c f).len (jeo b c f).len) ?_;rintro v rfl;refine Zs ?_
  refine k_neqA3 rfl zq zK zK (jnh (jex b c f) (jeo b c f)).len hbo.len (fun hne=>?_) (fun hne=>?_)
  ·refine Z4 ?_;refine D34 ?_;refine ji7 ?_;refine jac (h) rfl Tryz.func53 rfl jaa ?_;refine Zs ?_
   have e1:jkl b c f=9:=by rw [jkl,if_neg (fun e=>e ef),if_pos hne]
   exact ⟨[],by simp,by rw [e1];exact jmv zA⟩
  ·refine Z4 ?_
   have e0:jkl b c f=ja3 (jbf b c (jeh (jfs b c f))) 0:=by rw [jkl,if_neg (fun e=>e ef),if_neg (fun e=>e hne)]
   refine jar [Zr 0,Zr 1,Zr 2,Zk 3,Zk 4,Zk 5,Zp 6,Zp 7,Zf 8,Zp 9] zK zK (List.Sublist.refl _) ?_;refine Z2 ?_;refine jcV rfl zq hbo.len ?_;refine jah (Post:=fun v=>v=str (jeh (jfs b c f))) rfl zq zK (fun H' hH=>f113_c m H' hbo) ?_;rintro v rfl;refine Zs ?_;refine jaN rfl zq zK (Post:=fun v nz=> ∃ps' ks' pw' cw' pb' cb',v=tbV (jbf b c (jeh (jfs b c f))) ps' ns ks' pw' nw cw' pb' nb cb'∧RawTb B nz (jbf b c (jeh (jfs b c f))) ps' ns ks' pw' nw cw' pb' nb cb') (fun H' hH=>CallF.mono (f112_c m H' (rd.keeps (sq hH)) hht (jeh (jfs b c f)) (Nat.le_trans (textS_le hbo.len) zO)) fun v h' ⟨nz,p1,k1,p2,k2,p3,k3,e1,e2,e3⟩=>⟨nz,e1,p1,k1,p2,k2,p3,k3,e2,e3⟩) ?_
   rintro v n37 ⟨p1,k1,p2,k2,p3,k3,rfl,ra2⟩;refine jaH (jad ?_);refine jah (Post:=fun v=> ∃x0 y1 z1 w1 y2 z2 w2 y3 z3 w3,v= .tuple [.agg [Value.int .i64 x0,.slice y1 z1 w1,.slice y2 z2 w2,.slice y3 z3 w3].toArray,.int .i64 (ja3 (jbf b c (jeh (jfs b c f))) 0)].toArray∧(ja3 (jbf b c (jeh (jfs b c f))) 0≠0→[Value.int .i64 x0,.slice y1 z1 w1,.slice y2 z2 w2,.slice y3 z3 w3]=zeroL)∧(ja3 (jbf b c (jeh (jfs b c f))) 0=0→[Value.int .i64 x0,.slice y1 z1 w1,.slice y2 z2 w2,.slice y3 z3 w3]=tbL (jbf b c (jeh (jfs b c f))) p1 ns k1 p2 nw k2 p3 nb k3)) rfl zq zK (fun H' hH=>f111_c m H' (ra2.keeps (List.Sublist.trans (List.sublist_append_right _ _) hH))) ?_;rintro v ⟨x0,y1,z1,w1,y2,z2,w2,y3,z3,w3,rfl,ha1,ha2⟩;refine Z3 ?_;refine ji7 ?_;refine jac (h++n37) rfl Tryz.func53 rfl jaa ?_;refine Zs ?_
   exact E52
end
end Go.Proofs
namespace Go.Proofs
open Go.Lo
open Go.Conc (G dcall)
section
variable {C:Crew} {Y:SyC Tryz.prog B C.pro} {kn r:Nat} {z:Bool}
theorem k_putQ {D:Nat} {b:Frame} {k:List Item} [p:PutV l d v l'] (n:(Im.quit Tryz.prog D).R (Gr b l' ds k cs)):(Im.quit Tryz.prog D).R (Gr b (put l d v) ds k cs):=by rw [p.eq];exact n
theorem addW_c (hM:C.n≤4100) (hz:C.hit kn=true→z=true) {c:Frame} (hq:(Im.quit Tryz.prog 0).R (G (c.finish (.tuple #[])) cs)):
  ((SyC.kid Tryz.prog B C.pro i).im 0 (.w kn .on z) h).R (G (Frame.enter Tryz.prog 153 [.pointer (some ⟨C.wg,0,none⟩),.int .i64 (-1)].toArray .normal) (c::cs)):=by
 refine jeD Tryz.func153 rfl rfl (l:=(.pointer (some ⟨C.wg,0,none⟩))::(.int .i64 (-1))::uu115) rfl ?_;refine Z6 ?_;refine jca (v:= .bool true) rfl zq zA (jnN zA) ?_;refine Z4 ?_;refine D108 ?_;refine y_bye hz extMerge rfl zq ?_;refine Z3 ?_;refine jhC jgC rfl zq ?_;refine Z2 ?_;refine jmY (args:=[]) rfl zq rfl zA ?_;refine Z8 ?_;refine i_ext jl3 rfl zq rfl ?_;refine Z9 ?_;refine jeE (n':=18446744073709551615) rfl zq zK zA ?_;refine jgy (v:= .int .u64 18446744069414584320) rfl zq (.inl rfl) (op_shl zA zA) ?_;refine D99 ?_;refine jeD Tryz.func199 rfl rfl (l:=(.pointer (some ⟨C.wg,0,none⟩))::(.int .u64 18446744069414584320)::uu8) rfl ?_;refine Z10 ?_;refine y_wgSub zO hM hz jof rfl zq (fun v wt hv70 hwt hvw=>?_) (jdN ?_)
 ·show (Im.quit Tryz.prog 1).R _
  refine k_putQ ?_;refine Z3 ?_;refine jcA rfl Tryz.func199 (jbB rfl) ?_;refine jgz rfl ?_;refine Z6 ?_;refine jca (v:= .int .u64 0) rfl zq zA (je9 ((jcH v wt hv70 hwt).flag)) ?_;refine D19 ?_;refine Z10 ?_;refine jgy (v:= .int .u64 (v:Int)) rfl zq (.inr rfl) (jnM zA (jcH v wt hv70 hwt).hi) ?_;refine jeE rfl zq zK (jcH v wt hv70 hwt).hi32 ?_;refine Z5 ?_;refine jca (v:= .int .u64 (wt:Int)) rfl zq zA (je9 ((jcH v wt hv70 hwt).lo)) ?_;refine jeE rfl zq zK (jcH v wt hv70 hwt).lo32 ?_;refine Z6 ?_;refine jpx rfl rfl ?_;refine D86 ?_;refine D84 ?_;refine Z13 ?_;refine D96 ?_;refine Z5 ?_;rcases (by omega:wt=0∨(wt=1∧0<v)) with rfl|⟨rfl,hv0⟩
  ·refine Z2 ?_;refine D19 ?_;refine Z17 ?_;refine jca (v:= .bool (decide ((v:Int)>0))) rfl zq zA (jlx rfl) ?_
   by_cases hv0:0<v
   ·rw [decide_eq_true (show (v:Int)>0 by omega)];refine Z3 ?_;refine D84 ?_;refine Z3 ?_;refine jcy rfl jcF ?_;refine D78 ?_
    exact hq
   ·rw [decide_eq_false (show¬(v:Int)>0 by omega)];refine Zs ?_;refine jpx rfl rfl ?_;refine jca (v:= .bool true) rfl rfl zA (jgV zA) ?_;refine Z4 ?_;refine jcy rfl jcF ?_;refine D78 ?_
    exact hq
  ·refine Z2 ?_;refine D107 ?_;refine Zs ?_;refine jpx rfl rfl ?_;refine D86 ?_;refine D84 ?_;refine Z13 ?_;refine D97 ?_;refine Z3 ?_;refine D84 ?_;refine Z3 ?_;refine jcy rfl jcF ?_;refine D78 ?_
   exact hq
 ·refine Z3 ?_;refine jcA rfl Tryz.func199 (jbB rfl) ?_;refine jgz rfl ?_;refine Z6 ?_;refine jca (v:= .int .u64 0) rfl zq zA (je9 ((jcH 0 1 zO zO).flag)) ?_;refine D19 ?_;refine Z10 ?_;refine jgy (v:= .int .u64 0) rfl zq (.inr rfl) (jnM zA (jcH 0 1 zO zO).hi) ?_;refine jeE rfl zq zK (jcH 0 1 zO zO).hi32 ?_;refine Z5 ?_;refine jca (v:= .int .u64 1) rfl zq zA (je9 ((jcH 0 1 zO zO).lo)) ?_;refine jeE rfl zq zK (jcH 0 1 zO zO).lo32 ?_;refine Z6 ?_;refine jpx rfl rfl ?_;refine D86 ?_;refine D84 ?_;refine Z13 ?_;refine jca (v:= .bool false) rfl zq zA (jnN zA) ?_;refine Z7 ?_;refine D107 ?_;refine Zs ?_;refine jpx rfl rfl ?_;refine D86 ?_;refine D84 ?_;refine Z13 ?_;refine jca (v:= .bool false) rfl zq zA (jlx zA) ?_;refine Zs ?_;refine jpx rfl rfl ?_;refine jca (v:= .bool false) rfl rfl zA (jgV zA) ?_;refine Z10 ?_;refine D99 ?_;refine D94 ?_;refine Z9 ?_
  refine jkS zO hz jiG rfl zq (jdN ?_)
  refine Z3 ?_;refine D106 ?_;refine jgz rfl ?_;refine Zs ?_;refine D19 ?_;refine Z8 ?_;refine D99 ?_;refine jeD Tryz.func202 rfl rfl (l:=(.pointer (some ⟨C.wg,0,none⟩))::(.int .u64 0)::uu7) rfl ?_;refine Z5 ?_
  refine jj4 zO hz jpg rfl zq (jdN ?_)
  refine Zs ?_;refine jo9 rfl ?_;refine jcA rfl Tryz.func202 (jcx rfl) ?_;refine jgz rfl ?_;refine Z8 ?_;refine jkz ?_;refine i_loop ?_;refine Z4 ?_;refine D107 ?_;refine Z4 ?_;refine jkz ?_;refine Z4 ?_;refine jkR extSemG rfl zq ?_
  show (Im.quit Tryz.prog 1).R _
  refine k_putQ ?_;refine Zs ?_;refine jlQ ?_;refine Z2 ?_;refine jca (v:= .int .u32 0) rfl zq zA (op_sub zA) ?_;refine Z2 ?_;refine jn7 ?_;refine Z4 ?_;refine D19 ?_;refine Z2 ?_;refine i_exit rfl ?_;refine jo9 rfl ?_;refine jcy rfl jcF ?_;refine D78 ?_;exact hq
theorem jrJ (hM:C.n≤4100) (hz:C.hit kn=true→z=true) {b:Frame} {todo:List Item} {fn:Func} {kf:Frame} (hk:b.kind= .deferred) (hf: Tryz.prog.funcs[b.fn]?=some fn) (hres:fn.results= #[]) (hkf:kf={(default:Frame) with fn:= Tryz.prog.funcs.size,defers:=[],mode:= .panicking [goexitEntry]}) (hcat:kf.catches Tryz.prog=false):
  ((SyC.kid Tryz.prog B C.pro i).im 0 (.w kn .on z) h).R (jeN b l [dcall 155 [.pointer (some ⟨C.wg,0,none⟩)].toArray] todo [kf]):=by
 refine i_unwind Tryz.func155 zK rfl rfl (l1:=[.pointer (some ⟨C.wg,0,none⟩),undef,undef,undef]) rfl ?_;refine Z2 ?_;refine i_cal rfl zq zK (addW_c hM hz ?_);refine jgz rfl ?_;refine Zs ?_;refine jo9 rfl ?_;refine i_leaveD rfl Tryz.func155 rfl rfl ?_;exact jnE hk hf hres hkf hcat
theorem addZ_c (h0:Y.i=0) (hM:C.n≤4100) {c:Frame} (hitc:(Y.im 0 (.m r .adds got false) h).R (G (c.finish (.tuple #[])) cs)):
  (Y.im 0 (.m r .idle got false) h).R (G (Frame.enter Tryz.prog 153 [.pointer (some ⟨C.wg,0,none⟩),.int .i64 1].toArray .normal) (c::cs)):=by
 refine jeD Tryz.func153 rfl rfl (l:=(.pointer (some ⟨C.wg,0,none⟩))::(.int .i64 1)::uu115) rfl ?_;refine Z6 ?_;refine jca (v:= .bool false) rfl zq zA (jnN zA) ?_;refine Z5 ?_;refine jhC jgC rfl zq ?_;refine Z2 ?_;refine jmY (args:=[]) rfl zq rfl zA ?_;refine Z8 ?_;refine i_ext jl3 rfl zq rfl ?_;refine Z9 ?_;refine jeE (n':=1) rfl zq zK zA ?_;refine jgy (v:= .int .u64 4294967296) rfl zq (.inl rfl) (op_shl zA zA) ?_;refine D99 ?_;refine jeD Tryz.func199 rfl rfl (l:=(.pointer (some ⟨C.wg,0,none⟩))::(.int .u64 4294967296)::uu8) rfl ?_;refine Z10 ?_;refine y_wgAdd h0 hM jof rfl zq (fun v hv0 hv70=>jdN ?_)
 refine Z3 ?_;refine jcA rfl Tryz.func199 (jbB rfl) ?_;refine jgz rfl ?_;refine Z6 ?_;refine jca (v:= .int .u64 0) rfl zq zA (je9 ((jcH v 0 hv70 zO).flag)) ?_;refine D19 ?_;refine Z10 ?_;refine D121 ?_;refine Z5 ?_;refine D128 ?_;refine Z6 ?_;refine jpx rfl rfl ?_;refine jca (v:= .bool true) rfl rfl zA (jlx zA) ?_;refine D84 ?_;refine Zs ?_;refine jpx rfl rfl ?_;refine jpx rfl rfl ?_;refine jeE (n':=1) rfl rfl zK zA ?_;refine jca (v:= .bool (decide ((v:Int)=1))) rfl rfl zA (jgV rfl) ?_
 by_cases hv1:v=1
 ·rw [decide_eq_true (show (v:Int)=1 by omega)];refine D84 ?_;refine Z6 ?_;refine jpA rfl zq ⟨rfl,.inr rfl⟩ jow.1 jow.2.1 jow.2.2 ?_
  refine y_said (.inl rfl) h0 extRead rfl zq (jdN ?_)
  refine Z5 ?_;refine D96 ?_;refine Z7 ?_;refine D19 ?_;refine Z17 ?_;refine D97 ?_;refine Z3 ?_;refine D84 ?_;refine Z3 ?_;refine je5 rfl jcF ?_;refine D78 ?_
  exact hitc
 ·rw [decide_eq_false (show¬(v:Int)=1 by omega)];refine D84 ?_;refine Z7 ?_;refine D96 ?_;refine Z7 ?_;refine D19 ?_;refine Z17 ?_;refine D97 ?_;refine Z3 ?_;refine D84 ?_;refine Z3 ?_;refine je5 rfl jcF ?_;refine D78 ?_
  exact hitc
theorem waitC_c (hM:C.n≤4100) {kk:Nat} {c:Frame} (hitc:(Y.im 0 (.c .done) h).R (G (c.finish (.tuple #[])) cs)):
  (Y.im 0 (.c (.look kk)) h).R (G (Frame.enter Tryz.prog 158 [.pointer (some ⟨C.wg,0,none⟩)].toArray .normal) (c::cs)):=by
 refine jeD Tryz.func158 rfl rfl (l:=(.pointer (some ⟨C.wg,0,none⟩))::uu83) rfl ?_;refine Z3 ?_;refine jhC jgC rfl zq ?_;refine Zs ?_;refine jkz ?_;refine jpB (fun nn D' s' h' l'=> ∃kk:Nat,D'=1∧s'= .c (.look kk)∧h=h'∧nn=kk*1∧ ∃U:Nat→Value,l'=((.pointer (some ⟨C.wg,0,none⟩))::vw83 U 1 [])) _ ⟨kk,rfl,rfl,rfl,rfl,exU rfl⟩ ?_;rintro nn _ _ _ _ ⟨kk,rfl,rfl,rfl,rfl,U,rfl⟩ hnext;refine jkz ?_;refine Z5 ?_;refine D99 ?_;refine D94 ?_;refine Z9 ?_;refine y_wgLoad hM jiG rfl zq (jdN ?_) (fun v hv0 hv70=>jdN ?_)
 ·refine Z3 ?_;refine D106 ?_;refine jgz rfl ?_;refine Z5 ?_;refine jgy (v:= .int .u64 0) rfl zq (.inr rfl) (jnM zA (jcH 0 0 zO zO).hi) ?_;refine jeE rfl zq zK (jcH 0 0 zO zO).hi32 ?_;refine Z5 ?_;refine jca (v:= .int .u64 0) rfl zq zA (je9 ((jcH 0 0 zO zO).lo)) ?_;refine jeE rfl zq zK (jcH 0 0 zO zO).lo32 ?_;refine Z6 ?_;refine jca (v:= .bool true) rfl zq zA (jgV zA) ?_;refine Z6 ?_;refine jnf jcF rfl zq ?_;refine Z3 ?_;refine D108 ?_;refine y_join jjU rfl zq ?_;refine Z5 ?_;refine jca (v:= .bool true) rfl zq zA (jgV zA) ?_;refine Zs ?_;refine jpx rfl rfl ?_;refine jca (v:= .int .u64 0) rfl rfl zA (je9 ((jcH 0 0 zO zO).flag)) ?_;refine jca (v:= .bool false) rfl rfl zA (jqz zA) ?_;refine D84 ?_;refine Z8 ?_;refine jcA rfl Tryz.func158 (jcx rfl) ?_
  exact hitc
 ·refine Z3 ?_;refine D106 ?_;refine jgz rfl ?_;refine Z5 ?_;refine D121 ?_;refine Z5 ?_;refine D128 ?_;refine Z6 ?_;refine jca (v:= .bool false) rfl zq zA (jgV (decide_eq_false zO)) ?_;refine Z10 ?_;refine jca (v:= .int .u64 (wgN v 1)) rfl zq zA (op_add ((jcH v 0 hv70 zO).wait)) ?_;refine D99 ?_;refine jeD Tryz.func207 rfl rfl (l:=(.pointer (some ⟨C.wg,0,none⟩))::(.int .u64 (wgN v 0))::(.int .u64 (wgN v 1))::uu10) rfl ?_;refine Z11 ?_
  refine y_wgCas extCas64 rfl zq (jdN ?_) (fun hk=>jdN ?_)
  ·refine Z3 ?_;refine jcA rfl Tryz.func207 (jbB rfl) ?_;refine jgz rfl ?_;refine Z6 ?_;refine jpx rfl rfl ?_;refine jca (v:= .bool true) rfl rfl zA (jgV zA) ?_;refine D84 ?_;refine Z6 ?_;refine jpA rfl zq ⟨rfl,.inr rfl⟩ jow.1 jow.2.1 jow.2.2 ?_
   refine y_saidC (.inr rfl) extWrite rfl zq (jdN ?_)
   refine Z9 ?_;refine jca (v:= .int .u64 0) rfl zq zA (je9 ((jcH v 0 hv70 zO).flag)) ?_;refine D19 ?_;refine Z12 ?_
   refine y_wgPark extSemW rfl zq (jdN ?_)
   refine Z6 ?_;refine D99 ?_;refine D94 ?_;refine Z9 ?_
   refine y_wgEnd jiG rfl zq (jdN ?_)
   refine Z3 ?_;refine D106 ?_;refine jgz rfl ?_;refine D19 ?_;refine Z6 ?_;refine jnf jcF rfl zq ?_;refine Z3 ?_;refine D108 ?_;refine y_join jjU rfl zq ?_;refine Z9 ?_;refine jcA rfl Tryz.func158 (jcx rfl) ?_
   exact hitc
  ·refine Z3 ?_;refine jcA rfl Tryz.func207 (jbB rfl) ?_;refine jgz rfl ?_;refine Z3 ?_;refine jlQ ?_
   exact hnext _ _ _ _ _ zO ⟨kk-1,rfl,rfl,rfl,rfl,exU rfl⟩
end
end Go.Proofs
namespace Go.Proofs
open Go.Lo
open Go.Conc (G)
section
variable [LaidO B]
theorem jb3: ∀{xs ys:List Int},xs.length=ys.length→(jrR xs ys<0↔jba xs ys=true)
 |[],[],_=>by simp [jrR,jba]
 |[],_::_,h=>by simp at h
 |_::_,[],h=>by simp at h
 |a::r,c::s,h=>by
  have ih:=jb3 (xs:=r) (ys:=s) (by simpa using h)
  unfold jrR jba
  by_cases e:a=c
  ·subst e
   rw [if_neg zO,if_neg zO,if_pos rfl];exact ih
  ·rw [if_neg e,decide_eq_true_iff];by_cases e1:a<c
   ·rw [if_pos e1];exact ⟨fun _=>e1,fun _=>by decide⟩
   ·rw [if_neg e1,if_pos zO];exact ⟨fun h=>by omega,fun h=>absurd h e1⟩
def ltW (xs ys:List Int):Bool:=decide (xs.length<ys.length)||(decide (xs.length=ys.length)&&jba xs ys)
theorem jih {xs:List Int}:ltW xs ys=true↔jdD xs ys:=by simp [ltW,jdD]
def jgJ (a:List Int) (ll:List (List Int)):List Int:=ll.foldl (fun o x=>if ltW x o then x else o) a
theorem jj2 (a:List Int) (ll:List (List Int)) (k:Nat) (h:k<ll.length):jgJ a (ll.take (k+1))=if ltW (ll.getD k []) (jgJ a (ll.take k)) then ll.getD k [] else jgJ a (ll.take k):=by
 rw [jgJ,List.take_add_one,List.getElem?_eq_getElem h,Option.toList_some,List.foldl_append,List.getD_eq_getElem?_getD,List.getElem?_eq_getElem h];rfl
theorem jiU: ∀(ll:List (List Int)) (a:List Int),jgJ a ll∈a::ll∧ ∀x∈a::ll,¬jdD x (jgJ a ll)
 |[],a=>⟨by simp [jgJ],fun x hx=>by rw [List.mem_singleton.1 hx];exact jl2 _⟩
 |y::r,a=>by
  have e:jgJ a (y::r)=jgJ (if ltW y a then y else a) r:=rfl
  obtain ⟨h1,h2⟩:=jiU r (if ltW y a then y else a)
  rw [e];by_cases hy:ltW y a=true
  ·rw [if_pos hy] at h1 h2⊢
   refine ⟨List.mem_cons_of_mem _ h1,fun x hx=>?_⟩
   rcases List.mem_cons.1 hx with rfl|hx
   ·exact fun hf=>h2 y zS (jiF (jih.1 hy) hf)
   ·exact h2 x hx
  ·rw [if_neg hy] at h1 h2⊢
   refine ⟨?_,fun x hx=>?_⟩
   ·rcases List.mem_cons.1 h1 with h1|h1
    ·rw [h1];simp
    ·simp [h1]
   ·rcases List.mem_cons.1 hx with rfl|hx
    ·exact h2 _ zS
    ·rcases List.mem_cons.1 hx with rfl|hx
     ·intro hf
      have e1: ¬jdD x a:=fun hh=>hy (jih.2 hh)
      rcases joe x a with rfl|e2|e2
      ·exact h2 x zS hf
      ·exact e1 e2
      ·exact h2 a zS (jiF e2 hf)
     ·exact h2 x (by simp [hx])
def jeM (p:List Int→Prop) (n:Nat) (g:List Int):Prop:=Asc g∧(∀x∈g,0≤x∧x<n)∧p g∧ ∀xs,Asc xs→(∀x∈xs,0≤x∧x<n)→p xs→ ¬jdD xs g
theorem jjK {p:List Int→Prop} {g g2:List Int} (h:jeM p n g) (h2:jeM p n g2):g=g2:=by
 rcases joe g g2 with e|e|e
 ·exact e
 ·exact absurd e (h2.2.2.2 g h.1 h.2.1 h.2.2.1)
 ·exact absurd e (h.2.2.2 g2 h2.1 h2.2.1 h2.2.2.1)
theorem clr_all (hn:n≤12) (hs:s<2^n):bClr .u64 ((2^n-1:Nat):Int) (s:Int)=((2^n-1-s:Nat):Int):=by
 have h:((List.range 13).all fun n=>(List.range (2^n)).all fun s=>bClr .u64 ((2^n-1:Nat):Int) (s:Int)==((2^n-1-s:Nat):Int))=true:=by kernel_rfl
 have h1:=List.all_eq_true.1 h n (List.mem_range.2 zO)
 simpa using List.all_eq_true.1 h1 s (List.mem_range.2 hs)
theorem jnJ (hs:s<2^n):jdT (2^n-1-s) n=(jdT s n).map (!·):=by
 rw [jdT,jdT,List.map_map];refine List.map_congr_left fun i hi=>?_
 rw [List.mem_range] at hi
 have:=Nat.testBit_two_pow_sub_succ hs i
 rw [show 2^n-(s+1)=2^n-1-s by omega] at this
 rw [this];simp [hi]
theorem jmd (hs:s<2^(jab b).length):jfH (cdT b) (jdT (2^(jab b).length-1-s) (jab b).length)≠[]↔jbn (jaZ (jdT s (jab b).length) (cdT b))=true:=by
 rw [jnJ hs];exact jeU (by rw [jcq,jav])
theorem callB160:jbQ Tryz.prog 160=true:=by kernel_rfl
section
variable {m:Md P B}
omit [LaidO B] in
theorem jrb {x:Operand} {b:Int} {k:IntKind} (v:Int) (ho:ops[i]?=some ⟨d,.binOp .andNot t x y u,ty,pos,af,g⟩) (hw:Wt ops l g) [KHeap kd S h H] [ex:OpV l x (.int k a)] [ey:OpV l y (.int k b)] (hv:bClr k a b=v) [PutV l d (.int k v) l'] (n:RegK m S ops r l' h C):RegK m S ops ((i,kd)::r) l h C:=
 RegK.rd (v:= .int k v) ho hw (ja1 ex.eq ey.eq zS (op_clr hv)) n
def RdK (B:Array Obj) (h:Hp) (w:Value) (xs:List Int):Prop:= ∃p c,w= .slice p xs.length c∧RdS B h 1 (.slice p xs.length c) xs.length (jat xs)∧xs.length≤c
theorem RdK.rdI {w:Value} {xs:List Int} (r:RdK B h w xs):RdI B h w xs:=by
 obtain ⟨p,c,e,r,_⟩:=r
 exact ⟨p,c,e,r⟩
theorem RdK.nil:RdK B h (.slice none 0 0) []:=⟨none,0,rfl,⟨none,0,rfl,rfl,.inl ⟨rfl,rfl⟩⟩,Nat.le_refl _⟩
end
theorem f160_c (m:Md Tryz.prog B) (h:Hp) {c:Nat} {xs:List Int} (rd:RdS B h 1 (.slice p n c) n (jat xs)) (hn:n≤1000000) {n2 c2:Nat} (rd2:RdS B h 1 (.slice p2 n2 c2) n2 (jat ys)) (hn2:n2≤1000000):FnC m 160 #[.slice p n c,.slice p2 n2 c2] h fun v h'=>h'=h∧IsB (jdD xs ys) v:=by
 have hl:=rd.ilen
 have hl2:=rd2.ilen
 refine jae Tryz.func160 rfl rfl (l:=(.slice p n c)::(.slice p2 n2 c2)::uu21) rfl ?_
 intro cf cs K hK
 refine Z5 ?_;refine ja4 [Zf 0,Zf 1,Zf 2,Zf 3,Zf 4,Zf 5,Zf 6,Zf 7,Zf 8,Zf 9,Zf 10,Zf 11,Zf 12,Zf 13,Zf 14,Zf 15,Zf 16,Zf 17,Zf 18] zK zK ?_;refine Z4 ?_
 refine jal rfl zq (fun hc=>?_) (fun hc=>?_)
 ·refine Z16 ?_;refine jac (h) rfl Tryz.func160 rfl jaa ?_;refine Zs ?_
  refine ⟨rfl,?_⟩
  unfold jdD
  first
   |exact IsB.yes (.inl zO)
   |exact E53
   |exact E54
   |exact E55
 ·refine Z2 ?_;refine jhh rfl rfl ?_;refine Zs ?_;refine jhh rfl rfl ?_
  refine jaL rfl rfl (fun hc=>?_) (fun hc=>?_)
  ·refine Z3 ?_;refine jah (Post:=fun v=>v= .int .i64 (jrR xs ys)) rfl rfl zK (fun H' hH=>f210_c m H' (rd.keeps (sq hH)) hn (rd2.keeps (sq hH))) ?_
   rintro v rfl;refine Zs ?_
   refine jal rfl rfl (fun hc=>?_) (fun hc=>?_);all_goals
    refine Z5 ?_;refine jac (h) rfl Tryz.func160 rfl jaa ?_;refine Zs ?_
    refine ⟨rfl,?_⟩
    unfold jdD
    first
     |exact IsB.yes (.inl zO)
     |exact E53
     |exact E54
     |exact E55
  ·refine Z10 ?_;refine jac (h) rfl Tryz.func160 rfl jaa ?_;refine Zs ?_
   refine ⟨rfl,?_⟩
   unfold jdD
   first
    |exact IsB.yes (.inl zO)
    |exact E53
    |exact E54
    |exact E55
theorem f159_k (m:Md Tryz.prog B) (h:Hp) {c:Nat} {ll:List (List Int)} (rdv:RdS B h 1 (.slice p ll.length c) ll.length vs) (rde:RdE B h vs ll) (hn:ll.length≤10000) (hl: ∀l∈ll,l.length≤1000) {ac:Nat} {a:List Int} (ra:RdS B h 1 (.slice ap a.length ac) a.length (jat a)) (hal:a.length≤1000) (hac:a.length≤ac):
  FnC m 159 #[.func (.func 160) #[] #[],.slice ap a.length ac,.slice p ll.length c] h fun v h'=>h'=h∧RdK B h v (jgJ a ll):=by
 refine jae Tryz.func159 rfl rfl (l:=(.func (.func 160) #[] #[])::(.slice ap a.length ac)::(.slice p ll.length c)::uu19) rfl ?_
 intro cf cs K hK
 refine Z12 ?_
 refine jaj (fun nn l h'=> ∃(k:Nat) (gp:Option Addr) (gc:Nat) (w:List Int),nn=ll.length-k∧(k≤ll.length)∧(w=jgJ a (ll.take k))∧(RdS B h 1 (.slice gp w.length gc) w.length (jat w))∧(w.length≤1000)∧(w.length≤gc)∧(∃U:Nat→Value,l=((.func (.func 160) #[] #[])::(.slice gp w.length gc)::(.slice p ll.length c)::vw6 U 3 ((.slice p ll.length c)::(.int .i64 (ll.length:Int))::(.int .i64 (k:Int))::vw10 U 12 [])))∧h=h') _ ⟨0,ap,ac,a,rfl,by omega,by rw [List.take_zero];rfl,ra,hal,hac,exU rfl,rfl⟩ ?_;rintro nn l h' ⟨k,gp,gc,w,rfl,hk,hw,hwr,hwl,hwc,⟨U,rfl⟩,rfl⟩ hnext;refine Z2 ?_
 refine jal rfl zq (fun hc=>?_) (fun hc=>?_)
 ·refine Z7 ?_
  obtain ⟨rb,ro,hrp⟩:=rdv.ptr zO
  have rdv':=rdv
  rw [hrp] at rdv'
  obtain ⟨ep,ec,ee,er⟩:=rde.2 k zO
  have hck:=rde.cap (i:=k) zO ee
  have hlk:(ll.getD k []).length≤1000:=hl _ (jqK.2 ⟨k,by omega,rfl⟩)
  refine Zs ?_;refine D62 ?_;refine jbc (v:= .slice ep (ll.getD k []).length ec) rfl zq (by rw [←ee];exact rdv'.vat k zO zO) ?_;refine Z7 ?_
  refine jfT (Post:=fun v=>IsB (jdD (ll.getD k []) w) v) rfl zq callB160 (fun H' hH=>by
   have h1:=f160_c m H' (er.keeps (sq hH)) zO (hwr.keeps (sq hH)) zO
   simpa using h1) ?_
  rintro v (⟨hc,rfl⟩|⟨hc,rfl⟩);refine Z7 ?_
  rotate_left
  refine Z4 ?_
  all_goals
   refine Z5 ?_
  ·exact m.weak jaa (hnext _ _ _ zO ⟨k+1,gp,gc,w,rfl,by omega,by rw [jj2 _ _ _ zO,←hw,if_neg (fun e=>hc (jih.1 e))],hwr,hwl,hwc,exU rfl,rfl⟩)
  ·exact m.weak jaa (hnext _ _ _ zO ⟨k+1,ep,ec,ll.getD k [],rfl,by omega,by rw [jj2 _ _ _ zO,←hw,if_pos (jih.2 hc)],er,hlk,hck,exU rfl,rfl⟩)
 ·refine Z10 ?_;refine jac (h) rfl Tryz.func159 rfl jaa ?_;refine Zs ?_
  obtain rfl:k=ll.length:=by omega
  rw [List.take_of_length_le zO] at hw
  rw [←hw];exact ⟨rfl,gp,gc,rfl,hwr,hwc⟩
theorem f105_c (m:Md Tryz.prog B) (h:Hp) (sh:Sheet B h b q tv) (rx:Rd B h ⟨qx,0,none⟩ (.pointer (some ⟨q,0,none⟩))) (hs:s<2^(jab b).length):FnC m 105 #[.int .u64 (s:Int),.pointer (some ⟨qx,0,none⟩)] h fun v h'=>h'=h∧IsB (¬jbn (jaZ (jdT s (jab b).length) (cdT b))=true) v:=by
 have h12:=sh.twelve
 obtain ⟨pc,cc,hcv,hcc,hcr⟩:=sh.cells
 have hs2:2^(jab b).length-1-s<4096:=by
  have:=Nat.pow_le_pow_right (show 0<2 by omega) h12
  omega
 refine jae Tryz.func105 rfl rfl (l:=(.int .u64 (s:Int))::(.pointer (some ⟨qx,0,none⟩))::uu13) rfl ?_
 intro cf cs K hK
 refine Z5 ?_;refine jar [Zp 7,Zr 0,Zr 1,Zp 2,Zp 3,Zr 4,Zp 5,Zk 6,Zp 8,Zk 9,Zp 10,Zp 11] zK zK (List.Sublist.refl _) ?_;refine Zs ?_;refine D110 ?_;refine D110 ?_;refine Z2 ?_;refine D63 ?_;refine Zs ?_;refine jah (Post:=fun v=>v= .int .u64 ((2^(jab b).length-1:Nat):Int)) rfl zq zK (fun H' hH=>f106_c m H' _ h12) ?_
 rintro v rfl;refine Zs ?_;refine jrb ((2^(jab b).length-1-s:Nat):Int) rfl zq (clr_all h12 hs) ?_;refine jah (Post:=fun v=>IsB _ v) rfl zq zK (fun H' hH=>f104_c m H' (sh.keeps (sq hH)) hs2) ?_
 rintro v (⟨hc,rfl⟩|⟨hc,rfl⟩);refine Z2 ?_
 rotate_left
 refine Z2 ?_
 all_goals
  refine Z3 ?_;refine jac (h) rfl Tryz.func105 rfl jaa ?_;refine Zs ?_
  first|exact ⟨rfl,IsB.no fun e=>e ((jmd hs).1 hc)⟩|exact ⟨rfl,IsB.yes fun e=>hc ((jmd hs).2 e)⟩
end
section
variable [LaidO B]
def jkL (N:Nat) (hit:Nat→Bool) (q6 ch:Nat):Crew:=⟨N,hit,fun k v hp=>OwnS 3 1 v (jbi k 12).length (jat (jbi k 12)) hp,q6,203,ch⟩
theorem callB154:jbQ Tryz.prog 154=true:=by kernel_rfl
theorem callB157:jbQ Tryz.prog 157=true:=by kernel_rfl
theorem jez:(kidF Tryz.prog).catches Tryz.prog=false:=by kernel_rfl
def Asks (B:Array Obj) (gv:Value) (hb:Hp) (N:Nat) (hit:Nat→Bool):Prop:= ∀(m:Md Tryz.prog B) (k:Nat) (H':Hp),k<N→hb.Sublist H'→CallV m gv [.int .u64 (k:Int)] H' fun v h'=>h'=H'∧IsB (hit k=true) v
theorem kid154 {q3 q7 kn:Nat} (hN:N≤4096) (hk:kn<N) (hg:Asks B gv hb N hit):
  ((SyC.kid Tryz.prog B (jkL N hit q6 ch).pro i).im 0 (.w kn .on false) (hb++[⟨false,q3,.cells [gv].toArray 141 (0,0)⟩,⟨false,q5,.cells [.chan (some ch)].toArray 193 (0,0)⟩,⟨true,q7,.cells [.int .u64 (kn:Int)].toArray 134 (0,0)⟩])).R (kid0 Tryz.prog {target:= .fn (.func 154) [.pointer (some ⟨q6,0,none⟩),.pointer (some ⟨q3,0,none⟩),.pointer (some ⟨q7,0,none⟩),.pointer (some ⟨q5,0,none⟩)].toArray,args:= #[]++ #[]}):=by
 have hM:(jkL N hit q6 ch).n≤4100:=show N≤4100 by omega
 refine jjL (hg:=fun e=>e) (al:=[.pointer (some ⟨q6,0,none⟩),.pointer (some ⟨q3,0,none⟩),.pointer (some ⟨q7,0,none⟩),.pointer (some ⟨q5,0,none⟩)]) (l:=(.pointer (some ⟨q6,0,none⟩))::(.pointer (some ⟨q3,0,none⟩))::(.pointer (some ⟨q7,0,none⟩))::(.pointer (some ⟨q5,0,none⟩))::uu6) callB154 Tryz.func154 rfl rfl rfl rfl ?_;refine Md.kidC.to (hg:=fun e=>e) ?_;refine Zs ?_;refine Md.kidC.of ?_;refine Zs ?_;refine jmY rfl zq rfl zA ?_;refine Zs ?_;refine Md.kidC.to (hg:=fun e=>e) ?_;refine Z4 ?_;refine jgw rfl zq (hg _ kn _ hk SubH.sub) ?_
 rintro _ _ ⟨rfl,⟨hc,rfl⟩|⟨hc,rfl⟩⟩
 ·refine Z3 ?_;refine jqc 3 [Zr 0,Zr 1,Zc 2] [0,1,2,3] zK zK zK (List.Sublist.refl _) ?_;refine Z2 ?_;refine jaN rfl zq zK (fun H' hH=>f156_c _ H' kn zO) ?_
  rintro v new ov;refine Z2 ?_;refine Md.kidC.of ?_;refine SyC.weaken (h':=[]++new) (by rw [List.nil_append];exact jaa) ?_;refine y_send (hr:=[]) (hp:=new) rfl hc ov ?_;refine Zs ?_;refine jo9 rfl ?_
  exact jrJ hM (fun _=>rfl) rfl Tryz.func154 rfl rfl jez
 ·refine Z4 ?_;refine Md.kidC.of ?_;refine jo9 rfl ?_
  exact jrJ hM (fun e=>absurd e hc) rfl Tryz.func154 rfl rfl jez
theorem kid157 (hN:N≤4096):
  ((SyC.kid Tryz.prog B (jkL N hit q6 ch).pro i).im 0 (.c (.look N)) (hb++[⟨false,q5,.cells [.chan (some ch)].toArray 193 (0,0)⟩])).R (kid0 Tryz.prog {target:= .fn (.func 157) [.pointer (some ⟨q6,0,none⟩),.pointer (some ⟨q5,0,none⟩)].toArray,args:= #[]++ #[]}):=by
 have hM:(jkL N hit q6 ch).n≤4100:=show N≤4100 by omega
 refine jjL (hg:=fun e=>e) (al:=[.pointer (some ⟨q6,0,none⟩),.pointer (some ⟨q5,0,none⟩)]) (l:=[.pointer (some ⟨q6,0,none⟩),.pointer (some ⟨q5,0,none⟩),undef,undef]) callB157 Tryz.func157 rfl rfl rfl rfl ?_;refine Md.kidC.to (hg:=fun e=>e) ?_;refine Zs ?_;refine Md.kidC.of ?_;refine Zs ?_
 refine i_cal rfl zq zK (waitC_c hM ?_);refine jgz rfl ?_;refine Zs ?_;refine Md.kidC.to (hg:=fun e=>e) ?_;refine D109 ?_;refine Z2 ?_;refine Md.kidC.of ?_;refine SyC.weaken (h':=[]) (Weak.sub (List.nil_sublist _)) ?_;refine y_close zA rfl ?_;show (Im.quit Tryz.prog 0).R _
 refine Zs ?_;refine jo9 rfl ?_
 exact jnE rfl Tryz.func157 rfl rfl jez
end
section
variable [LaidO B]
theorem jfg {mm:Nat} (h:mm<2^k):jbv (jbi mm k)=mm:=by
 refine Nat.eq_of_testBit_eq fun i=>?_
 rw [jfC fun z hz=>by obtain ⟨j,_,rfl,_⟩:=jcC.1 hz;omega];by_cases hi:i<k
 ·by_cases hb:mm.testBit i=true
  ·rw [hb,decide_eq_true_iff];exact jcC.2 ⟨i,hi,rfl,(jcG mm i).2 hb⟩
  ·rw [Bool.not_eq_true] at hb
   rw [hb,decide_eq_false_iff_not];intro hz
   obtain ⟨j,_,e,h2⟩:=jcC.1 hz
   obtain rfl:i=j:=by omega
   rw [(jcG mm i).1 h2] at hb
   cases hb
 ·have h1:mm.testBit i=false:=Nat.testBit_lt_two_pow (Nat.lt_of_lt_of_le h (Nat.pow_le_pow_right zO zO))
  rw [h1,decide_eq_false_iff_not];intro hz
  obtain ⟨j,hj,e,_⟩:=jcC.1 hz
  omega
theorem keptI_in {mm:Nat} (h:mm<2^n): ∀x∈jbi mm k,0≤x∧x<(n:Int):=fun x hx=>by
 obtain ⟨j,_,rfl,h2⟩:=jcC.1 hx
 refine ⟨by omega,?_⟩
 rcases Nat.lt_or_ge j n with hj|hj
 ·omega
 ·have:=Nat.testBit_lt_two_pow (Nat.lt_of_lt_of_le h (Nat.pow_le_pow_right (show 0<2 by omega) hj))
  rw [(jcG mm j).1 h2] at this
  cases this
def llW (got:List Nat):List (List Int):=got.map fun k=>jbi k 12
theorem jnT (got:List Nat) (k:Nat):llW (got++[k])=llW got++[jbi k 12]:=by simp [llW]
theorem llW_len (got:List Nat):(llW got).length=got.length:=List.length_map _
theorem got_le (h: ∀k∈got,k<n) (hd:got.Nodup):got.length≤n:=by
 have:=List.Nodup.length_le_of_subset (l₂:=List.range n) hd fun z hz=>List.mem_range.2 (h z hz)
 rwa [List.length_range] at this
theorem jpf (hn:n≤12) (hall: ∀k,k∈got↔k<2^n∧hit k=true) (h1:hit (2^n-1)=true):jeM (fun l=>hit (jbv l)=true) n (jgJ (jbi (2^n-1) 12) (llW got)):=by
 obtain ⟨hm,hb⟩:=jiU (llW got) (jbi (2^n-1) 12)
 have hp:0<2^n:=Nat.two_pow_pos n
 have h12:2^n≤2^12:=Nat.pow_le_pow_right zO hn
 obtain ⟨k,hk,hh,e⟩: ∃k,k<2^n∧hit k=true∧jgJ (jbi (2^n-1) 12) (llW got)=jbi k 12:=by
  rcases List.mem_cons.1 hm with hm|hm
  ·exact ⟨2^n-1,by omega,h1,hm⟩
  ·obtain ⟨k,hk,e⟩:=List.mem_map.1 hm
   obtain ⟨h2,h3⟩:=(hall k).1 hk
   exact ⟨k,h2,h3,e.symm⟩
 rw [e] at hb⊢
 refine ⟨jiX _ _,keptI_in hk,by show hit (jbv _)=true;rw [jfg zO];exact hh,fun xs ha hx hxs=>?_⟩
 obtain ⟨mm,hmm,rfl⟩:=jqV ha (n:=12) fun x hx'=>by have:=hx x hx';omega
 have hlt:mm<2^n:=by
  refine Classical.byContradiction fun hge=>?_
  obtain ⟨i,hi,hbit⟩:=Nat.exists_ge_and_testBit_of_ge_two_pow (show 2^n≤mm by omega)
  have hi12:i<12:=by
   refine Classical.byContradiction fun h=>?_
   have:=Nat.testBit_lt_two_pow (Nat.lt_of_lt_of_le hmm (Nat.pow_le_pow_right (show 0<2 by omega) (show 12≤i by omega)))
   rw [hbit] at this
   cases this
  have:=hx _ (jcC.2 ⟨i,hi12,rfl,(jcG mm i).2 hbit⟩)
  omega
 have hxs':hit (jbv (jbi mm 12))=true:=hxs
 rw [jfg hmm] at hxs'
 exact hb _ (List.mem_cons_of_mem _ (List.mem_map.2 ⟨mm,(hall mm).2 ⟨hlt,hxs'⟩,rfl⟩))
theorem run_midC {C:Crew} {g:Goroutine} (n:((SyC.zero P B C.pro K).im 0 (.m C.n .idle [] false) h').R g):(Md.starC P B).R K g (h'++[C.wgC 0 0 0]++[⟨true,C.ch,.chan 0 #[] false 0 0 false⟩]):=jou n
theorem run_putm {m:Md P B} {b:Frame} {k:List Item} [p:PutV l d v l'] (n:m.R K (Gr b l' ds k cs) h):m.R K (Gr b (put l d v) ds k cs) h:=by rw [p.eq];exact n
theorem weakOff3 {F1 F2 F3 X Y Z:Hp} [a:Off h' Z F1] [b:Off F1 Y F2] [c:Off F2 X F3] [s:SubH H F3]:Weak B h' (H++X++Y++Z):=
 Weak.trans (Weak.perm a.perm) (Weak.apps (Weak.trans (Weak.perm b.perm) (Weak.apps (Weak.trans (Weak.perm c.perm) (Weak.apps (Weak.sub s.sub) X)) Y)) Z)
theorem apAll {F:Hp} (hF: ∀c∈F,c.rw=false) (hH: ∀c∈H,c.rw=false):ApH F H:=fun c hc d hd hr=>by rw [hF c hc,hH d hd] at hr;simp at hr
section
variable {m:Md P B}
omit [LaidO B] in
theorem k_addW {k:IntKind} {x:Operand} {b:Int} (z:Int) (ho:ops[i]?=some ⟨d,.binOp .add t x y u,ty,pos,af,g⟩) (hw:Wt ops l g) [KHeap kd S h H] [ex:OpV l x (.int k a)] [ey:OpV l y (.int k b)] (hr:k.wrap (a+b)=z) [PutV l d (.int k z) l']
  (n:RegK m S ops r l' h C):RegK m S ops ((i,kd)::r) l h C:=
 RegK.rd (v:= .int k z) ho hw (ja1 ex.eq ey.eq zS (by simp [binOp,Op.intArith,hr];rfl)) n
end
theorem jng (h:n<5000):IntKind.wrap .u64 ((n:Nat):Int)=(n:Int):=by
 simp [IntKind.wrap,IntKind.bits,IntKind.signed]
 omega
theorem jm0 {q3:Nat} {c3 c5:Array Value}:Weak B (h++[⟨true,q3,.cells c3 141 (0,0)⟩]++[⟨true,ch,.chan 0 #[] false 0 0 false⟩,⟨true,q5,.cells c5 193 (0,0)⟩,⟨true,q6,.cells ([.int .u64 0,.int .u32 0]:List Value).toArray 203 (0,0)⟩]) ((ro h++[⟨false,q3,.cells c3 141 (0,0)⟩,⟨false,q5,.cells c5 193 (0,0)⟩])++[(jkL N hit q6 ch).wgC 0 0 0]++[⟨true,ch,.chan 0 #[] false 0 0 false⟩]):=by
 have h0:Weak B (h++[⟨true,q3,.cells c3 141 (0,0)⟩]++[⟨true,ch,.chan 0 #[] false 0 0 false⟩,⟨true,q5,.cells c5 193 (0,0)⟩,⟨true,q6,.cells ([.int .u64 0,.int .u32 0]:List Value).toArray 203 (0,0)⟩]) ((h++[⟨true,q3,.cells c3 141 (0,0)⟩,⟨true,q5,.cells c5 193 (0,0)⟩])++[⟨true,q6,.cells ([.int .u64 0,.int .u32 0]:List Value).toArray 203 (0,0)⟩,⟨true,ch,.chan 0 #[] false 0 0 false⟩]):=by
  refine Weak.perm ?_
  simp only [List.append_assoc,List.cons_append,List.nil_append]
  refine List.Perm.append_left _ (.cons _ ?_)
  exact List.perm_append_comm (l₁:=[_]) (l₂:=[_,_])
 refine h0.trans ?_
 have h1:=jpD (B:=B) (h++[⟨true,q3,.cells c3 141 (0,0)⟩,⟨true,q5,.cells c5 193 (0,0)⟩]) [⟨true,q6,.cells ([.int .u64 0,.int .u32 0]:List Value).toArray 203 (0,0)⟩,⟨true,ch,.chan 0 #[] false 0 0 false⟩]
 refine Weak.trans h1 ?_;refine Weak.perm ?_
 simp only [ro,List.map_append,List.map_cons,List.map_nil,List.append_assoc,List.cons_append,List.nil_append]
 exact .refl _
theorem f103_k (h:Hp) (sh:Sheet B h b q tv) [cgv:CellsV gv [gv]] (hg:Asks B gv (ro h) (2^(jab b).length) hit) (hh1:hit (2^(jab b).length-1)=true):FnC (Md.starC Tryz.prog B) 103 #[.pointer (some ⟨q,0,none⟩),gv] h fun v h'=> ∃nw,h'=ro h++nw∧ ∃g,RdK B h' v g∧jeM (fun l=>hit (jbv l)=true) (jab b).length g:=by
 have h12:=sh.twelve
 obtain ⟨pc,cc,hcv,hcc,hcr⟩:=sh.cells
 have hp0:0<2^(jab b).length:=Nat.two_pow_pos _
 have hp12:2^(jab b).length≤2^12:=Nat.pow_le_pow_right zO h12
 obtain ⟨N,hN⟩: ∃N:Nat,N=2^(jab b).length:=⟨_,rfl⟩
 rw [←hN] at hg
 have hM: ∀q6 ch,(jkL N hit q6 ch).n≤4100:=fun _ _=>show N≤4100 by omega
 refine jae Tryz.func103 rfl rfl (l:=(.pointer (some ⟨q,0,none⟩))::gv::uu40) rfl ?_
 intro cf cs K hK
 refine Z2 ?_
 refine jaR rfl zq (fun q3=>jas (jad ?_));refine Z4 ?_
 refine k_mkchan (.inl rfl) rfl zq zK (fun ch=>jad ?_);refine jaw rfl zq (fun q5=>jas (jad ?_));refine D9 ?_;refine Z3 ?_
 refine jaw rfl zq (fun q6=>jas (jad ?_));refine Z7 ?_;refine D63 ?_;refine Zs ?_;refine D89 ?_
 rintro v rfl;refine Zs ?_;refine k_addW (N:Int) rfl zq (by rw [show ((2^(jab b).length-1:Nat):Int)+1=((N:Nat):Int) by omega];exact jng zO) ?_;refine Z3 ?_;refine (Md.starC Tryz.prog B).weak (h':=(ro h++[⟨false,q3,.cells [gv].toArray 141 (0,0)⟩,⟨false,q5,.cells [.chan (some ch)].toArray 193 (0,0)⟩])++[(jkL N hit q6 ch).wgC 0 0 0]++[⟨true,ch,.chan 0 #[] false 0 0 false⟩]) jm0 ?_;refine run_midC (C:=(jkL N hit q6 ch)) ?_;refine jpB (fun nn D' s' h' l'=> ∃(t:Nat),D'=0∧s'= .m (N-t) .idle [] false∧ro h++[⟨false,q3,.cells [gv].toArray 141 (0,0)⟩,⟨false,q5,.cells [.chan (some ch)].toArray 193 (0,0)⟩]=h'∧nn=N-t∧t≤N∧ ∃U:Nat→Value,l'=((.pointer (some ⟨q,0,none⟩))::gv::(U 2)::(.pointer (some ⟨q3,0,none⟩))::(.slice none 0 0)::(.pointer (some ⟨q5,0,none⟩))::(.pointer (some ⟨q6,0,none⟩))::vw10 U 7 ((.int .u64 (N:Int))::(.int .u64 (t:Int))::vw23 U 19 []))) _ ⟨0,rfl,rfl,rfl,rfl,by omega,exU rfl⟩ ?_
 rintro nn _ _ _ _ ⟨t,rfl,rfl,rfl,rfl,ht,U,rfl⟩ hnext1;refine Md.midC.to ?_
 try dsimp only
 refine Z2 ?_
 refine jal rfl zq (fun hc=>?_) (fun hc=>?_)
 ·refine Z9 ?_
  refine jaw rfl zq (fun q7=>jas (jad ?_));refine D9 ?_;refine Z2 ?_
  obtain ⟨r,hr⟩: ∃r,N-t=r+1:=⟨N-t-1,by omega⟩
  rw [hr];refine Md.midC.of ?_;refine Zs ?_
  refine i_cal rfl zq zK (addZ_c rfl (hM q6 ch) ?_);refine jgz rfl ?_;refine Zs ?_;refine Md.midC.to ?_;refine D109 ?_;refine jhi rfl zq ?_;refine Zs ?_;refine Md.midC.of ?_;refine jot (h':=ro h++[⟨false,q3,.cells [gv].toArray 141 (0,0)⟩,⟨false,q5,.cells [.chan (some ch)].toArray 193 (0,0)⟩]) (hc:=ro h++[⟨false,q3,.cells [gv].toArray 141 (0,0)⟩,⟨false,q5,.cells [.chan (some ch)].toArray 193 (0,0)⟩,⟨true,q7,.cells [.int .u64 (t:Int)].toArray 134 (0,0)⟩]) rfl (show r+1≤N by omega) jaa jaa (fun w sw=>?_) (fun j hj=>by
   rw [show (jkL N hit q6 ch).n-(r+1)=t from (by omega:N-(r+1)=t)];exact kid154 zO zO hg) ?_
  ·refine ap_last (F:=ro h++[⟨false,q3,.cells [gv].toArray 141 (0,0)⟩,⟨false,q5,.cells [.chan (some ch)].toArray 193 (0,0)⟩]) (q:=q7) (o:= .cells [.int .u64 (t:Int)].toArray 134 (0,0)) (by simpa using sw) (fun c hc=>?_) (fun d hd hr=>?_)
   ·rcases List.mem_append.1 hc with hc|hc
    ·exact (jh2 hc).1
    ·simp only [List.mem_cons,List.not_mem_nil,or_false] at hc
     rcases hc with rfl|rfl<;>rfl
   ·rcases List.mem_append.1 hd with hd|hd
    ·rw [(jh2 hd).1] at hr
     cases hr
    ·simp only [List.mem_cons,List.not_mem_nil,or_false] at hd
     rcases hd with rfl|rfl|rfl
     ·cases hr
     ·cases hr
     ·rfl
  refine Md.midC.to ?_;refine jbk ?_;refine Z2 ?_;refine k_addW ((t+1:Nat):Int) rfl zq (by rw [show (t:Int)+1=((t+1:Nat):Int) by omega];exact jng zO) ?_;refine Z2 ?_;refine Md.midC.of ?_;refine SyC.weaken (h':=ro h++[⟨false,q3,.cells [gv].toArray 141 (0,0)⟩,⟨false,q5,.cells [.chan (some ch)].toArray 193 (0,0)⟩]) jaa ?_
  exact hnext1 _ _ _ _ _ zO ⟨t+1,rfl,by rw [show r=N-(t+1) by omega],rfl,rfl,by omega,exU rfl⟩
 ·refine Z5 ?_
  obtain rfl:N=t:=by omega
  rw [Nat.sub_self];refine D109 ?_;refine jhi rfl zq ?_;refine Zs ?_;refine Md.midC.of ?_
  refine jmq (h':=ro h++[⟨false,q3,.cells [gv].toArray 141 (0,0)⟩,⟨false,q5,.cells [.chan (some ch)].toArray 193 (0,0)⟩]) (hc:=ro h++[⟨false,q5,.cells [.chan (some ch)].toArray 193 (0,0)⟩]) rfl jaa jaa (fun w sw=>?_) (fun j hj=>kid157 zO) ?_
  ·refine apAll (fun c hc=>?_) (fun c hc=>?_)
   ·rcases List.mem_append.1 hc with hc|hc
    ·exact (jh2 hc).1
    ·simp only [List.mem_cons,List.not_mem_nil,or_false] at hc
     rcases hc with rfl|rfl<;>rfl
   ·rcases List.mem_append.1 hc with hc|hc
    ·exact (jh2 hc).1
    ·simp only [List.mem_cons,List.not_mem_nil,or_false] at hc
     rcases hc with rfl
     rfl
  refine Md.midC.to ?_;refine jbk ?_;refine Z10 ?_;refine Md.midC.of ?_;refine jpB (fun nn D' s' h' l'=> ∃(got:List Nat) (sp:Option Addr) (sc:Nat) (ws:List Value) (X W:Hp),D'=0∧s'= .m 0 .idle got true∧ro h++[⟨false,q3,.cells [gv].toArray 141 (0,0)⟩,⟨false,q5,.cells [.chan (some ch)].toArray 193 (0,0)⟩]++X++W=h'∧nn=N-got.length∧(got.Nodup∧ ∀k∈got,k<N)∧OwnS 42 1 (.slice sp (llW got).length sc) (llW got).length ws W∧RdE B X ws (llW got)∧ ∃U:Nat→Value,l'=((.pointer (some ⟨q,0,none⟩))::gv::(U 2)::(.pointer (some ⟨q3,0,none⟩))::(.slice none 0 0)::(.pointer (some ⟨q5,0,none⟩))::(.pointer (some ⟨q6,0,none⟩))::(U 7)::(.slice sp (llW got).length sc)::vw8 U 9 ((.int .u64 (N:Int))::vw7 U 18 ((.chan (some ch))::vw16 U 26 [])))) _ ⟨[],none,0,[],[],[],rfl,rfl,by simp,rfl,⟨List.nodup_nil,fun k hk=>by cases hk⟩,OwnS.nil,RdE.nil,exU rfl⟩ ?_
  rintro nn _ _ _ _ ⟨got,sp,sc,ws,X,W,rfl,rfl,rfl,rfl,⟨hnd,hlt⟩,oW,eX,U,rfl⟩ hnext2;refine Md.midC.to ?_
  try dsimp only
  have hgl:=got_le hlt hnd
  have hll:(llW got).length=got.length:=llW_len got
  refine Zs ?_;refine jh0 [] [0,1] zK zK ?_;refine Zs ?_;refine Md.midC.of ?_
  refine jpz (dir:=0) (z:= .slice none 0 0) rfl rfl Mute.zero (fun kn v hp hh hkn hnin hP=>?_) (fun hnd2 hall=>?_)
  ·have hnd2:(got++[kn]).Nodup:=by
    rw [List.nodup_append];exact ⟨hnd,by simp,fun a ha c hc=>by rw [List.mem_singleton] at hc;subst hc;exact fun e=>hnin (e▸ha)⟩
   have hlt2: ∀k∈got++[kn],k<N:=fun k hk=>by
    rcases List.mem_append.1 hk with hk|hk
    ·exact hlt k hk
    ·rw [List.mem_singleton] at hk
     subst hk
     exact hkn
   have hgl2:=got_le hlt2 hnd2
   rw [List.length_append,List.length_singleton] at hgl2
   have hP':OwnS 3 1 v (jbi kn 12).length (jat (jbi kn 12)) hp:=hP
   obtain ⟨vp,vc,rfl,hvc,rV⟩:=jao (B:=B) hP'
   refine jdN ?_;refine Md.midC.to ?_;refine jll [Zf 1] zK rfl ?_;refine Z2 ?_;skip
   refine Z12 ?_
   refine jdB kdq rfl zq zA zA rfl (fun q31=>jas (jad ?_));refine jbd rfl zq rfl oW kdq zO zO (fun w32 n32 o32=>jad ?_);have e1:(llW (got++[kn])).length=(llW got).length+1:=by rw [jnT,List.length_append];rfl
   obtain ⟨p32,c32,rfl,_⟩:=o32.len
   refine Z3 ?_;refine Md.midC.of ?_;refine SyC.weaken (h':=ro h++[⟨false,q3,.cells [gv].toArray 141 (0,0)⟩,⟨false,q5,.cells [.chan (some ch)].toArray 193 (0,0)⟩]++X++hp++n32) weakOff3 ?_
   exact hnext2 _ _ _ _ _ (by rw [List.length_append];show N-(got.length+1)<_;omega) ⟨got++[kn],p32,c32,_,X++hp,n32,rfl,rfl,by simp only [List.append_assoc],rfl,⟨hnd2,hlt2⟩,by rw [e1];exact o32,by rw [jnT];exact (eX.keeps (List.sublist_append_left _ _)).snoc rfl (rV.keeps (List.sublist_append_right _ _)) hvc,by rw [e1];exact exU rfl⟩
  ·show (Md.starC Tryz.prog B).R K _ _
   refine run_putm ?_;refine jll [Zf 1] zK rfl ?_;refine Z2 ?_;skip
   refine Z4 ?_;refine jpv ?_;refine Z3 ?_;refine jbc rfl zq (hcv.ro.keeps SubH.sub) ?_;refine Zs ?_;refine D89 ?_
   rintro v rfl;refine Zs ?_;refine jaN rfl zq zK (fun H' hH=>f156_c _ H' (2^(jab b).length-1) zO) ?_
   rintro v nA oA;refine Zs ?_
   obtain ⟨ap,ac,rfl,hac,rA⟩:=jao (B:=B) oA
   refine Zs ?_;refine jb9 rfl zq zK (f159_k _ _ ((oW.rd (List.Sublist.refl _)).keeps SubH.sub) (eX.keeps SubH.sub) zO (fun l hl=>by obtain ⟨k,_,rfl⟩:=List.mem_map.1 hl;have:=jfS k 12;omega) (rA.keeps SubH.sub) (by have:=jfS (2^(jab b).length-1) 12;omega) hac) ?_
   rintro v h' ⟨rfl,rv⟩;refine Z4 ?_;refine jac (ro h++[⟨false,q3,.cells [gv].toArray 141 (0,0)⟩,⟨false,q5,.cells [.chan (some ch)].toArray 193 (0,0)⟩]++X++W++nA) rfl Tryz.func103 rfl jaa ?_;refine Zs ?_
   refine ⟨[⟨false,q3,.cells [gv].toArray 141 (0,0)⟩,⟨false,q5,.cells [.chan (some ch)].toArray 193 (0,0)⟩]++X++W++nA,by simp only [List.append_assoc],_,rv,jpf h12 (fun k=>?_) hh1⟩
   rw [←hN];exact hall k
end
section
variable [LaidO B]
theorem callB104:jbQ Tryz.prog 104=true:=by kernel_rfl
theorem callB105:jbQ Tryz.prog 105=true:=by kernel_rfl
def fewB (b:Tb) (k:Nat):Bool:=!(jfH (cdT b) (jdT k (jab b).length)).isEmpty
def jbG (b:Tb) (k:Nat):Bool:=!jbn (jaZ (jdT k (jab b).length) (cdT b))
theorem jkG:fewB b k=true↔jfH (cdT b) (jdT k (jab b).length)≠[]:=by
 unfold fewB
 cases jfH (cdT b) (jdT k (jab b).length)<;>simp
theorem jgF:jbG b k=true↔ ¬jbn (jaZ (jdT k (jab b).length) (cdT b))=true:=by simp [jbG]
theorem jia {α:Type}: ∀(D:List α) (p:List Bool),(∀x∈p,x=true)→p.length=D.length→jaZ p D=D
 |[],[],_,_=>rfl
 |[],_::_,_,h=>by simp at h
 |_::_,[],_,h=>by simp at h
 |d::D,x::p,h,hl=>by
  obtain rfl:=h x zS
  show d::jaZ p D=d::D
  rw [jia D p (fun y hy=>h y (by simp [hy])) (by simpa using hl)]
theorem jib (n:Nat): ∀x∈jdT (2^n-1) n,x=true:=fun x hx=>by
 rw [jdT,List.mem_map] at hx
 obtain ⟨i,hi,rfl⟩:=hx
 rw [List.mem_range] at hi
 rw [Nat.testBit_two_pow_sub_one];simpa using hi
theorem jqq (n:Nat):jdT 0 n=(jdT (2^n-1) n).map (!·):=by
 rw [←jnJ (by have:=Nat.two_pow_pos n;omega),Nat.sub_self]
theorem jnK: ∀(D:List Cd) (p:List Bool),(∀x∈p,x=true)→p.length=D.length→jfH D p≠[]
 |[],_,_,_=>by simp [jfH]
 |_::_,[],_,h=>by simp at h
 |d::D,x::p,h,hl=>by
  obtain rfl:=h x zS
  show (jfH D p).map _≠[]
  have:=jnK D p (fun y hy=>h y (by simp [hy])) (by simpa using hl)
  simpa using this
theorem jrz (b:Tb):fewB b (2^(jab b).length-1)=true:=jkG.2 (jnK _ _ (jib _) (by rw [jcq,jav]))
theorem jk9 (b:Tb):jfH (cdT b) (jdT 0 (jab b).length)≠[]↔jbn (cdT b)=true:=by
 rw [jqq,jeU (by rw [jcq,jav]),jia _ _ (jib _) (by rw [jcq,jav])]
theorem jm8 (h: ¬jbn (cdT b)=true):jbG b (2^(jab b).length-1)=true:=jgF.2 (by rw [jia _ _ (jib _) (by rw [jcq,jav])];exact h)
theorem Sheet.ro (s:Sheet B H b q tv):Sheet B (Lo.ro H) b q tv:=by
 obtain ⟨h0,h1,⟨p,c,h2,h3,h4⟩,⟨rw,qm,h5,h6⟩,h7,h8⟩:=s
 refine ⟨h0,fun j hj=>(h1 j hj).ro,⟨p,c,h2.ro,h3,h4.ro⟩,⟨false,qm,h5.ro,List.mem_map.2 ⟨_,h6,rfl⟩⟩,fun i hi=>(h7 i hi).ro,fun i hi=>?_⟩
 obtain ⟨p,c,a1,a2,a3⟩:=h8 i hi
 exact ⟨p,c,a1.ro,a2,a3.ro⟩
theorem asks104 (sh:Sheet B hb b q tv):Asks B (.func (.func 104) #[.pointer (some ⟨q,0,none⟩)] #[]) hb (2^(jab b).length) (fewB b):=fun m k H' hk hs=>by
 have h12:2^(jab b).length≤2^12:=Nat.pow_le_pow_right zO sh.twelve
 refine CallV.mono (CallV.fn' (vs:= #[.pointer (some ⟨q,0,none⟩),.int .u64 (k:Int)]) callB104 zS (f104_c m H' (sh.keeps hs) zO)) fun v h' ⟨e,p⟩=>⟨e,?_⟩
 rcases p with ⟨c,e⟩|⟨c,e⟩
 ·exact .inl ⟨jkG.2 c,e⟩
 ·exact .inr ⟨fun x=>c (jkG.1 x),e⟩
theorem asks105 (sh:Sheet B hb b q tv) (rx:Rd B hb ⟨qx,0,none⟩ (.pointer (some ⟨q,0,none⟩))):Asks B (.func (.func 105) #[] #[.pointer (some ⟨qx,0,none⟩)]) hb (2^(jab b).length) (jbG b):=fun m k H' hk hs=>by
 refine CallV.mono (CallV.fn' (vs:= #[.int .u64 (k:Int),.pointer (some ⟨qx,0,none⟩)]) callB105 zS (f105_c m H' (sh.keeps hs) (rx.keeps hs) hk)) fun v h' ⟨e,p⟩=>⟨e,?_⟩
 rcases p with ⟨c,e⟩|⟨c,e⟩
 ·exact .inl ⟨jgF.2 c,e⟩
 ·exact .inr ⟨fun x=>c (jgF.1 x),e⟩
theorem jgR (a c:Hp):ro (a++c)=ro a++ro c:=List.map_append
theorem f40_c (h:Hp) (ra:RawTb B h b ps ns ks pw nw cw pb nb cb):FnC (Md.starC Tryz.prog B) 40 #[tbV b ps ns ks pw nw cw pb nb cb] h fun v h'=> ∃nw w g,h'=ro h++nw∧v= .tuple [w,.int .i64 (tbS b)].toArray∧RdI B h' w g∧(tbS b≠0→g=[])∧(tbS b=0→jeM (fun l=>fewB b (jbv l)=true) (jab b).length g):=by
 refine jae Tryz.func40 rfl rfl (l:=(tbV b ps ns ks pw nw cw pb nb cb)::uu16) rfl ?_
 intro cf cs K hK
 refine Z2 ?_
 refine jaR rfl zq (fun q1=>jas (jad ?_));refine Z7 ?_;refine jah (Post:=fun v=>v=_) rfl zq zK (fun H' hH=>f65_r _ H' (ra.keeps (sq hH))) ?_
 rintro v rfl;refine Z6 ?_
 refine ja9 rfl zq (fun hc=>?_) (fun hc=>?_)
 ·refine Z9 ?_;refine jac (h) rfl Tryz.func40 rfl jaa ?_;refine D100 ?_;refine Zs ?_
  have hne:tbS b≠0:=by omega
  exact ⟨[],_,[],by simp,rfl,RdI.nil,fun _=>rfl,fun e=>absurd e hne⟩
 ·refine Z4 ?_
  have hz0:tbS b=0:=by omega
  have hk:=ja8.1 hz0
  have h12:=jbj hk
  refine Z2 ?_;refine D52 ?_
  rintro v n12 ⟨q,rfl,sh⟩;refine Z7 ?_;refine jhi rfl zq ?_;refine jb9 rfl zq zK (f103_k _ (sh.keeps SubH.sub) (asks104 (sh.keeps SubH.sub).ro) (jrz b)) ?_
  rintro v h' ⟨nz,rfl,g,rg,hl⟩;obtain ⟨gp,gc,rfl,rg,hgc⟩:=rg
  refine Z5 ?_;refine jac (ro (h++[⟨true,q1,.cells (tbL b ps ns ks pw nw cw pb nb cb).toArray 25 (0,0)⟩]++n12)++nz) rfl Tryz.func40 rfl jaa ?_;refine Zs ?_
  exact ⟨ro [⟨true,q1,.cells (tbL b ps ns ks pw nw cw pb nb cb).toArray 25 (0,0)⟩]++ro n12++nz,_,g,by simp only [jgR,List.append_assoc],by rw [hz0],⟨gp,gc,rfl,rg⟩,fun e=>absurd hz0 e,fun _=>hl⟩
theorem f41_k (h:Hp) (ra:RawTb B h b ps ns ks pw nw cw pb nb cb):FnC (Md.starC Tryz.prog B) 41 #[tbV b ps ns ks pw nw cw pb nb cb] h fun v h'=> ∃nw w g,h'=ro h++nw∧v= .tuple [w,.int .i64 (tbS b)].toArray∧RdK B h' w g∧(tbS b≠0→g=[])∧(tbS b=0→jbn (cdT b)=true→g=[])∧(tbS b=0→ ¬jbn (cdT b)=true→jeM (fun l=>jbG b (jbv l)=true) (jab b).length g):=by
 refine jae Tryz.func41 rfl rfl (l:=(tbV b ps ns ks pw nw cw pb nb cb)::uu17) rfl ?_
 intro cf cs K hK
 refine Z2 ?_
 refine jaR rfl zq (fun q1=>jas (jad ?_));refine Z7 ?_;refine jah (Post:=fun v=>v=_) rfl zq zK (fun H' hH=>f65_r _ H' (ra.keeps (sq hH))) ?_
 rintro v rfl;refine Z6 ?_
 refine ja9 rfl zq (fun hc=>?_) (fun hc=>?_)
 ·refine Z9 ?_;refine jac (h) rfl Tryz.func41 rfl jaa ?_;refine D100 ?_;refine Zs ?_
  have hne:tbS b≠0:=by omega
  exact ⟨[],_,[],by simp,rfl,RdK.nil,fun _=>rfl,fun _ _=>rfl,fun e=>absurd e hne⟩
 ·refine Z4 ?_
  have hz0:tbS b=0:=by omega
  have hk:=ja8.1 hz0
  have h12:=jbj hk
  refine Z2 ?_;refine D52 ?_
  rintro v n12 ⟨q,rfl,sh⟩;refine Zs ?_
  refine jaw rfl zq (fun q5=>jas (jad ?_));refine D9 ?_;refine Z5 ?_;refine jah (Post:=fun v=>IsB _ v) rfl zq zK (fun H' hH=>f104_c _ H' (sh.keeps (sq hH)) (s:=0) zO) ?_
  rintro v (⟨hc,rfl⟩|⟨hc,rfl⟩)
  ·refine Zs ?_
   have hsd:=(jk9 b).1 hc
   refine Z8 ?_;refine jac (h) rfl Tryz.func41 rfl jaa ?_;refine D100 ?_;refine Zs ?_
   exact ⟨[],_,[],by simp,by rw [hz0],RdK.nil,fun _=>rfl,fun _ _=>rfl,fun _ e=>absurd hsd e⟩
  ·refine Zs ?_
   have hcl:=fun e=>hc ((jk9 b).2 e)
   refine Z6 ?_;refine jhi rfl zq ?_;refine jb9 rfl zq zK (f103_k _ (sh.keeps SubH.sub) (asks105 (sh.keeps SubH.sub).ro (qx:=q5) (Rd.ro (Rd.held (show (⟨true,q5,.cells [.pointer (some ⟨q,0,none⟩)].toArray 109 (0,0)⟩:Chunk)∈_ by simp) rfl))) (jm8 hcl)) ?_
   rintro v h' ⟨nz,rfl,g,rg,hl⟩;obtain ⟨gp,gc,rfl,rg,hgc⟩:=rg
   refine Z5 ?_;refine jac (ro (h++[⟨true,q1,.cells (tbL b ps ns ks pw nw cw pb nb cb).toArray 25 (0,0)⟩]++n12++[⟨true,q5,.cells [.pointer (some ⟨q,0,none⟩)].toArray 109 (0,0)⟩])++nz) rfl Tryz.func41 rfl jaa ?_;refine Zs ?_
   exact ⟨ro [⟨true,q1,.cells (tbL b ps ns ks pw nw cw pb nb cb).toArray 25 (0,0)⟩]++ro n12++ro [⟨true,q5,.cells [.pointer (some ⟨q,0,none⟩)].toArray 109 (0,0)⟩]++nz,_,g,by simp only [jgR,List.append_assoc],by rw [hz0],⟨gp,gc,rfl,rg,hgc⟩,fun e=>absurd hz0 e,fun _ e=>absurd e hcl,fun _ _=>hl⟩
theorem f41_c (h:Hp) (ra:RawTb B h b ps ns ks pw nw cw pb nb cb):FnC (Md.starC Tryz.prog B) 41 #[tbV b ps ns ks pw nw cw pb nb cb] h fun v h'=> ∃nw w g,h'=ro h++nw∧v= .tuple [w,.int .i64 (tbS b)].toArray∧RdI B h' w g∧(tbS b≠0→g=[])∧(tbS b=0→jbn (cdT b)=true→g=[])∧(tbS b=0→ ¬jbn (cdT b)=true→jeM (fun l=>jbG b (jbv l)=true) (jab b).length g):=
 CallF.mono (f41_k h ra) fun v h' ⟨nw,w,g,e1,e2,e3,e4⟩=>⟨nw,w,g,e1,e2,e3.rdI,e4⟩
end
section
variable [LaidO B]
def badL (l:Ln):Prop:=20<l.figs.length∨ ∃k,k<l.figs.length∧100<(l.figs.getD k []).length
def grL (ls:List Ln):Prop:= ∃i,i<ls.length∧badL (ls.getD i default)
def jop (b:Tb):Prop:=20<b.sts.length∨20<b.waters.length∨20<b.butts.length∨(∃j,j<b.sts.length∧100<(b.sts.getD j []).length)∨grL b.waters∨grL b.butts
def FitT (b:Tb):Prop:= ¬jop b∧tbS b=0
theorem jnr (h: ¬grL ls): ∀l∈ls,l.figs.length≤1000∧ ∀f∈l.figs,f.length≤100000:=fun l hl=>by
 obtain ⟨i,hi,e⟩:=List.mem_iff_getElem.1 hl
 have hg:ls.getD i default=l:=by rw [List.getD_eq_getElem?_getD,List.getElem?_eq_getElem hi,Option.getD_some,e]
 have hb: ¬badL l:=fun x=>h ⟨i,hi,by rw [hg];exact x⟩
 refine ⟨Nat.le_of_not_lt fun x=>hb (.inl zO),fun f hf=>Nat.le_of_not_lt fun x=>?_⟩
 obtain ⟨k,hk,e⟩:=List.mem_iff_getElem.1 hf
 exact hb (.inr ⟨k,hk,by rw [List.getD_eq_getElem?_getD,List.getElem?_eq_getElem hk,Option.getD_some,e];omega⟩)
theorem jnq (h: ¬jop b):TbSm b:=by
 refine ⟨fun s hs=>Nat.le_of_not_lt fun x=>?_,jnr fun e=>h (.inr (.inr (.inr (.inr (.inl e))))),jnr fun e=>h (.inr (.inr (.inr (.inr (.inr e)))))⟩
 obtain ⟨k,hk,e⟩:=List.mem_iff_getElem.1 hs
 exact h (.inr (.inr (.inr (.inl ⟨k,hk,by rw [List.getD_eq_getElem?_getD,List.getElem?_eq_getElem hk,Option.getD_some,e];omega⟩))))
theorem f86_c (m:Md Tryz.prog B) (h:Hp) {c:Nat} (hln:RdLn B h (.slice p n c) n ls) (hn:n≤20):FnC m 86 #[.slice p n c] h fun v h'=>h'=h∧IsB (grL ls) v:=by
 obtain ⟨lps,rfl,rl,hfig⟩:=hln
 have hll:=rl.elen zA
 refine jae Tryz.func86 rfl rfl (l:=(.slice p n c)::uu37) rfl ?_
 intro cf cs K hK
 refine Z10 ?_
 refine jaj (fun nn l h'=> ∃(i:Nat),nn=n-i∧(i≤n)∧(∀j,j<i→ ¬badL (lps.getD j default).ln)∧(∃U:Nat→Value,l=((.slice p n c)::(U 1)::(U 2)::(.int .i64 (i:Int))::vw34 U 4 []))∧h=h') _ ⟨0,rfl,by omega,fun j hj=>absurd hj zO,exU rfl,rfl⟩ ?_;rintro nn l h' ⟨i,rfl,hi,hgo,⟨U,rfl⟩,rfl⟩ hnext1;refine Z6 ?_
 refine jal rfl zq (fun hc=>?_) (fun hc=>?_)
 ·refine Z7 ?_
  obtain ⟨rlb,rlo,hrp⟩:=rl.ptr zO
  have rl2:=rl
  rw [hrp] at rl2
  obtain ⟨hxc,rdf0⟩:=hfig _ (jak (l:=lps) (i:=i) zO)
  refine Z3 ?_;refine D62 ?_;refine Zs ?_;refine D42 ?_;refine Zs ?_
  refine jaJ rfl zq (fun hc=>?_) (fun hc=>?_)
  ·refine Z7 ?_;refine jac (h) rfl Tryz.func86 rfl jaa ?_;refine Zs ?_
   exact ⟨rfl,IsB.yes ⟨i,by rw [List.length_map];omega,by rw [jaX _ _ zO];exact .inl zO⟩⟩
  ·refine Z8 ?_
   refine jaj (fun nn l h'=> ∃(k:Nat),nn=(lps.getD i default).ln.figs.length-k∧(k≤(lps.getD i default).ln.figs.length)∧(∀j,j<k→ ¬100<((lps.getD i default).ln.figs.getD j []).length)∧(∃U:Nat→Value,l=((.slice p n c)::(U 1)::(U 2)::(.int .i64 (i:Int))::(.int .i64 (k:Int))::vw33 U 5 []))∧h=h') _ ⟨0,rfl,by omega,fun j hj=>absurd hj zO,exU rfl,rfl⟩ ?_;rintro nn l h' ⟨k,rfl,hk,hfk,⟨U,rfl⟩,rfl⟩ hnext2;refine Z6 ?_;refine D62 ?_;refine Zs ?_;refine D42 ?_;refine Zs ?_
   refine jal rfl zq (fun hc=>?_) (fun hc=>?_)
   ·refine Z6 ?_
    have rdf:=rdf0 zO
    obtain ⟨fb,fo,hfp⟩:=rdf.ptr zO
    have rdg:=rdf
    rw [hfp] at rdg
    refine jpv ?_;refine Z2 ?_;refine D62 ?_;refine Zs ?_;refine D42 ?_;refine Zs ?_;refine D39 ?_;refine D95 ?_;refine Zs ?_;refine jaJ rfl zq (fun hc=>?_) (fun hc=>?_)
    ·refine Z7 ?_;refine jac (h) rfl Tryz.func86 rfl jaa ?_;refine Zs ?_
     exact ⟨rfl,IsB.yes ⟨i,by rw [List.length_map];omega,by rw [jaX _ _ zO];exact .inr ⟨k,by omega,by omega⟩⟩⟩
    ·refine Z9 ?_
     exact m.weak jaa (hnext2 _ _ _ zO ⟨k+1,rfl,by omega,fun j hj=>by
      by_cases e:j<k
      ·exact hfk j e
      ·obtain rfl:j=k:=by omega
       omega,exU rfl,rfl⟩)
   ·refine Z9 ?_
    exact m.weak jaa (hnext1 _ _ _ zO ⟨i+1,rfl,by omega,fun j hj=>by
     by_cases e:j<i
     ·exact hgo j e
     ·obtain rfl:j=i:=by omega
      rintro (e|⟨k2,hk2,e⟩)
      ·omega
      ·exact hfk k2 zO e,exU rfl,rfl⟩)
 ·refine Z8 ?_;refine jac (h) rfl Tryz.func86 rfl jaa ?_;refine Zs ?_
  refine ⟨rfl,IsB.no ?_⟩
  rintro ⟨j,hj,e⟩;rw [List.length_map] at hj
  rw [jaX _ _ zO] at e
  exact hgo j zO e
theorem f19_c (m:Md Tryz.prog B) (h:Hp) (rds:RdS B h 1 (.slice ps ns ks) ns (jax b.sts)) (hcs:ns≤ks) (rdw:RdLn B h (.slice pw nw cw) nw b.waters) (rdb:RdLn B h (.slice pb nb cb) nb b.butts):FnC m 19 #[tbV b ps ns ks pw nw cw pb nb cb] h fun v h'=>h'=h∧IsB (jop b) v:=by
 have hml:=rds.elen zA
 have hwl:=jbN rdw
 have hbl:=jbN rdb
 refine jae Tryz.func19 rfl rfl (l:=(tbV b ps ns ks pw nw cw pb nb cb)::uu41) rfl ?_
 intro cf cs K hK
 refine Z2 ?_
 refine jaR rfl zq (fun q1=>jas (jad ?_));refine Z4 ?_;refine rr16 ?_;refine Z3 ?_
 refine jaJ rfl zq (fun hc=>?_) (fun hc=>?_)
 ·refine Z19 ?_;refine D92 ?_;refine Zs ?_
  first
   |exact E56
   |exact E57
   |exact E58
   |exact E59
   |exact E60
   |exact E61
   |exact ⟨rfl,IsB.no fun e=>by
     rcases e with e|e|e|⟨i,hi,e⟩|e|e
     ·omega
     ·omega
     ·omega
     ·exact hgo i zO e
     ·exact hgw e
     ·exact hgb e⟩
 ·refine Z2 ?_;refine jis rfl rfl ?_;refine jhh rfl rfl ?_
  refine jaJ rfl rfl (fun hc=>?_) (fun hc=>?_)
  ·refine Z14 ?_;refine D92 ?_;refine Zs ?_
   first
    |exact E56
    |exact E57
    |exact E58
    |exact E59
    |exact E60
    |exact E61
    |exact ⟨rfl,IsB.no fun e=>by
      rcases e with e|e|e|⟨i,hi,e⟩|e|e
      ·omega
      ·omega
      ·omega
      ·exact hgo i zO e
      ·exact hgw e
      ·exact hgb e⟩
  ·refine Z3 ?_;refine jis rfl rfl ?_;refine jhh rfl rfl ?_
   refine jaJ rfl rfl (fun hc=>?_) (fun hc=>?_)
   ·refine Z8 ?_;refine D92 ?_;refine Zs ?_
    first
     |exact E56
     |exact E57
     |exact E58
     |exact E59
     |exact E60
     |exact E61
     |exact ⟨rfl,IsB.no fun e=>by
       rcases e with e|e|e|⟨i,hi,e⟩|e|e
       ·omega
       ·omega
       ·omega
       ·exact hgo i zO e
       ·exact hgw e
       ·exact hgb e⟩
   ·refine Z10 ?_
    refine jaj (fun nn l h'=> ∃(j:Nat),nn=ns-j∧(j≤ns)∧(∀i,i<j→ ¬100<(b.sts.getD i []).length)∧(∃U:Nat→Value,l=((tbV b ps ns ks pw nw cw pb nb cb)::(.pointer (some ⟨q1,0,none⟩))::(U 2)::(.int .i64 (j:Int))::vw38 U 4 []))∧h++[⟨true,q1,.cells (tbL b ps ns ks pw nw cw pb nb cb).toArray 25 (0,0)⟩]=h') _ ⟨0,rfl,by omega,fun i hi=>absurd hi zO,exU rfl,rfl⟩ ?_;rintro nn l h' ⟨j,rfl,hj,hgo,⟨U,rfl⟩,rfl⟩ hnext;refine Z7 ?_
    refine jal rfl zq (fun hc=>?_) (fun hc=>?_)
    ·refine Z6 ?_
     obtain ⟨sb,so,hsp⟩:=rds.ptr zO
     have rds2:=rds
     rw [hsp] at rds2
     refine Z4 ?_;refine jci rfl zq hsp zO zO ?_;refine jbc rfl zq ((rds2.sat j zO zO).keeps (List.sublist_append_left _ _)) ?_;refine Zs ?_
     refine jaJ rfl zq (fun hc=>?_) (fun hc=>?_)
     ·refine Z7 ?_;refine D92 ?_;refine Zs ?_
      first
       |exact E56
       |exact E57
       |exact E58
       |exact E59
       |exact E60
       |exact E61
       |exact ⟨rfl,IsB.no fun e=>by
         rcases e with e|e|e|⟨i,hi,e⟩|e|e
         ·omega
         ·omega
         ·omega
         ·exact hgo i zO e
         ·exact hgw e
         ·exact hgb e⟩
     ·refine Z9 ?_
      exact m.weak jaa (hnext _ _ _ zO ⟨j+1,rfl,by omega,fun i hi=>by
       by_cases e:i<j
       ·exact hgo i e
       ·obtain rfl:i=j:=by omega
        omega,exU rfl,rfl⟩)
    ·refine Z7 ?_;refine jah (Post:=fun v=>IsB _ v) rfl zq zK (fun H' hH=>f86_c m H' (rdw.keeps (sq hH)) zO) ?_
     rintro v (⟨hc,rfl⟩|⟨hc,rfl⟩)
     ·refine Zs ?_
      have hgw:=hc
      refine Z8 ?_;refine D92 ?_;refine Zs ?_
      first
       |exact E56
       |exact E57
       |exact E58
       |exact E59
       |exact E60
       |exact E61
       |exact ⟨rfl,IsB.no fun e=>by
         rcases e with e|e|e|⟨i,hi,e⟩|e|e
         ·omega
         ·omega
         ·omega
         ·exact hgo i zO e
         ·exact hgw e
         ·exact hgb e⟩
     ·refine Zs ?_
      have hgw:=hc
      refine Z2 ?_;refine jis rfl rfl ?_;refine jah (Post:=fun v=>IsB _ v) rfl rfl zK (fun H' hH=>f86_c m H' (rdb.keeps (sq hH)) zO) ?_
      rintro v (⟨hc,rfl⟩|⟨hc,rfl⟩);all_goals
       refine Zs ?_
       have hgb:=hc
       refine Z4 ?_;refine D92 ?_;refine Zs ?_
       first
        |exact E56
        |exact E57
        |exact E58
        |exact E59
        |exact E60
        |exact E61
        |exact ⟨rfl,IsB.no fun e=>by
          rcases e with e|e|e|⟨i,hi,e⟩|e|e
          ·omega
          ·omega
          ·omega
          ·exact hgo i zO e
          ·exact hgw e
          ·exact hgb e⟩
theorem f25_c (m:Md Tryz.prog B) (h:Hp) (rds:RdS B h 1 (.slice ps ns ks) ns (jax b.sts)) (hcs:ns≤ks) (rdw:RdLn B h (.slice pw nw cw) nw b.waters) (rdb:RdLn B h (.slice pb nb cb) nb b.butts):FnC m 25 #[tbV b ps ns ks pw nw cw pb nb cb] h fun v h'=>h'=h∧IsB (FitT b) v:=by
 have hml:=rds.elen zA
 have hwl:=jbN rdw
 have hbl:=jbN rdb
 refine jae Tryz.func25 rfl rfl (l:=(tbV b ps ns ks pw nw cw pb nb cb)::uu10) rfl ?_
 intro cf cs K hK
 refine Z2 ?_
 refine jaR rfl zq (fun q1=>jas (jad ?_));refine Z5 ?_;refine jah (Post:=fun v=>IsB _ v) rfl zq zK (fun H' hH=>f19_c m H' (rds.keeps (sq hH)) hcs (rdw.keeps (sq hH)) (rdb.keeps (sq hH))) ?_
 rintro v (⟨hc,rfl⟩|⟨hc,rfl⟩)
 ·refine Zs ?_
  have hgr:=hc
  refine Z9 ?_;refine jac (h) rfl Tryz.func25 rfl jaa ?_;refine Zs ?_
  exact E62
 ·refine Zs ?_
  have hgr:=hc
  have hl1:ns≤20:=Nat.le_of_not_lt fun x=>hgr (.inl zO)
  have hl2:nw≤20:=Nat.le_of_not_lt fun x=>hgr (.inr (.inl zO))
  have hl3:nb≤20:=Nat.le_of_not_lt fun x=>hgr (.inr (.inr (.inl zO)))
  have hsm:=jnq hgr
  refine Z2 ?_;refine jjk rfl rfl ?_;refine jah (Post:=fun v=>v=_) rfl rfl zK (fun H' hH=>f66_c m H' (rds.keeps (sq hH)) hcs zO hsm.sts (rdw.keeps (sq hH)) zO (rdb.keeps (sq hH)) zO hsm) ?_
  rintro v rfl;refine Zs ?_
  refine jaL rfl rfl (fun hc=>?_) (fun hc=>?_);all_goals
   refine Z4 ?_;refine jac (h) rfl Tryz.func25 rfl jaa ?_;refine Zs ?_
   exact E62
theorem f61_c (m:Md Tryz.prog B) (h:Hp) {c n2 c2:Nat} {xs:List Int} (rd:RdS B h 1 (.slice p n c) n (jat xs)) (hn:n≤1000000) (rd2:RdS B h 1 (.slice p2 n2 c2) n2 (jat ys)):FnC m 61 #[.slice p n c,.slice p2 n2 c2] h fun v h'=>h'=h∧IsB (xs=ys) v:=by
 refine jae Tryz.func61 rfl rfl (l:=(.slice p n c)::(.slice p2 n2 c2)::uu6) rfl ?_
 intro cf cs K hK
 refine Z8 ?_;refine jah (Post:=fun v=>IsB _ v) rfl zq zK (fun H' hH=>f42_c m H' (rd.keeps (sq hH)) hn (rd2.keeps (sq hH))) ?_
 rintro v (⟨hc,rfl⟩|⟨hc,rfl⟩);all_goals
  refine Z4 ?_;refine jac (h) rfl Tryz.func61 rfl jaa ?_;refine Zs ?_
 ·exact ⟨rfl,IsB.yes hc⟩
 ·exact ⟨rfl,IsB.no hc⟩
end
section
variable [LaidO B]
def exT:Tb:=⟨1,[[97],[98]],[⟨64,[[49,45,50,45,51],[49,45,63,45,48]]⟩,⟨128,[[49,45,54,45,48],[49,45,52,45,52]]⟩],[⟨96,[[48,45,53,45,48],[48,45,57,45,48]]⟩]⟩
theorem f87_c (m:Md Tryz.prog B) (h:Hp):FnC m 87 #[] h fun v h'=> ∃nw,h'=h++nw∧ ∃ps pw pb,v=tbV exT ps 2 2 pw 2 2 pb 1 1∧RawTb B nw exT ps 2 2 pw 2 2 pb 1 1:=by
 refine jae Tryz.func87 rfl rfl (l:=uu11) rfl ?_
 intro cf cs K hK
 refine Z2 ?_
 refine jaw rfl zq (fun q0=>jas (jad ?_));refine Z2 ?_;refine jpu ?_
 refine jdB kdq rfl zq zA zA rfl (fun q1=>jas (jad ?_));refine jdB kdq rfl zq zA zA rfl (fun q2=>jas (jad ?_));refine D34 ?_
 refine jdB kdq rfl zq zA zA rfl (fun q4=>jas (jad ?_));refine D34 ?_
 refine jdB kdq rfl zq zA zA rfl (fun q6=>jas (jad ?_));refine jdB kdq rfl zq zA zA rfl (fun q7=>jas (jad ?_));refine D34 ?_
 refine jdB kdq rfl zq zA zA rfl (fun q9=>jas (jad ?_));refine D34 ?_;refine jnd ?_;refine jac (h++[⟨true,q1,.cells ([str [97],str [98]]:List Value).toArray 9 (0,0)⟩,⟨true,q2,.cells ([str [49,45,50,45,51],str [49,45,63,45,48]]:List Value).toArray 9 (0,0)⟩,⟨true,q4,.cells ([str [49,45,54,45,48],str [49,45,52,45,52]]:List Value).toArray 9 (0,0)⟩,⟨true,q6,.cells ([.int .i64 64,.slice (some ⟨q2,0,none⟩) 2 2,.int .i64 128,.slice (some ⟨q4,0,none⟩) 2 2]:List Value).toArray 121 (0,0)⟩,⟨true,q7,.cells ([str [48,45,53,45,48],str [48,45,57,45,48]]:List Value).toArray 9 (0,0)⟩,⟨true,q9,.cells ([.int .i64 96,.slice (some ⟨q7,0,none⟩) 2 2]:List Value).toArray 121 (0,0)⟩]) rfl Tryz.func87 rfl jaa ?_;refine Zs ?_
 refine ⟨_,rfl,_,_,_,rfl,⟨jfk (ys:=jax exT.sts) (x:=⟨List.mem_cons_self⟩) rfl,by decide,by decide,⟨[⟨⟨64,[[49,45,50,45,51],[49,45,63,45,48]]⟩,some ⟨q2,0,none⟩,2⟩,⟨⟨128,[[49,45,54,45,48],[49,45,52,45,52]]⟩,some ⟨q4,0,none⟩,2⟩],rfl,jfk (ys:=jax ([⟨⟨64,[[49,45,50,45,51],[49,45,63,45,48]]⟩,some ⟨q2,0,none⟩,2⟩,⟨⟨128,[[49,45,54,45,48],[49,45,52,45,52]]⟩,some ⟨q4,0,none⟩,2⟩]:List Lp)) (x:=⟨by right;right;right;left⟩) rfl,fun x hx=>?_⟩,by decide,⟨[⟨⟨96,[[48,45,53,45,48],[48,45,57,45,48]]⟩,some ⟨q7,0,none⟩,2⟩],rfl,jfk (ys:=jax ([⟨⟨96,[[48,45,53,45,48],[48,45,57,45,48]]⟩,some ⟨q7,0,none⟩,2⟩]:List Lp)) (x:=⟨by right;right;right;right;right;left⟩) rfl,fun x hx=>?_⟩,by decide,⟨by decide,by decide,by decide⟩⟩⟩
 ·rcases List.mem_cons.1 hx with rfl|hx
  ·exact ⟨Nat.le_refl _,fun _=>jfk (ys:=jax ([[49,45,50,45,51],[49,45,63,45,48]]:List Str)) (x:=⟨by right;left⟩) rfl⟩
  ·obtain rfl:=List.mem_singleton.1 hx
   exact ⟨Nat.le_refl _,fun _=>jfk (ys:=jax ([[49,45,54,45,48],[49,45,52,45,52]]:List Str)) (x:=⟨by right;right;left⟩) rfl⟩
 ·obtain rfl:=List.mem_singleton.1 hx
  exact ⟨Nat.le_refl _,fun _=>jfk (ys:=jax ([[48,45,53,45,48],[48,45,57,45,48]]:List Str)) (x:=⟨by right;right;right;right;left⟩) rfl⟩
end
section
variable [LaidO B]
theorem hhrd {c:Nat} {M:Hp} (o:HalfO (.slice p n c) n lns M) (s:M.Sublist H):RdLn B H (.slice p n c) n lns:=by
 obtain ⟨p',c',e,r⟩:=o.rd (B:=B)
 cases e
 exact r.keeps s
theorem f94_l (m:Md Tryz.prog B) (hs:h.Sublist H) (rlw:RdS B h 2 (.slice pw nw cw) nw (jax lw)) (rlb:RdS B h 2 (.slice pb nb cb) nb (jax lb)) {bt:Bool} {li st:Int} (h0:0≤li) (h1:li<(if bt then lb else lw).length):FnC m 94 #[tbV b ps ns ks pw nw cw pb nb cb,cV bt li st] H fun v h'=>h'=H∧v=lpV ((if bt then lb else lw).getD li.toNat default):=by
 refine jae Tryz.func94 rfl rfl (l:=(tbV b ps ns ks pw nw cw pb nb cb)::(cV bt li st)::uu17) rfl ?_
 intro cf cs K hK
 refine Z2 ?_
 refine jaR rfl zq (fun q2=>jas (jad ?_));refine jaR rfl zq (fun q3=>jas (jad ?_));refine jaw rfl zq (fun q4=>jas (jad ?_));refine Z7 ?_
 refine jdI (fun hc=>?_) (fun hc=>?_);first|replace hc:=of_decide_eq_true hc|replace hc:=of_decide_eq_false hc|skip
 refine Zs ?_
 subst hc
 have hlt:li<lb.length:=h1
 have hll:=rlb.elen zA
 obtain ⟨z_b,z_o,hzp⟩:=rlb.ptr zO
 have rlg:=rlb.keeps hs
 rotate_left
 first|replace hc:=of_decide_eq_true hc|replace hc:=of_decide_eq_false hc|skip
 refine Z2 ?_
 subst hc
 have hlt:li<lw.length:=h1
 have hll:=rlw.elen zA
 obtain ⟨z_b,z_o,hzp⟩:=rlw.ptr zO
 have rlg:=rlw.keeps hs
 all_goals
  rw [hzp] at rlg
  refine Zs ?_
 ·refine Z4 ?_;refine D61 ?_;refine jcD (vs:=lpL (lw.getD li.toNat default)) rfl zq rfl (rlg.eat li.toNat zO zO) ?_;refine jnd ?_;refine D112 ?_;refine Zs ?_
  exact ⟨rfl,rfl⟩
 ·refine Z4 ?_;refine D61 ?_;refine jcD (vs:=lpL (lb.getD li.toNat default)) rfl zq rfl (rlg.eat li.toNat zO zO) ?_;refine jnd ?_;refine D112 ?_;refine Zs ?_
  exact ⟨rfl,rfl⟩
theorem f33_c (m:Md Tryz.prog B) (h:Hp) (rlw:RdS B h 2 (.slice pw nw cw) nw (jax lw)) (rlb:RdS B h 2 (.slice pb nb cb) nb (jax lb)) (hnw:nw≤1000) (hnb:nb≤1000) (hfw: ∀x∈lw,x.ln.figs.length≤x.c∧RdS B h 1 (.slice x.p x.ln.figs.length x.c) x.ln.figs.length (jax x.ln.figs)) (hfb: ∀x∈lb,x.ln.figs.length≤x.c∧RdS B h 1 (.slice x.p x.ln.figs.length x.c) x.ln.figs.length (jax x.ln.figs)) (hsmw: ∀l∈lw.map (·.ln),l.figs.length≤1000) (hsmb: ∀l∈lb.map (·.ln),l.figs.length≤1000) (bt:Bool) (li st:Int) (f:Str) (hli0:0≤li) (hli1:li<((if bt then lb else lw).length:Int)) (hst0:0≤st) (hst1:st<(((if bt then lb else lw).getD li.toNat default).ln.figs.length:Int)):FnC m 33 #[tbV b ps ns ks pw nw cw pb nb cb,cV bt li st,str f] h fun v h'=> ∃nz pw' cw' pb' cb',h'=h++nz∧v=tbV b ps ns ks pw' nw cw' pb' nb cb'∧RdLn B nz (.slice pw' nw cw') nw (if bt then lw.map (·.ln) else ji1 (lw.map (·.ln)) li.toNat st.toNat f)∧RdLn B nz (.slice pb' nb cb') nb (if bt then ji1 (lb.map (·.ln)) li.toNat st.toNat f else lb.map (·.ln)):=by
 have hlw:=rlw.elen zA
 have hlb:=rlb.elen zA
 refine jae Tryz.func33 rfl rfl (l:=(tbV b ps ns ks pw nw cw pb nb cb)::(cV bt li st)::(str f)::uu73) rfl ?_
 intro cf cs K hK
 refine Z2 ?_
 refine jaR rfl zq (fun q3=>jas (jad ?_));refine jaR rfl zq (fun q4=>jas (jad ?_));refine jaw rfl zq (fun q6=>jas (jad ?_));refine Z4 ?_
 refine jaw rfl zq (fun q7=>jas (jad ?_));refine D5 ?_;refine Z4 ?_;refine joq ?_;refine D9 ?_;refine Z7 ?_
 refine jaj (fun nn l h'=> ∃(i:Nat) (p1:Option Addr) (c1:Nat) (xw:List Lp) (W0 FM0:Hp),nn=nw-i∧(i≤nw)∧(xw.map (·.ln)=(lw.map (·.ln)).take i)∧(OwnS 121 2 (.slice p1 i c1) i (jax xw) W0)∧(OwnF xw FM0)∧(∃U:Nat→Value,l=((tbV b ps ns ks pw nw cw pb nb cb)::(cV bt li st)::(str f)::(.pointer (some ⟨q3,0,none⟩))::(.pointer (some ⟨q4,0,none⟩))::(U 5)::(.pointer (some ⟨q6,0,none⟩))::(.pointer (some ⟨q7,0,none⟩))::(.int .i64 (i:Int))::vw67 U 9 []))∧h++[⟨true,q3,.cells (tbL b ps ns ks pw nw cw pb nb cb).toArray 25 (0,0)⟩,⟨true,q4,.cells [.bool bt,.int .i64 li,.int .i64 st].toArray 37 (0,0)⟩,⟨true,q6,.cells [.int .i64 0,.slice none 0 0,.slice none 0 0,.slice none 0 0].toArray 25 (0,0)⟩,⟨true,q7,.cells [.int .i64 b.wrong,.slice ps ns ks,.slice p1 i c1,.slice none 0 0].toArray 25 (0,0)⟩]++W0++FM0=h') _ ⟨0,none,0,[],[],[],rfl,by omega,rfl,OwnS.nil,OwnF.nil,exU rfl,zS⟩ ?_;rintro nn l h' ⟨i,p1,c1,xw,W0,FM0,rfl,hi,hmap0,how0,hof0,⟨U,rfl⟩,rfl⟩ hnext1;refine Z7 ?_
 refine jal rfl zq (fun hc=>?_) (fun hc=>?_)
 ·refine Z5 ?_
  obtain ⟨z_b,z_o,hzp⟩:=rlw.ptr zO
  have rl2:=rlw
  rw [hzp] at rl2
  obtain ⟨hxc,rdf⟩:=hfw _ (jak (l:=lw) (i:=i) zO)
  obtain ⟨x,hx⟩: ∃x,x=lw.getD i default:=⟨_,rfl⟩
  rw [←hx] at hxc rdf
  have hxm:x∈lw:=hx▸jak zO
  have hxl:x.ln.figs.length≤1000:=by
   have:=hsmw x.ln (List.mem_map.2 ⟨x,hxm,rfl⟩)
   exact this
  refine jcg (S:=h++[⟨true,q3,.cells (tbL b ps ns ks pw nw cw pb nb cb).toArray 25 (0,0)⟩,⟨true,q4,.cells [.bool bt,.int .i64 li,.int .i64 st].toArray 37 (0,0)⟩,⟨true,q6,.cells [.int .i64 0,.slice none 0 0,.slice none 0 0,.slice none 0 0].toArray 25 (0,0)⟩,⟨true,q7,.cells [.int .i64 b.wrong,.slice ps ns ks,.slice p1 i c1,.slice none 0 0].toArray 25 (0,0)⟩]) [0,1,2,3,4,5,6,7,8,9,10,11,12,13,14,15,16,17,18,19,20] zK zK SubH.sub ?_;refine D32 ?_;refine Z7 ?_;refine D61 ?_;refine Zs ?_;refine jbc (v:= .int .i64 x.ln.lat) rfl zq (hx▸rl2.fat i 0 zO zO rfl) ?_;refine Zs ?_;refine D61 ?_;refine Zs ?_;refine jbc (v:= .slice x.p x.ln.figs.length x.c) rfl zq (hx▸rl2.fat i 1 zO zO rfl) ?_;refine jo4 kdq rfl zq (fun q28=>jas (jad ?_));refine jn5 rfl zq (OwnS.zero (q:=q28)) rdf.up (fun u hu=>jec _ u hu) kdq zO zO (fun w35 n35 o35=>jad ?_);replace o35:OwnS 9 1 w35 x.ln.figs.length (jax x.ln.figs) n35:=by simpa using o35
  obtain ⟨p35,c35,rfl,hc35,r35⟩:=jao (B:=B) o35
  refine D34 ?_
  refine jdB kdq rfl zq zA zA rfl (fun q37=>jas (jad ?_));refine jbd rfl zq rfl how0 kdq zO zO (fun w38 n38 o38=>jad ?_);replace o38:OwnS 121 2 w38 (i+1) (jax (xw++[⟨x.ln,p35,c35⟩])) n38:=by rw [jaz];exact o38
  obtain ⟨p38,c38,rfl,_⟩:=o38.len
  refine Zs ?_;refine D9 ?_;refine Z7 ?_;refine m.weak (h':=h++[⟨true,q3,.cells (tbL b ps ns ks pw nw cw pb nb cb).toArray 25 (0,0)⟩,⟨true,q4,.cells [.bool bt,.int .i64 li,.int .i64 st].toArray 37 (0,0)⟩,⟨true,q6,.cells [.int .i64 0,.slice none 0 0,.slice none 0 0,.slice none 0 0].toArray 25 (0,0)⟩,⟨true,q7,.cells [.int .i64 b.wrong,.slice ps ns ks,.slice p38 (i+1) c38,.slice none 0 0].toArray 25 (0,0)⟩]++n38++(FM0++n35)) jen ?_
  exact hnext1 _ _ _ zO ⟨i+1,_,_,xw++[⟨x.ln,p35,c35⟩],n38,FM0++n35,rfl,by omega,by rw [List.map_append,hmap0,List.take_add_one,List.getElem?_eq_getElem zI];simp only [List.getElem_map,Option.toList_some,List.map_cons,List.map_nil];rw [hx,List.getD_eq_getElem?_getD,List.getElem?_eq_getElem zO];rfl,o38,.snoc hof0 o35,exU rfl,rfl⟩
 ·refine Z5 ?_
  obtain rfl:nw=i:=by omega
  refine Z4 ?_
  refine jaj (fun nn l h'=> ∃(i:Nat) (p2:Option Addr) (c2:Nat) (xs:List Lp) (W FM:Hp),nn=nb-i∧(i≤nb)∧(xs.map (·.ln)=(lb.map (·.ln)).take i)∧(OwnS 121 2 (.slice p2 i c2) i (jax xs) W)∧(OwnF xs FM)∧(∃U:Nat→Value,l=((tbV b ps ns ks pw nw cw pb nb cb)::(cV bt li st)::(str f)::(.pointer (some ⟨q3,0,none⟩))::(.pointer (some ⟨q4,0,none⟩))::(U 5)::(.pointer (some ⟨q6,0,none⟩))::(.pointer (some ⟨q7,0,none⟩))::(U 8)::(.int .i64 (i:Int))::vw66 U 10 []))∧h++[⟨true,q3,.cells (tbL b ps ns ks pw nw cw pb nb cb).toArray 25 (0,0)⟩,⟨true,q4,.cells [.bool bt,.int .i64 li,.int .i64 st].toArray 37 (0,0)⟩,⟨true,q6,.cells [.int .i64 0,.slice none 0 0,.slice none 0 0,.slice none 0 0].toArray 25 (0,0)⟩,⟨true,q7,.cells [.int .i64 b.wrong,.slice ps ns ks,.slice p1 nw c1,.slice p2 i c2].toArray 25 (0,0)⟩]++W0++FM0++W++FM=h') _ ⟨0,none,0,[],[],[],rfl,by omega,rfl,OwnS.nil,OwnF.nil,exU rfl,zS⟩ ?_;rintro nn l h' ⟨i,p2,c2,xs,W,FM,rfl,hi2,hmap,how,hof,⟨U,rfl⟩,rfl⟩ hnext2;refine Z7 ?_
  refine jal rfl zq (fun hc=>?_) (fun hc=>?_)
  ·refine Z5 ?_
   obtain ⟨z_b,z_o,hzp⟩:=rlb.ptr zO
   have rl2:=rlb
   rw [hzp] at rl2
   obtain ⟨hxc,rdf⟩:=hfb _ (jak (l:=lb) (i:=i) zO)
   obtain ⟨x,hx⟩: ∃x,x=lb.getD i default:=⟨_,rfl⟩
   rw [←hx] at hxc rdf
   have hxm:x∈lb:=hx▸jak zO
   have hxl:x.ln.figs.length≤1000:=by
    have:=hsmb x.ln (List.mem_map.2 ⟨x,hxm,rfl⟩)
    exact this
   refine jcg (S:=h++[⟨true,q3,.cells (tbL b ps ns ks pw nw cw pb nb cb).toArray 25 (0,0)⟩,⟨true,q4,.cells [.bool bt,.int .i64 li,.int .i64 st].toArray 37 (0,0)⟩,⟨true,q6,.cells [.int .i64 0,.slice none 0 0,.slice none 0 0,.slice none 0 0].toArray 25 (0,0)⟩,⟨true,q7,.cells [.int .i64 b.wrong,.slice ps ns ks,.slice p1 nw c1,.slice p2 i c2].toArray 25 (0,0)⟩]) [0,1,2,3,4,5,6,7,8,9,10,11,12,13,14,15,16,17,18,19,20] zK zK SubH.sub ?_;refine D32 ?_;refine Z7 ?_;refine D61 ?_;refine Zs ?_;refine jbc (v:= .int .i64 x.ln.lat) rfl zq (hx▸rl2.fat i 0 zO zO rfl) ?_;refine Zs ?_;refine D61 ?_;refine Zs ?_;refine jbc (v:= .slice x.p x.ln.figs.length x.c) rfl zq (hx▸rl2.fat i 1 zO zO rfl) ?_;refine jo4 kdq rfl zq (fun q55=>jas (jad ?_));refine jn5 rfl zq (OwnS.zero (q:=q55)) rdf.up (fun u hu=>jec _ u hu) kdq zO zO (fun w35 n35 o35=>jad ?_);replace o35:OwnS 9 1 w35 x.ln.figs.length (jax x.ln.figs) n35:=by simpa using o35
   obtain ⟨p35,c35,rfl,hc35,r35⟩:=jao (B:=B) o35
   refine D34 ?_
   refine jdB kdq rfl zq zA zA rfl (fun q64=>jas (jad ?_));refine jbd rfl zq rfl how kdq zO zO (fun w38 n38 o38=>jad ?_);replace o38:OwnS 121 2 w38 (i+1) (jax (xs++[⟨x.ln,p35,c35⟩])) n38:=by rw [jaz];exact o38
   obtain ⟨p38,c38,rfl,_⟩:=o38.len
   refine Zs ?_;refine D9 ?_;refine Z7 ?_;refine m.weak (h':=h++[⟨true,q3,.cells (tbL b ps ns ks pw nw cw pb nb cb).toArray 25 (0,0)⟩,⟨true,q4,.cells [.bool bt,.int .i64 li,.int .i64 st].toArray 37 (0,0)⟩,⟨true,q6,.cells [.int .i64 0,.slice none 0 0,.slice none 0 0,.slice none 0 0].toArray 25 (0,0)⟩,⟨true,q7,.cells [.int .i64 b.wrong,.slice ps ns ks,.slice p1 nw c1,.slice p38 (i+1) c38].toArray 25 (0,0)⟩]++W0++FM0++n38++(FM++n35)) jen ?_
   exact hnext2 _ _ _ zO ⟨i+1,_,_,xs++[⟨x.ln,p35,c35⟩],n38,FM++n35,rfl,by omega,by rw [List.map_append,hmap,List.take_add_one,List.getElem?_eq_getElem zI];simp only [List.getElem_map,Option.toList_some,List.map_cons,List.map_nil];rw [hx,List.getD_eq_getElem?_getD,List.getElem?_eq_getElem zO];rfl,o38,.snoc hof o35,exU rfl,rfl⟩
  ·refine Z4 ?_
   obtain rfl:nb=i:=by omega
   rw [List.take_of_length_le zI] at hmap hmap0
   have hxwl:xw.length=nw:=by have:=congrArg List.length hmap0;simp only [List.length_map] at this;omega
   have hxsl:xs.length=nb:=by have:=congrArg List.length hmap;simp only [List.length_map] at this;omega
   cases bt
   replace hli1:li<(lw.length:Int):=by simpa using hli1
   replace hst1:st<((lw.getD li.toNat default).ln.figs.length:Int):=by simpa using hst1
   obtain ⟨sj,hsj⟩:=Int.eq_ofNat_of_zero_le hst0
   obtain ⟨M1f,Fb,M2f,rfl,hofb,hset⟩:=hof0.at (show li.toNat<xw.length by omega)
   obtain ⟨y,hy⟩: ∃y,y=xw.getD li.toNat default:=⟨_,rfl⟩
   rw [←hy] at hofb
   have hyf:st<y.ln.figs.length:=by
    have h1:=hst1
    have h2:(lw.map (·.ln)).getD li.toNat default=y.ln:=by rw [←hmap0,jaX _ _ zO,←hy]
    rw [←h2,jaX _ _ zO];exact h1
   rotate_left
   replace hli1:li<(lb.length:Int):=by simpa using hli1
   replace hst1:st<((lb.getD li.toNat default).ln.figs.length:Int):=by simpa using hst1
   obtain ⟨sj,hsj⟩:=Int.eq_ofNat_of_zero_le hst0
   obtain ⟨M1f,Fb,M2f,rfl,hofb,hset⟩:=hof.at (show li.toNat<xs.length by omega)
   obtain ⟨y,hy⟩: ∃y,y=xs.getD li.toNat default:=⟨_,rfl⟩
   rw [←hy] at hofb
   have hyf:st<y.ln.figs.length:=by
    have h1:=hst1
    have h2:(lb.map (·.ln)).getD li.toNat default=y.ln:=by rw [←hmap,jaX _ _ zO,←hy]
    rw [←h2,jaX _ _ zO];exact h1
   all_goals
    obtain ⟨bf,fc,junkf,hfv,rfl,hfl,hfc,hfn⟩:=jcr hofb zO
    injection hfv with hyp _ hyc
    haveI hsf:=jgk (ss:=y.ln.figs) (junk:=junkf) (j:=st) (i:=sj) hsj zO f
    have hrw:=how0.rd (B:=B) (List.Sublist.refl _)
    have hrb:=how.rd (B:=B) (List.Sublist.refl _)
    refine jar [Zp 4,Zp 6,Zr 0,Zr 1,Zr 5,Zk 2,Zp 3,Zp 7,Zf 8] zK zK (List.Sublist.refl _) ?_
   ·refine Z5 ?_
    refine jah (Post:=fun v=>v=lpV y) rfl zq zK (fun H' hH=>by
     have h1:=f94_l m (h:=h++[⟨true,q3,.cells (tbL b ps ns ks pw nw cw pb nb cb).toArray 25 (0,0)⟩,⟨true,q4,.cells [.bool true,.int .i64 li,.int .i64 st].toArray 37 (0,0)⟩,⟨true,q6,.cells [.int .i64 0,.slice none 0 0,.slice none 0 0,.slice none 0 0].toArray 25 (0,0)⟩,⟨true,q7,.cells [.int .i64 b.wrong,.slice ps ns ks,.slice p1 nw c1,.slice p2 nb c2].toArray 25 (0,0)⟩]++W0++FM0++W++(M1f++[⟨true,bf,.cells (jax y.ln.figs++junkf).toArray 9 (0,0)⟩]++M2f)) (H:=H') (by exact hH) (b:=b) (ps:=ps) (ns:=ns) (ks:=ks) (rlw:=hrw.up) (rlb:=hrb.up) (bt:=true) (li:=li) (st:=st) hli0 (by show li<(xs.length:Int);omega)
     rw [hy];exact h1) ?_
    rintro v rfl;refine Zs ?_;refine k_fld rfl zq ?_;refine D113 ?_;refine D9 ?_;refine Z2 ?_
    have hy2:OwnS 9 1 (.slice y.p (y.ln.figs.set sj f).length y.c) (y.ln.figs.set sj f).length (jax (y.ln.figs.set sj f)) [⟨true,bf,.cells (jax (y.ln.figs.set sj f)++junkf).toArray 9 (0,0)⟩]:=by
     rw [hyp,hyc];exact E49
    have hnew:=hset ⟨⟨y.ln.lat,y.ln.figs.set sj f⟩,y.p,y.c⟩ _ hy2
    have hH1:HalfO (.slice p2 nb c2) nb (ji1 (lb.map (·.ln)) li.toNat st.toNat f) (W++(M1f++[⟨true,bf,.cells (jax (y.ln.figs.set sj f)++junkf).toArray 9 (0,0)⟩]++M2f)):=by
     refine ⟨_,_,_,_,_,rfl,?_,?_,hnew,rfl⟩
     ·have:=jhs hmap (show li.toNat<xs.length by omega) (k:=sj) f y.p y.c
      rw [←hy] at this
      rw [show st.toNat=sj by omega];exact this
     ·rw [jc1 zO (by rw [←hy];simp [lpL])];exact how
    have hH2:HalfO (.slice p1 nw c1) nw (lw.map (·.ln)) (W0++FM0):=⟨xw,_,_,_,_,rfl,hmap0,how0,hof0,rfl⟩
    refine Z2 ?_;refine jnd ?_;refine jac (h++W0++FM0++W++(M1f++[⟨true,bf,.cells (jax (y.ln.figs.set sj f)++junkf).toArray 9 (0,0)⟩]++M2f)) rfl Tryz.func33 rfl jaa ?_;refine Zs ?_
    exact ⟨W0++FM0++W++(M1f++[⟨true,bf,.cells (jax (y.ln.figs.set sj f)++junkf).toArray 9 (0,0)⟩]++M2f),p1,c1,p2,c2,by simp only [List.append_assoc],rfl,hhrd hH2 (by exact (List.sublist_append_left _ _).trans (List.sublist_append_left _ _)),hhrd hH1 (by rw [List.append_assoc (W0++_)];exact List.sublist_append_right _ _)⟩
   ·refine Z5 ?_
    refine jah (Post:=fun v=>v=lpV y) rfl zq zK (fun H' hH=>by
     have h1:=f94_l m (h:=h++[⟨true,q3,.cells (tbL b ps ns ks pw nw cw pb nb cb).toArray 25 (0,0)⟩,⟨true,q4,.cells [.bool false,.int .i64 li,.int .i64 st].toArray 37 (0,0)⟩,⟨true,q6,.cells [.int .i64 0,.slice none 0 0,.slice none 0 0,.slice none 0 0].toArray 25 (0,0)⟩,⟨true,q7,.cells [.int .i64 b.wrong,.slice ps ns ks,.slice p1 nw c1,.slice p2 nb c2].toArray 25 (0,0)⟩]++W0++(M1f++[⟨true,bf,.cells (jax y.ln.figs++junkf).toArray 9 (0,0)⟩]++M2f)++W++FM) (H:=H') (by exact hH) (b:=b) (ps:=ps) (ns:=ns) (ks:=ks) (rlw:=hrw.up) (rlb:=hrb.up) (bt:=false) (li:=li) (st:=st) hli0 (by show li<(xw.length:Int);omega)
     rw [hy];exact h1) ?_
    rintro v rfl;refine Zs ?_;refine k_fld rfl zq ?_;refine D113 ?_;refine D9 ?_;refine Z2 ?_
    have hy2:OwnS 9 1 (.slice y.p (y.ln.figs.set sj f).length y.c) (y.ln.figs.set sj f).length (jax (y.ln.figs.set sj f)) [⟨true,bf,.cells (jax (y.ln.figs.set sj f)++junkf).toArray 9 (0,0)⟩]:=by
     rw [hyp,hyc];exact E49
    have hnew:=hset ⟨⟨y.ln.lat,y.ln.figs.set sj f⟩,y.p,y.c⟩ _ hy2
    have hH1:HalfO (.slice p1 nw c1) nw (ji1 (lw.map (·.ln)) li.toNat st.toNat f) (W0++(M1f++[⟨true,bf,.cells (jax (y.ln.figs.set sj f)++junkf).toArray 9 (0,0)⟩]++M2f)):=by
     refine ⟨_,_,_,_,_,rfl,?_,?_,hnew,rfl⟩
     ·have:=jhs hmap0 (show li.toNat<xw.length by omega) (k:=sj) f y.p y.c
      rw [←hy] at this
      rw [show st.toNat=sj by omega];exact this
     ·rw [jc1 zO (by rw [←hy];simp [lpL])];exact how0
    have hH2:HalfO (.slice p2 nb c2) nb (lb.map (·.ln)) (W++FM):=⟨xs,_,_,_,_,rfl,hmap,how,hof,rfl⟩
    refine Z2 ?_;refine jnd ?_;refine jac (h++W0++(M1f++[⟨true,bf,.cells (jax (y.ln.figs.set sj f)++junkf).toArray 9 (0,0)⟩]++M2f)++W++FM) rfl Tryz.func33 rfl jaa ?_;refine Zs ?_
    exact ⟨W0++(M1f++[⟨true,bf,.cells (jax (y.ln.figs.set sj f)++junkf).toArray 9 (0,0)⟩]++M2f)++W++FM,p1,c1,p2,c2,by simp only [List.append_assoc],rfl,hhrd hH1 (by exact (List.sublist_append_left _ _).trans (List.sublist_append_left _ _)),hhrd hH2 (by rw [List.append_assoc (W0++_)];exact List.sublist_append_right _ _)⟩
end
theorem jnW {p:Nat→Bool} {g:List Int} (ha:Asc g) (hx: ∀x∈g,0≤x∧x<(n:Int)) (h1:p (jbv g)=true) (h2:((List.range (2^n)).all fun mm=>!p mm||!ltW (jbi mm n) g)=true):jeM (fun l=>p (jbv l)=true) n g:=by
 refine ⟨ha,hx,h1,fun xs ha' hx' hp hf=>?_⟩
 obtain ⟨mm,hmm,rfl⟩:=jqV ha' hx'
 have h3:=List.all_eq_true.1 h2 mm (List.mem_range.2 hmm)
 have hp':p (jbv (jbi mm n))=true:=hp
 rw [jfg hmm] at hp'
 rw [hp',jih.2 hf] at h3
 cases h3
def exN:Tb:={exT with wrong:=0}
def exC:Tb:=jbf exN ⟨false,0,1⟩ [49,45,50,45,48]
theorem ex_ok:tbS exT=0:=by kernel_rfl
theorem exN_ok:tbS exN=0:=by kernel_rfl
theorem jjV:tbS exC=0:=by kernel_rfl
theorem jog:(jaf exT).length=11:=by kernel_rfl
theorem jl6:(jaf exN).length=1:=by kernel_rfl
theorem jrF:(jaf exC).length=0:=by kernel_rfl
theorem ex_sound:jbn (cdT exT)=true:=by kernel_rfl
theorem jrD:jbn (cdT exC)=false:=by kernel_rfl
theorem exC_few:jeM (fun l=>fewB exC (jbv l)=true) 6 [1]:=jnW (by simp [Asc]) zA zK zK
theorem jrE:jeM (fun l=>jbG exC (jbv l)=true) 6 [1,5]:=jnW (by simp [Asc]) zA zK zK
def fiC:Ce:=⟨false,0,1⟩
def buC:Ce:=⟨true,0,1⟩
theorem jeb:ja3 exT 0=0∧ja3 exN 0=0∧ja3 exT (ji2 exT fiC)=0∧ja3 exN (ji2 exN fiC)=0∧ja3 exT (ji2 exT buC)=0∧ja3 exN (ji2 exN buC)=0:=by
 refine ⟨?_,?_,?_,?_,?_,?_⟩<;>kernel_rfl
theorem exT_can:jrY exT fiC=[96,104,112,120,128]:=by kernel_rfl
theorem exN_can:jrY exN fiC=[96]:=by kernel_rfl
theorem jrA:jka (jbu (jaf exT) (plN exT buC)) (jaf exT).length=0:=by kernel_rfl
theorem jrB:jka (jbu (jaf exN) (plN exN buC)) (jaf exN).length=2:=by kernel_rfl
theorem ex_fig:jg6 115=[49,45,50,45,51]:=by kernel_rfl
theorem jiH:ja0 [49,45,63,45,48]=true∧firstM (jbz [49,45,63,45,48])=96∧lastM (jbz [49,45,63,45,48])=184∧(jbz [49,45,63,45,48]).length=12:=by
 refine ⟨?_,?_,?_,?_⟩<;>kernel_rfl
theorem jm3:je7 exN false 1 96=(96,132):=by kernel_rfl
theorem jph:je7 exN true 1 100=(72,128):=by kernel_rfl
theorem jrC:ja3 exN (ownP exN 1 96)=0∧ja3 exN (ownP exN 1 100)=0:=by
 refine ⟨?_,?_⟩<;>kernel_rfl
theorem jm2:(jr5 exT).2=6∧(jr5 exT).1.isSome=true∧cOfA exT (jr5 exT).1=fiC:=by
 refine ⟨?_,?_,?_⟩<;>kernel_rfl
def exR:Tb:=jbf exT fiC (jeh (jfs exT fiC [49,45,48,45,63]))
def exP:Tb:=jbf exT buC [48,45,56,45,48]
theorem jl4:jkl exT fiC [49,45,48,45,63]=0∧tbS exR=0∧(jaf exR).length=7:=by
 refine ⟨?_,?_,?_⟩<;>kernel_rfl
theorem jl5:putS exT buC [48,45,56,45,48]=0∧tbS exP=0∧(jaf exP).length=38:=by
 refine ⟨?_,?_,?_⟩<;>kernel_rfl
section
variable [LaidO B]
theorem RdLn.ro (r:RdLn B h v n lns):RdLn B (Lo.ro h) v n lns:=by
 obtain ⟨lps,e,r1,r2⟩:=r
 exact ⟨lps,e,r1.ro,fun x hx=>⟨(r2 x hx).1,fun hp=>((r2 x hx).2 hp).ro⟩⟩
theorem RawTb.ro (r:RawTb B h b ps ns ks pw nw cw pb nb cb):RawTb B (Lo.ro h) b ps ns ks pw nw cw pb nb cb:=
 ⟨r.s.ro,r.sc,r.sn,RdLn.ro r.w,r.wn,RdLn.ro r.u,r.un,r.sm⟩
theorem joO (a:Hp):ro (ro a)=ro a:=by simp [ro]
theorem jgm (w:Bool) (q:Nat) (o:Obj) (a:Hp):ro (⟨w,q,o⟩::a)=⟨false,q,o⟩::ro a:=rfl
theorem jjA:ro []=[]:=rfl
theorem exN_raw (r:RawTb B h exT ps 2 2 pw 2 2 pb 1 1):RawTb B h exN ps 2 2 pw 2 2 pb 1 1:=⟨r.s,r.sc,r.sn,r.w,r.wn,r.u,r.un,⟨r.sm.sts,r.sm.wat,r.sm.but⟩⟩
section
variable {m:Md P B}
omit [LaidO B] in
theorem jq7 {x:Operand} {b a' b':Int} (ho:ops[i]?=some ⟨d,.binOp .eql t x y u,ty,pos,af,g⟩) (hw:Wt ops l g) [kh:KHeap kd S h H] [ex:OpV l x (.agg [.int .i64 a,.int .i64 b].toArray)] [ey:OpV l y (.agg [.int .i64 a',.int .i64 b'].toArray)] [KeyT P t]
  (hg:P.eqGuardType P.depth t=false) (e:a=a'∧b=b') [pf:PutV l d (.bool true) l'] (q:RegK m S ops r l' h C):RegK m S ops ((i,kd)::r) l h C:=by
 have he:=jqj (P:=P) (B:=B) (h:=H) 9998 (t:=t) a b a' b'
 have e2:(a==a'&&b==b')=true:=by simp [e]
 rw [e2] at he
 exact jjO ho hw hg he q
omit [LaidO B] in
theorem jq6 {x:Operand} {b a' b':Int} {c c':Bool} (ho:ops[i]?=some ⟨d,.binOp .eql t x y u,ty,pos,af,g⟩) (hw:Wt ops l g) [kh:KHeap kd S h H] [ex:OpV l x (.agg [.bool c,.int .i64 a,.int .i64 b].toArray)] [ey:OpV l y (.agg [.bool c',.int .i64 a',.int .i64 b'].toArray)] [KeyCT P t]
  (hg:P.eqGuardType P.depth t=false) (e:c=c'∧a=a'∧b=b') [pf:PutV l d (.bool true) l'] (q:RegK m S ops r l' h C):RegK m S ops ((i,kd)::r) l h C:=by
 have he:=jfG (P:=P) (B:=B) (h:=H) 9997 (t:=t) c c' a b a' b'
 have e2:(c==c'&&(a==a'&&b==b'))=true:=by simp [e]
 rw [e2] at he
 exact jjO ho hw hg he q
end
instance:KeyT Tryz.prog 29:=⟨by kernel_rfl⟩
theorem exC_sm:TbSm exC:=⟨by decide,by decide,by decide⟩
theorem f33_x (m:Md Tryz.prog B) (h:Hp) (r:RawTb B h exN ps 2 2 pw 2 2 pb 1 1):FnC m 33 #[tbV exN ps 2 2 pw 2 2 pb 1 1,cV false 0 1,str [49,45,50,45,48]] h fun v h'=> ∃nz,h'=h++nz∧ ∃pw' cw' pb' cb',v=tbV exN ps 2 2 pw' 2 cw' pb' 1 cb'∧RdLn B nz (.slice pw' 2 cw') 2 exC.waters∧RdLn B nz (.slice pb' 1 cb') 1 exC.butts:=by
 obtain ⟨lw,hlw,rlw,hfw⟩:=r.w
 obtain ⟨lb,hlb,rlb,hfb⟩:=r.u
 have hl:lw.length=2:=rlw.elen zA
 have h2:(lw.map (·.ln)).getD 0 default=(lw.getD 0 default).ln:=jaX _ _ zO
 have h3:(lw.getD 0 default).ln.figs.length=2:=by rw [←h2,hlw];rfl
 have hfw':=fun x hx=>(⟨(hfw x hx).1,(hfw x hx).2 ((by decide: ∀l∈exN.waters,0<l.figs.length) x.ln (hlw▸List.mem_map.2 ⟨x,hx,rfl⟩))⟩:x.ln.figs.length≤x.c∧RdS B h 1 (.slice x.p x.ln.figs.length x.c) x.ln.figs.length (jax x.ln.figs))
 have hfb':=fun x hx=>(⟨(hfb x hx).1,(hfb x hx).2 ((by decide: ∀l∈exN.butts,0<l.figs.length) x.ln (hlb▸List.mem_map.2 ⟨x,hx,rfl⟩))⟩:x.ln.figs.length≤x.c∧RdS B h 1 (.slice x.p x.ln.figs.length x.c) x.ln.figs.length (jax x.ln.figs))
 refine CallF.mono (f33_c m h (b:=exN) rlw rlb zO zO hfw' hfb' (by rw [hlw];decide) (by rw [hlb];decide) false 0 1 [49,45,50,45,48] zO zN zO (by simp;simp at h3;omega)) ?_
 rintro v h' ⟨nz,pw',cw',pb',cb',e1,e2,e3,e4⟩;refine ⟨nz,e1,pw',cw',pb',cb',e2,?_,?_⟩
 ·rw [hlw] at e3
  exact e3
 ·rw [hlb] at e4
  exact e4
theorem f20_c (h:Hp):FnC (Md.starC Tryz.prog B) 20 #[] h fun v h'=> ∃nw,h'=ro h++nw∧v= .bool true:=by
 refine jae Tryz.func20 rfl rfl (l:=uu320) rfl ?_
 intro cf cs K hK
 refine Z6 ?_;refine D69 ?_
 rintro v nA ⟨pA1,pA2,pA3,rfl,raA⟩;refine jaH (jad ?_);refine D69 ?_
 rintro v nB ⟨pB1,pB2,pB3,rfl,raB⟩;refine jaH (jad ?_);have raN:=exN_raw raB
 refine jaw rfl zq (fun q1=>jas (jad ?_));refine jaw rfl zq (fun q2=>jas (jad ?_));refine D5 ?_;refine D5 ?_;refine Z4 ?_;refine D9 ?_;refine Z3 ?_;refine D34 ?_;refine D34 ?_
 refine jaw rfl zq (fun q3=>jas (jad ?_));refine jaw rfl zq (fun q4=>jas (jad ?_));refine D5 ?_;refine D5 ?_;refine Z5 ?_;refine jaN rfl zq zK (Post:=fun v nw=> ∃pw' cw' pb' cb',v=tbV exN pB1 2 2 pw' 2 cw' pb' 1 cb'∧RdLn B nw (.slice pw' 2 cw') 2 exC.waters∧RdLn B nw (.slice pb' 1 cb') 1 exC.butts) (fun H' hH=>f33_x _ H' (raN.keeps (sq hH))) ?_
 rintro v nC ⟨pC2,cC2,pC3,cC3,rfl,wC,uC⟩;refine jaH (jad ?_);have raC: ∀H',nB.Sublist H'→nC.Sublist H'→RawTb B H' exC pB1 2 2 pC2 2 cC2 pC3 1 cC3:=fun H' s1 s2=>⟨raB.s.keeps s1,raB.sc,raB.sn,wC.keeps s2,by omega,uC.keeps s2,by omega,exC_sm⟩
 refine jaw rfl zq (fun q5=>jas (jad ?_));refine jnd ?_;refine jpv ?_;refine jah (Post:=fun v=>v= .tuple [.int .i64 96,.int .i64 184,.int .i64 12,.int .i64 0].toArray) rfl zq zK (fun H' hH=>by have:=f62_c (Md.starC Tryz.prog B) H' [49,45,63,45,48] zA;rw [if_pos jiH.1,if_pos jiH.1,if_pos jiH.1,if_pos jiH.1,jiH.2.1,jiH.2.2.1,jiH.2.2.2] at this;exact this) ?_
 rintro v rfl;refine Z4 ?_;refine jjN rfl zq ?_;refine jq3 rfl zq ?_;refine Z7 ?_;refine jah (Post:=fun v=>v= .tuple [str [49,45,50,45,51],.int .i64 0].toArray) rfl zq zK (fun H' hH=>by have:=f59_c (Md.starC Tryz.prog B) H' 115;rw [if_pos zA,if_pos zA,show (115:Int).toNat=115 from rfl,ex_fig] at this;exact this) ?_
 rintro v rfl;refine Z10 ?_;refine jah (Post:=fun v=>v= .tuple [.int .i64 11,.int .i64 0].toArray) rfl zq zK (fun H' hH=>by have:=f28_c (Md.starC Tryz.prog B) H' (b:=exT) (raA.keeps (sq hH));rw [if_pos ex_ok,jog,ex_ok] at this;exact this) ?_
 rintro v rfl;refine Z10 ?_;refine jah (Post:=fun v=>v= .tuple [.int .i64 1,.int .i64 0].toArray) rfl zq zK (fun H' hH=>by have:=f28_c (Md.starC Tryz.prog B) H' (b:=exN) (raN.keeps (sq hH));rw [if_pos exN_ok,jl6,exN_ok] at this;exact this) ?_
 rintro v rfl;refine Z10 ?_;refine jah (Post:=fun v=>v= .tuple [.int .i64 0,.int .i64 0].toArray) rfl zq zK (fun H' hH=>by have:=f28_c (Md.starC Tryz.prog B) H' (b:=exC) (raC H' (sq hH) (sq hH));rw [if_pos jjV,jrF,jjV] at this;exact this) ?_
 rintro v rfl;refine Z11 ?_;refine jaN rfl zq zK (Post:=fun v nw=> ∃w,v= .tuple [w,.int .i64 (ja3 exT (ji2 exT fiC))].toArray∧RdI B nw w (jrY exT fiC)) (fun H' hH=>f29_s _ H' (b:=exT) (raA.keeps (sq hH)) fiC (by rw [jog];decide)) ?_
 rintro v nD ⟨w,rfl,hw⟩;refine jaH (jad ?_);rw [exT_can] at hw
 rw [jeb.2.2.1];obtain ⟨pcT,ccT,rfl,rcT⟩:=hw
 refine Z10 ?_;refine jaN rfl zq zK (Post:=fun v nw=> ∃w,v= .tuple [w,.int .i64 (ja3 exN (ji2 exN fiC))].toArray∧RdI B nw w (jrY exN fiC)) (fun H' hH=>f29_s _ H' (b:=exN) (raN.keeps (sq hH)) fiC (by rw [jl6];decide)) ?_
 rintro v nE ⟨w,rfl,hw⟩;refine jaH (jad ?_);rw [exN_can] at hw
 rw [jeb.2.2.2.1];obtain ⟨pcN,ccN,rfl,rcN⟩:=hw
 refine Z10 ?_;refine jah (Post:=fun v=>v= .tuple [.int .i64 0,.int .i64 0].toArray) rfl zq zK (fun H' hH=>by have:=f30_c (Md.starC Tryz.prog B) H' (b:=exT) (raA.keeps (sq hH)) buC;rw [if_pos jeb.2.2.2.2.1,jrA,jeb.2.2.2.2.1] at this;exact this) ?_
 rintro v rfl;refine Z11 ?_;refine jah (Post:=fun v=>v= .tuple [.int .i64 2,.int .i64 0].toArray) rfl zq zK (fun H' hH=>by have:=f30_c (Md.starC Tryz.prog B) H' (b:=exN) (raN.keeps (sq hH)) buC;rw [if_pos jeb.2.2.2.2.2,jrB,jeb.2.2.2.2.2] at this;exact this) ?_
 rintro v rfl;refine Z10 ?_;refine jah (Post:=fun v=> ∃w,v= .tuple [w,.int .i64 (tbS exT)].toArray∧IsB (tbS exT=0∧jbn (cdT exT)=true) w) rfl zq zK (fun H' hH=>f45_c _ H' (b:=exT) (raA.keeps (sq hH))) ?_
 rintro v ⟨w45,rfl,hw45⟩;obtain rfl:=jky hw45 ⟨ex_ok,ex_sound⟩
 rw [ex_ok];refine Z10 ?_;refine jb9 rfl zq zK (f40_c _ (raC _ SubH.sub SubH.sub)) ?_
 rintro v h' ⟨nF,w40,g40,rfl,rfl,rg40,_,hl40⟩;refine Zs ?_
 obtain rfl:=jjK (hl40 jjV) exC_few
 rw [jjV];obtain ⟨p40,c40,rfl,r40⟩:=rg40
 have raCr: ∀H',(ro nB).Sublist H'→(ro nC).Sublist H'→RawTb B H' exC pB1 2 2 pC2 2 cC2 pC3 1 cC3:=fun H' s1 s2=>⟨raB.s.ro.keeps s1,raB.sc,raB.sn,(RdLn.ro wC).keeps s2,by omega,(RdLn.ro uC).keeps s2,by omega,exC_sm⟩
 simp only [jgR,joO,jgm,jjA]
 simp only [jgR,joO,jgm,jjA] at r40
 refine Z9 ?_;refine jb9 rfl zq zK (f41_c _ (raCr _ SubH.sub SubH.sub)) ?_
 rintro v h' ⟨nG,w41,g41,rfl,rfl,rg41,_,_,hl41⟩;refine Zs ?_
 obtain rfl:=jjK (hl41 jjV (by rw [jrD];decide)) jrE
 rw [jjV];obtain ⟨p41,c41,rfl,r41⟩:=rg41
 have raAr:=raA.ro
 have raNr:=raN.ro
 have r40r:=r40.ro
 have rcTr:=rcT.ro
 have rcNr:=rcN.ro
 simp only [jgR,joO,jgm,jjA]
 simp only [jgR,joO,jgm,jjA] at r41 r40r
 refine Z9 ?_;refine jah (Post:=fun v=>v= .tuple [.agg [.int .i64 96,.int .i64 132].toArray,.int .i64 0].toArray) rfl zq zK (fun H' hH=>by have:=f21_c (Md.starC Tryz.prog B) H' (b:=exN) (raNr.keeps (sq hH)) 1 96;rw [jm3,jrC.1] at this;exact this) ?_
 rintro v rfl;refine Z4 ?_
 refine jaw rfl zq (fun q32=>jas (jad ?_));refine D5 ?_;refine Z5 ?_;refine jah (Post:=fun v=>v= .tuple [.agg [.int .i64 72,.int .i64 128].toArray,.int .i64 0].toArray) rfl zq zK (fun H' hH=>by have:=f23_c (Md.starC Tryz.prog B) H' (b:=exN) (raNr.keeps (sq hH)) 1 100;rw [jph,jrC.2] at this;exact this) ?_
 rintro v rfl;refine Z4 ?_
 refine jaw rfl zq (fun q34=>jas (jad ?_));refine ji7 ?_;refine D53 ?_;refine Zs ?_;refine jah (Post:=fun v=>v= .tuple [.agg [.bool false,.int .i64 0,.int .i64 1].toArray,.int .i64 6,.bool true,.int .i64 0].toArray) rfl zq zK (fun H' hH=>by have:=f50_c (Md.starC Tryz.prog B) H' (b:=exT) (raAr.keeps (sq hH));rw [jm2.2.2,jm2.1,jm2.2.1,jeb.1] at this;exact this) ?_
 rintro v rfl;refine Z4 ?_;refine jjN rfl zq ?_;refine jq3 rfl zq ?_
 refine jaw rfl zq (fun q36=>jas (jad ?_));refine D5 ?_;refine Z8 ?_;refine jaN rfl zq zK (Post:=fun v nw=>TabO B (jkl exT fiC [49,45,48,45,63]) exR nw v) (fun H' hH=>f53_c _ H' (b:=exT) (raAr.keeps (sq hH)) fiC [49,45,48,45,63] zA) ?_
 rintro v nH ⟨x0,y1,z1,w1,y2,z2,w2,y3,z3,w3,rfl,_,hz⟩;refine jaH (jad ?_);obtain ⟨psexR,nsexR,ksexR,pwexR,nwexR,cwexR,pbexR,nbexR,cbexR,eexR,raexR⟩:=hz jl4.1
 rw [eexR,jl4.1];refine Z3 ?_
 refine jaw rfl zq (fun q40=>jas (jad ?_));refine D5 ?_;refine Z5 ?_;refine jah (Post:=fun v=>v= .tuple [.int .i64 7,.int .i64 0].toArray) rfl zq zK (fun H' hH=>by have:=f28_c (Md.starC Tryz.prog B) H' (b:=exR) (raexR.keeps (sq hH));rw [if_pos jl4.2.1,jl4.2.2,jl4.2.1] at this;exact this) ?_
 rintro v rfl;refine Z11 ?_;refine jaN rfl zq zK (Post:=fun v nw=>TabO B (putS exT buC [48,45,56,45,48]) exP nw v) (fun H' hH=>f60_c _ H' (b:=exT) (raAr.keeps (sq hH)) buC [48,45,56,45,48] zA) ?_
 rintro v nP ⟨x0,y1,z1,w1,y2,z2,w2,y3,z3,w3,rfl,_,hz⟩;refine jaH (jad ?_);obtain ⟨psexP,nsexP,ksexP,pwexP,nwexP,cwexP,pbexP,nbexP,cbexP,eexP,raexP⟩:=hz jl5.1
 rw [eexP,jl5.1];refine Z3 ?_
 refine jaw rfl zq (fun q44=>jas (jad ?_));refine D5 ?_;refine Z5 ?_;refine jah (Post:=fun v=>v= .tuple [.int .i64 38,.int .i64 0].toArray) rfl zq zK (fun H' hH=>by have:=f28_c (Md.starC Tryz.prog B) H' (b:=exP) (raexP.keeps (sq hH));rw [if_pos jl5.2.1,jl5.2.2,jl5.2.1] at this;exact this) ?_
 rintro v rfl;refine Z9 ?_;refine ja4 [Zf 0,Zf 1,Zf 2,Zf 3,Zf 4,Zf 5,Zf 6,Zf 7,Zf 8,Zf 9,Zf 10,Zf 11,Zf 12,Zf 13,Zf 14,Zf 15,Zf 16,Zf 17,Zf 18,Zf 19,Zf 20,Zf 21,Zf 22,Zf 23,Zf 24,Zf 25,Zf 26,Zf 27,Zf 28,Zf 29,Zf 30,Zf 31,Zf 32,Zf 33,Zf 34,Zf 35,Zf 36,Zf 37,Zf 38,Zf 39,Zf 40,Zf 41,Zf 42,Zf 43,Zf 44,Zf 45,Zf 46,Zf 47,Zf 48,Zf 49,Zf 50,Zf 51,Zf 52,Zf 53,Zf 54,Zf 55,Zf 56,Zf 57,Zf 58,Zf 59,Zf 60,Zf 61,Zf 62,Zf 63,Zf 64,Zf 65,Zf 66,Zf 67,Zf 68,Zf 69,Zf 70,Zf 71,Zf 72,Zf 73] zK zK ?_;refine Zs ?_;refine jds rfl zq zA ?_;refine Z2 ?_;refine D130 ?_;refine D130 ?_;refine D130 ?_;refine D130 ?_;refine D130 ?_;refine D130 ?_;refine D130 ?_;refine D130 ?_;refine D115 ?_;refine D17 ?_;refine Z6 ?_;refine ja4 [Zf 0,Zf 1,Zf 2,Zf 3,Zf 4,Zf 5,Zf 6,Zf 7,Zf 8,Zf 9,Zf 10,Zf 11,Zf 12,Zf 13,Zf 14,Zf 15,Zf 16,Zf 17,Zf 18,Zf 19,Zf 20,Zf 21,Zf 22,Zf 23,Zf 24,Zf 25,Zf 26,Zf 27,Zf 28,Zf 29,Zf 30,Zf 31,Zf 32,Zf 33,Zf 34,Zf 35,Zf 36,Zf 37] zK zK ?_;refine Zs ?_;refine jds rfl zq zA ?_;refine Z2 ?_;refine D130 ?_;refine jgv rfl rfl rfl ?_;refine Z3 ?_;refine D130 ?_;refine D115 ?_
 refine jdB kdq rfl rfl zA zA rfl (fun q261=>jas (jad ?_));have rd261:RdS B [⟨true,q261,.cells [.int .i64 96,.int .i64 104,.int .i64 112,.int .i64 120,.int .i64 128].toArray 3 (0,0)⟩] 1 (.slice (some ⟨q261,0,none⟩) 5 5) 5 (jat [96,104,112,120,128]):=(OwnS.full (t:=3) (q:=q261) (cs:=jat [96,104,112,120,128]) rfl).rd (List.Sublist.refl _)
 refine jah (Post:=fun v=>IsB _ v) rfl rfl zK (fun H' hH=>f61_c _ H' (rcTr.keeps (sq hH)) zA (rd261.keeps (sq hH))) ?_;rintro v (⟨hc,rfl⟩|⟨hc,rfl⟩)
 ·refine D124 ?_;refine Z3 ?_
  refine jdB kdq rfl rfl zA zA rfl (fun q267=>jas (jad ?_));have rd267:RdS B [⟨true,q267,.cells [.int .i64 96].toArray 3 (0,0)⟩] 1 (.slice (some ⟨q267,0,none⟩) 1 1) 1 (jat [96]):=(OwnS.full (t:=3) (q:=q267) (cs:=jat [96]) rfl).rd (List.Sublist.refl _)
  refine jah (Post:=fun v=>IsB _ v) rfl rfl zK (fun H' hH=>f61_c _ H' (rcNr.keeps (sq hH)) zA (rd267.keeps (sq hH))) ?_;rintro v (⟨hc,rfl⟩|⟨hc,rfl⟩)
  ·refine D124 ?_;refine Z5 ?_;refine ja4 [Zf 0,Zf 1,Zf 2,Zf 3,Zf 4,Zf 5,Zf 6,Zf 7,Zf 8,Zf 9,Zf 10,Zf 11,Zf 12,Zf 13,Zf 14,Zf 15,Zf 16,Zf 17,Zf 18,Zf 19,Zf 20,Zf 21,Zf 22,Zf 23,Zf 24,Zf 25,Zf 26,Zf 27,Zf 28,Zf 29,Zf 30,Zf 31,Zf 32,Zf 33,Zf 34,Zf 35,Zf 36,Zf 37,Zf 38,Zf 39,Zf 40,Zf 41,Zf 42,Zf 43,Zf 44,Zf 45,Zf 46,Zf 47,Zf 48,Zf 49] zK zK ?_;refine Zs ?_;refine jco rfl zq zA ?_;refine Z2 ?_;refine jco rfl rfl zA ?_;refine Z6 ?_
   refine jdB kdq rfl rfl zA zA rfl (fun q282=>jas (jad ?_));have rd282:RdS B [⟨true,q282,.cells [.int .i64 1].toArray 3 (0,0)⟩] 1 (.slice (some ⟨q282,0,none⟩) 1 1) 1 (jat [1]):=(OwnS.full (t:=3) (q:=q282) (cs:=jat [1]) rfl).rd (List.Sublist.refl _)
   refine jah (Post:=fun v=>IsB _ v) rfl rfl zK (fun H' hH=>f61_c _ H' (r40r.keeps (sq hH)) zA (rd282.keeps (sq hH))) ?_;rintro v (⟨hc,rfl⟩|⟨hc,rfl⟩)
   ·refine Z4 ?_
    refine jdB kdq rfl rfl zA zA rfl (fun q287=>jas (jad ?_));have rd287:RdS B [⟨true,q287,.cells [.int .i64 1,.int .i64 5].toArray 3 (0,0)⟩] 1 (.slice (some ⟨q287,0,none⟩) 2 2) 2 (jat [1,5]):=(OwnS.full (t:=3) (q:=q287) (cs:=jat [1,5]) rfl).rd (List.Sublist.refl _)
    refine jah (Post:=fun v=>IsB _ v) rfl rfl zK (fun H' hH=>f61_c _ H' (r41.keeps (sq hH)) zA (rd287.keeps (sq hH))) ?_;rintro v (⟨hc,rfl⟩|⟨hc,rfl⟩)
    ·refine Z3 ?_;refine jjk rfl rfl ?_;refine jq9 rfl rfl ?_;refine jq7 rfl rfl zK zA ?_;refine Z2 ?_;refine jjk rfl rfl ?_;refine jq9 rfl rfl ?_;refine jq7 rfl rfl zK zA ?_;refine Z2 ?_;refine jjk rfl rfl ?_;refine jjk rfl rfl ?_;refine jq6 rfl rfl zK zA ?_;refine Z3 ?_;refine jco rfl rfl zA ?_;refine Z6 ?_;refine jco rfl rfl zA ?_;refine Z3 ?_;refine jco rfl rfl zA ?_;refine Z4 ?_;refine jac (ro h) rfl Tryz.func20 rfl jaa ?_;refine Zs ?_
     exact ⟨[],by simp,rfl⟩
    ·refine Zs ?_
     exact absurd rfl hc
   ·refine Zs ?_
    exact absurd rfl hc
  ·refine Zs ?_
   exact absurd rfl hc
 ·refine Zs ?_
  exact absurd rfl hc
end
end Go.Proofs
namespace Go.Proofs
open Go.Lo
section
theorem jgG (hi:i<(jab b).length):jcb b ((jab b).getD i default)=true∧jbI b ((jab b).getD i default)≠jdl:=jbs (jak hi)
theorem jmf {j:Nat} (hi:i<(jab b).length) (hj:j<(jab b).length) (e:(jab b).getD i default=(jab b).getD j default):i=j:=by
 rw [List.getD_eq_getElem?_getD,List.getElem?_eq_getElem hi,List.getD_eq_getElem?_getD,List.getElem?_eq_getElem hj] at e
 simp only [Option.getD_some] at e
 have u:=List.pairwise_iff_getElem.1 (jeI b)
 rcases Nat.lt_trichotomy i j with h|h|h
 ·exact absurd e (u i j hi hj h)
 ·exact h
 ·exact absurd e.symm (u j i hj hi h)
end
theorem jcX (b:Tb) (c:Ce) (f:Str):(jbf b c f).sts=b.sts∧(jbf b c f).wrong=b.wrong:=by unfold jbf;split<;>exact ⟨rfl,rfl⟩
end Go.Proofs
namespace Go.Proofs
open Go.Lo
open Go.Conc (G)
section
variable [LaidO B]
section
variable {m:Md P B} {l l' l'':List Value}
end
section
theorem raw_of (rds:RdS B h 1 (.slice ps ns ks) ns (jax b.sts)) (hcs:ns≤ks) (rdw:RdLn B h (.slice pw nw cw) nw b.waters) (rdb:RdLn B h (.slice pb nb cb) nb b.butts) (hg: ¬jop b):RawTb B h b ps ns ks pw nw cw pb nb cb:=by
 have hml:=rds.elen zA
 have hwl:=jbN rdw
 have hbl:=jbN rdb
 have h1:ns≤20:=Nat.le_of_not_lt fun x=>hg (.inl zO)
 have h2:nw≤20:=Nat.le_of_not_lt fun x=>hg (.inr (.inl zO))
 have h3:nb≤20:=Nat.le_of_not_lt fun x=>hg (.inr (.inr (.inl zO)))
 exact ⟨rds,hcs,by omega,rdw,by omega,rdb,by omega,jnq hg⟩
theorem jrw (hn:1≤n) (k:LsOk n ls) (e:lps.map (·.ln)=ls) (hf: ∀x∈lps,x.ln.figs.length≤x.c∧(0<x.ln.figs.length→RdS B h 1 (.slice x.p x.ln.figs.length x.c) x.ln.figs.length (jax x.ln.figs))): ∀x∈lps,x.ln.figs.length≤x.c∧RdS B h 1 (.slice x.p x.ln.figs.length x.c) x.ln.figs.length (jax x.ln.figs):=fun x hx=>by
 have hm:x.ln∈ls:=e▸List.mem_map.2 ⟨x,hx,rfl⟩
 have:=(k.ok _ hm).len
 exact ⟨(hf x hx).1,(hf x hx).2 zO⟩
theorem f33_r (m:Md Tryz.prog B) (h:Hp) (ra:RawTb B h b ps ns ks pw nw cw pb nb cb) (k:TbOk b) {c:Ce} (hc:jcb b c=true) (f:Str) (hf:f.length≤100000):FnC m 33 #[tbV b ps ns ks pw nw cw pb nb cb,cV c.butt c.line c.st,str f] h fun v h'=> ∃nz,h'=h++nz∧ ∃pw' cw' pb' cb',v=tbV (jbf b c f) ps ns ks pw' nw cw' pb' nb cb'∧RdLn B nz (.slice pw' nw cw') nw (jbf b c f).waters∧RdLn B nz (.slice pb' nb cb') nb (jbf b c f).butts:=by
 obtain ⟨lw,hlw,rlw,hfw⟩:=ra.w
 obtain ⟨lb,hlb,rlb,hfb⟩:=ra.u
 have hn1:=k.n1
 have hsl:=ra.s.elen zA
 have hfw':=jrw hn1 k.waters hlw hfw
 have hfb':=jrw hn1 k.butts hlb hfb
 have hh:=jcR.1 hc
 have hll:jaA b c.butt=(if c.butt then lb else lw).map (·.ln):=by unfold jaA;split;exact hlb.symm;exact hlw.symm
 have hlen:((if c.butt then lb else lw).length:Int)=((jaA b c.butt).length:Int):=by rw [hll,List.length_map]
 have hfl:((if c.butt then lb else lw).getD c.line.toNat default).ln.figs.length=b.sts.length:=by
  have e1:(jbH b c)=((if c.butt then lb else lw).getD c.line.toNat default).ln:=by
   rw [jbH,hll,jaX _ _ zO]
  rw [←e1];exact ((k.lines c.butt).ok _ (jdr hc)).len
 refine CallF.mono (f33_c m h (b:=b) rlw rlb ra.wn ra.un hfw' hfb' (by rw [hlw];exact fun l hl=>(ra.sm.wat l hl).1) (by rw [hlb];exact fun l hl=>(ra.sm.but l hl).1) c.butt c.line c.st f hh.1 (by rw [hlen];exact hh.2.1) hh.2.2.1 (by rw [hfl];exact hh.2.2.2)) ?_
 rintro v h' ⟨nz,pw',cw',pb',cb',e1,e2,e3,e4⟩;refine ⟨nz,e1,pw',cw',pb',cb',by rw [e2,tbV,tbV,tbL,tbL,setF_wrong],?_,?_⟩
 ·rw [hlw] at e3
  unfold jbf
  cases hb:c.butt
  ·rw [hb] at e3
   exact e3
  ·rw [hb] at e3
   exact e3
 ·rw [hlb] at e4
  unfold jbf
  cases hb:c.butt
  ·rw [hb] at e4
   exact e4
  ·rw [hb] at e4
   exact e4
theorem jmG {nz:Hp} {cw':Nat} {cb':Nat} (ra:RawTb B h b ps ns ks pw nw cw pb nb cb) (sm:TbSm b) {c:Ce} (hf:f.length≤100000) (e1:RdLn B nz (.slice pw' nw cw') nw (jbf b c f).waters) (e2:RdLn B nz (.slice pb' nb cb') nb (jbf b c f).butts) (s1:h.Sublist H) (s2:nz.Sublist H):RawTb B H (jbf b c f) ps ns ks pw' nw cw' pb' nb cb':=
 ⟨by rw [(jcX b c f).1];exact ra.s.keeps s1,ra.sc,ra.sn,e1.keeps s2,ra.wn,e2.keeps s2,ra.un,jp6 sm hf⟩
end
end
end Go.Proofs
