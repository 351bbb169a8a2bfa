/- A part of the proof of a law: my own separation logic over the machine, and walks of the program. Condition of each theorem: as its statement says. -/
import Derived.Test.YtggpepeiedkbbaaGreatDoorVLOround7
set_option linter.all false
namespace Go.Proofs
open Go.Lo
open Go.Conc (G)
set_option maxRecDepth 100000
set_option synthInstance.maxSize 100000
set_option synthInstance.maxHeartbeats 1000000
set_option maxHeartbeats 4000000
variable {B:Array Obj}
variable [LaidO B]
structure RawTb (B:Array Obj) (h:Hp) (b:Tb) (ps:Option Addr) (ns ks:Nat) (pw:Option Addr) (nw cw:Nat) (pb:Option Addr) (nb cb:Nat):Prop where
 s:RdS B h 1 (.slice ps ns ks) ns (encs b.sts)
 sc:ns≤ks
 sn:ns≤1000
 w:RdLn B h (.slice pw nw cw) nw b.waters
 wn:nw≤1000
 u:RdLn B h (.slice pb nb cb) nb b.butts
 un:nb≤1000
 sm:TbSm b
section
variable {h H:Hp} {b:Tb} {ps:Option Addr} {ns ks:Nat} {pw:Option Addr} {nw cw:Nat} {pb:Option Addr} {nb cb:Nat}
theorem RawTb.keeps (r:RawTb B h b ps ns ks pw nw cw pb nb cb) (s:h.Sublist H):RawTb B H b ps ns ks pw nw cw pb nb cb:=
 ⟨r.s.keeps s,r.sc,r.sn,r.w.keeps s,r.wn,r.u.keeps s,r.un,r.sm⟩
theorem RawTb.rd (r:RawTb B h b ps ns ks pw nw cw pb nb cb) (k:TbOk b):RdTb B h b ps ns ks pw nw cw pb nb cb:=rdTb_of r.s r.sc r.w r.u r.sm k
theorem f65_r (m:Md Tryz.prog B) (h:Hp) (r:RawTb B h b ps ns ks pw nw cw pb nb cb):FnC m 65 #[tbV b ps ns ks pw nw cw pb nb cb] h fun v h'=>h'=h∧v= .int .i64 (tbS b):=f65_c m h r.s r.sc r.sn r.sm.sts r.w r.wn r.u r.un r.sm
theorem f95_r (m:Md Tryz.prog B) (h:Hp) (r:RawTb B h b ps ns ks pw nw cw pb nb cb) (k:TbOk b):FnC m 95 #[tbV b ps ns ks pw nw cw pb nb cb] h fun v h'=> ∃new,h'=h++new∧ ∃q,v= .pointer (some ⟨q,0,none⟩)∧Sheet B new b q (tbL b ps ns ks pw nw cw pb nb cb):=
 CallF.mono (f95_c m h (r.rd k)) fun v h' ⟨new,q,e1,e2,e3⟩=>⟨new,e1,q,e2,e3⟩
end
theorem jfW {xs:List Int} (hs:jju xs 0 xs.length): ∀t,t≤xs.length→Asc (jb2 xs t)∧(∀z∈jb2 xs t,∃i,i<t∧z=xs.getD i 0)
 |0,_=>⟨List.Pairwise.nil,by simp [jb2]⟩
 |t+1,h=>by
  obtain ⟨h1,h2⟩:=jfW hs t zO
  rw [jb2];by_cases e:t=0∨xs.getD t 0≠xs.getD (t-1) 0
  ·rw [if_pos e];refine ⟨?_,fun z hz=>?_⟩
   ·unfold Asc at h1⊢
    rw [List.pairwise_append];refine ⟨h1,by simp,fun x hx y hy=>?_⟩
    simp only [List.mem_singleton] at hy
    subst hy
    obtain ⟨i,hi,rfl⟩:=h2 x hx
    have e1:xs.getD i 0≤xs.getD (t-1) 0:=by
     by_cases e2:i=t-1
     ·subst e2
      exact Int.le_refl _
     ·exact hs i (t-1) zO zO zO
    have e3:xs.getD (t-1) 0≤xs.getD t 0:=hs (t-1) t zO zO zO
    rcases e with e|e
    ·omega
    ·omega
   ·rcases List.mem_append.1 hz with hz|hz
    ·obtain ⟨i,hi,e⟩:=h2 z hz
     exact ⟨i,by omega,e⟩
    ·simp only [List.mem_singleton] at hz
     exact ⟨t,by omega,hz⟩
  ·rw [if_neg e,List.append_nil];exact ⟨h1,fun z hz=>by obtain ⟨i,hi,e⟩:=h2 z hz;exact ⟨i,by omega,e⟩⟩
theorem jfV {xs:List Int}: ∀t i,i<t→xs.getD i 0∈jb2 xs t
 |0,i,h=>by omega
 |t+1,i,h=>by
  rw [jb2,List.mem_append];rcases Nat.lt_or_ge i t with h1|h1
  ·exact .inl (jfV t i h1)
  ·obtain rfl:i=t:=by omega
   by_cases e:i=0∨xs.getD i 0≠xs.getD (i-1) 0
   ·rw [if_pos e];exact .inr zD
   ·have h0:i≠0:=fun x=>e (.inl x)
    have e2:xs.getD i 0=xs.getD (i-1) 0:=Classical.byContradiction fun x=>e (.inr x)
    rw [e2];exact .inl (jfV i (i-1) zO)
theorem rd_has {B:Array Obj} {h:Hp} {q t:Nat} {rw:Bool} {f:Nat×Nat} {v:Value} [x:Has h q rw (.cells [v].toArray t f)]:Rd B h ⟨q,0,none⟩ v:=Rd.held x.mem rfl
theorem jmD {v:Value} {n:Nat} {xs:List Int} {new:Hp} (o:OwnS 3 1 v n (ints xs) new) (h:0<n): ∃b c junk,v= .slice (some ⟨b,0,none⟩) n c∧new=[blkC b xs junk]∧xs.length=n∧n+junk.length=c:=by
 unfold blkC
 generalize hg:ints xs=ys at o⊢
 have hy:ys.length=xs.length:=by rw [←hg];simp
 cases o with
 |nil=>omega
 |blk hl hc hn=>exact ⟨_,_,_,rfl,rfl,by omega,by omega⟩
theorem jmQ {xs:List Int} {z:Int} (hs:jju xs 0 xs.length):z∈jb2 xs xs.length↔z∈xs:=by
 constructor
 ·intro h
  obtain ⟨i,hi,rfl⟩:=(jfW hs _ (Nat.le_refl _)).2 z h
  exact jkz.2 ⟨i,hi,rfl⟩
 ·intro h
  obtain ⟨i,hi,rfl⟩:=jkz.1 h
  exact jfV _ i hi
theorem asc_uniq: ∀{xs ys:List Int},Asc xs→Asc ys→(∀z,z∈xs↔z∈ys)→xs=ys:=fun hx hy h=>List.Perm.eq_of_pairwise (fun a b _ _ h1 h2=>by omega) hx hy ((List.perm_ext_iff_of_nodup (jjr hx) (jjr hy)).2 h)
theorem jkr {α:Type}: ∀{l:List α} {n:Nat},l.length=n→jaQ (List.replicate n true) l=l
 |[],_,h=>by subst h;rfl
 |a::l,n,h=>by
  obtain ⟨k,rfl⟩: ∃k,n=k+1:=⟨n-1,by simp at h;omega⟩
  rw [List.replicate_succ,jaQ,jkr (by simpa using h)]
theorem jmz (n:Nat):patN 0 n=(List.replicate n true).map (!·):=by
 rw [patN];refine List.ext_getElem zD fun i h1 h2=>by simp
theorem pat_none {b:Tb}:patA (cdT b) (patN 0 (jad b).length)≠[]↔jb7 (cdT b)=true:=by
 have:=je3 (D:=cdT b) (p:=List.replicate (jad b).length true) (by simp [jaD])
 rw [jmz,this,jkr (jaD b)]
def jfl (B:Array Obj) (b:Tb) (tv:List Value) (s:Int) (nw:Hp) (v:Value):Prop:= ∃qp p n c,v= .tuple [.agg [.pointer qp,.slice p n c].toArray,.int .i64 s].toArray∧
 (s=0→ ∃q,qp=some ⟨q,0,none⟩∧Sheet B nw b q tv∧n=(jaf b).length∧n≤c∧RdS B nw 13 (.slice p n c) n (encs (jaf b)))
theorem je4 {b:Tb} {tv:List Value} {s:Int} (h:s≠0):jfl B b tv s [] (.tuple [.agg [.pointer none,.slice none 0 0].toArray,.int .i64 s].toArray):=⟨none,none,0,0,rfl,fun e=>absurd e h⟩
def plN (b:Tb) (c:Ce):Nat:=(jad b).findIdx fun x=>decide (x=c)
theorem jkq {b:Tb} {c:Ce}:plN b c<(jad b).length↔c∈jad b:=by
 rw [plN,List.findIdx_lt_length];simp
theorem jf9 {b:Tb} {c:Ce} (h:c∈jad b):jb8 (jad b) c=some (plN b c:Int):=by
 have hh:(jad b).findIdx (fun x=>decide (x=c))<(jad b).length:=jkq.2 h
 rw [jb8,jeK,if_pos hh,Nat.zero_add];rfl
theorem jlr {b:Tb} {c:Ce} (h:c∉jad b):jb8 (jad b) c=none:=by
 have hh: ¬(jad b).findIdx (fun x=>decide (x=c))<(jad b).length:=fun e=>h (jkq.1 e)
 rw [jb8,jeK,if_neg hh];rfl
theorem f181_z (m:Md Tryz.prog B) (h:Hp):FnC m 181 #[.slice none 0 0,.int .i64 0,.int .i64 0] h fun v h'=>h'=h:=by
 refine jae Tryz.func181 rfl rfl (l:=(.slice none 0 0)::(.int .i64 0)::(.int .i64 0)::uu46) rfl ?_
 intro cf cs K hK
 refine rs3 ?_;refine D152 ?_;refine D15 ?_;refine jam (fun nn l h'=>nn=0∧(True)∧(∃U:Nat→Value,l=((.slice none 0 0)::(.int .i64 0)::(.int .i64 0)::(U 3)::(U 4)::(U 5)::(.int .i64 1)::vw42 U 7 []))∧h=h') _ ⟨rfl,trivial,exU rfl,rfl⟩ ?_;rintro nn l h' ⟨rfl,htt,⟨U,rfl⟩,rfl⟩ hnext;refine D3 ?_;refine D170 ?_;refine k_lssF rfl zq zO ?_;refine D118 ?_;refine D31 ?_;refine jcT rfl ?_;refine jac (h) rfl Tryz.func181 rfl jaa ?_;refine D5 ?_
 rfl
theorem f150_z (m:Md Tryz.prog B) (h:Hp) (lim:Int):FnC m 150 #[.slice none 0 0,.int .i64 0,.int .i64 0,.int .i64 lim] h fun v h'=>h'=h:=by
 refine jae Tryz.func150 rfl rfl (l:=(.slice none 0 0)::(.int .i64 0)::(.int .i64 0)::(.int .i64 lim)::uu130) rfl ?_
 intro cf cs K hK
 refine D145 ?_;refine D145 ?_;refine D15 ?_
 refine jam (fun nn l h'=>nn=0∧(True)∧(∃U:Nat→Value,l=((.slice none 0 0)::(.int .i64 0)::(.int .i64 0)::(.int .i64 lim)::vw130 U 4 []))∧h=h') _ ⟨rfl,trivial,exU rfl,rfl⟩ ?_;rintro nn l h' ⟨rfl,htt,⟨U,rfl⟩,rfl⟩ hnext;refine D15 ?_;refine D181 ?_;refine D178 ?_;refine jiV rfl zq zO ?_;refine D121 ?_;refine D181 ?_;refine jak (Post:=fun _=>True) rfl zq zK (fun H' hH=>CallF.mono (f181_z m H') fun v h' e=>⟨e,trivial⟩) ?_
 rintro v _;refine D7 ?_;refine D1 ?_;refine D4 ?_;refine jac (h) rfl Tryz.func150 rfl jaa ?_;refine D5 ?_
 rfl
theorem f99_z (m:Md Tryz.prog B) (h:Hp):FnC m 99 #[.slice none 0 0] h fun v h'=>h'=h:=by
 refine jae Tryz.func99 rfl rfl (l:=(.slice none 0 0)::uu10) rfl ?_
 intro cf cs K hK
 refine rs3 ?_;refine D152 ?_;refine rr6 ?_;refine Z3 ?_;refine jd1 rfl zq zK (n':=0) zA ?_;refine jak (Post:=fun v=> ∃k:Int,v= .int .i64 k∧0≤k∧k≤1000) rfl zq zK (fun H' hH=>f151_c m H' 0 zO) ?_;rintro v ⟨lim,rfl,_⟩;refine D7 ?_;refine jak (Post:=fun _=>True) rfl zq zK (fun H' hH=>CallF.mono (f150_z m H' lim) fun v h' e=>⟨e,trivial⟩) ?_
 rintro v _;refine D7 ?_;refine D1 ?_;refine jcT rfl ?_;refine jac (h) rfl Tryz.func99 rfl jaa ?_;refine D5 ?_
 rfl
theorem f100_z (m:Md Tryz.prog B) (h:Hp):FnC m 100 #[.slice none 0 0] h fun v h'=>h'=h∧v= .slice none 0 0:=by
 refine jae Tryz.func100 rfl rfl (l:=(.slice none 0 0)::uu60) rfl ?_
 intro cf cs K hK
 refine D139 ?_;refine D170 ?_;refine jkI rfl zq zO ?_;refine D121 ?_;refine D165 ?_;refine jac (h) rfl Tryz.func100 rfl jaa ?_;refine D5 ?_
 exact ⟨rfl,rfl⟩
theorem f28_c (m:Md Tryz.prog B) (h:Hp) {b:Tb} {ps:Option Addr} {ns ks:Nat} {pw:Option Addr} {nw cw:Nat} {pb:Option Addr} {nb cb:Nat} (ra:RawTb B h b ps ns ks pw nw cw pb nb cb):FnC m 28 #[tbV b ps ns ks pw nw cw pb nb cb] h fun v h'=>h'=h∧v= .tuple [.int .i64 (if tbS b=0 then ((jaf b).length:Int) else 0),.int .i64 (tbS b)].toArray:=by
 refine jae Tryz.func28 rfl rfl (l:=(tbV b ps ns ks pw nw cw pb nb cb)::uu13) rfl ?_
 intro cf cs K hK
 refine rs3 ?_;refine jaP rfl zq (fun q1=>k_hp (jab ?_));refine Zs ?_;refine D122 ?_;refine D151 ?_;refine D65 ?_
 rintro v rfl;refine D7 ?_;refine D163 ?_
 refine jaY rfl zq (fun hc=>?_) (fun hc=>?_);refine D121 ?_;refine D151 ?_
 rotate_left
 refine D140 ?_
 have hz0:tbS b=0:=by omega
 have hk:=jbd.1 hz0
 have hbl:=jbG hk
 have h12:=jbn hk
 refine rr6 ?_;refine Zs ?_;refine D34 ?_;rintro v n9 ⟨q9,rfl,sh⟩;refine jaH (jab ?_);refine D46 ?_
 rintro v n8 o8;refine jaH (jab ?_);obtain ⟨p8,c8,rfl,_⟩:=jar (B:=B) o8
 refine Zs ?_
 all_goals
  refine D194 ?_;refine jac (h) rfl Tryz.func28 rfl jaa ?_;refine D5 ?_
 ·exact ⟨rfl,by rw [if_pos hz0,hz0]⟩
 ·exact ⟨rfl,by rw [if_neg zS]⟩
theorem f45_c (m:Md Tryz.prog B) (h:Hp) {b:Tb} {ps:Option Addr} {ns ks:Nat} {pw:Option Addr} {nw cw:Nat} {pb:Option Addr} {nb cb:Nat} (ra:RawTb B h b ps ns ks pw nw cw pb nb cb):FnC m 45 #[tbV b ps ns ks pw nw cw pb nb cb] h fun v h'=>h'=h∧ ∃w,v= .tuple [w,.int .i64 (tbS b)].toArray∧IsB (tbS b=0∧jb7 (cdT b)=true) w:=by
 refine jae Tryz.func45 rfl rfl (l:=(tbV b ps ns ks pw nw cw pb nb cb)::uu12) rfl ?_
 intro cf cs K hK
 refine rs3 ?_;refine jaP rfl zq (fun q1=>k_hp (jab ?_));refine Zs ?_;refine D122 ?_;refine D151 ?_;refine D65 ?_
 rintro v rfl;refine D7 ?_;refine D163 ?_
 refine jaY rfl zq (fun hc=>?_) (fun hc=>?_);refine D121 ?_;refine D151 ?_
 rotate_left
 refine D140 ?_
 have hz0:tbS b=0:=by omega
 have hk:=jbd.1 hz0
 have hbl:=jbG hk
 have h12:=jbn hk
 refine rr5 ?_;refine Zs ?_;refine D34 ?_;rintro v n9 ⟨q9,rfl,sh⟩;refine jaH (jab ?_);refine jak (Post:=fun v=>IsB (patA (cdT b) (patN 0 (jad b).length)≠[]) v) rfl zq zK (fun H' hH=>f104_c m H' (sh.keeps (List.Sublist.trans zX hH)) zO) ?_;rintro v hv9;refine D7 ?_
 all_goals
  refine D194 ?_;refine jac (h) rfl Tryz.func45 rfl jaa ?_;refine D5 ?_
 ·exact ⟨rfl,_,by rw [hz0],hv9.iff (by rw [pat_none];exact ⟨fun e=>⟨hz0,e⟩,fun e=>e.2⟩)⟩
 ·exact ⟨rfl,_,rfl,IsB.no fun e=>absurd e.1 zS⟩
theorem f108_c (m:Md Tryz.prog B) (h:Hp) (v0:Value):FnC m 108 #[v0] h fun v h'=>h'=h∧v= .int .i64 0:=by
 refine jae Tryz.func108 rfl rfl (l:=[v0,undef,undef]) rfl ?_
 intro cf cs K hK
 refine D145 ?_;refine D129 ?_;refine jac (h) rfl Tryz.func108 rfl jaa ?_;refine D5 ?_
 exact ⟨rfl,rfl⟩
theorem f161_c (m:Md Tryz.prog B) (h:Hp) (v0:Value):FnC m 161 #[v0] h fun v h'=>h'=h∧v= .int .i64 0:=by
 refine jae Tryz.func161 rfl rfl (l:=[v0,undef,undef]) rfl ?_
 intro cf cs K hK
 refine D145 ?_;refine D129 ?_;refine jac (h) rfl Tryz.func161 rfl jaa ?_;refine D5 ?_
 exact ⟨rfl,rfl⟩
theorem f97_c (m:Md Tryz.prog B) (h:Hp) (c:Ce):FnC m 97 #[cV c.butt c.line c.st] h fun v h'=> ∃nw,h'=h++nw∧ ∃q,nw=[⟨true,q,.cells (ceL c).toArray 37 (0,0)⟩]∧v= .func (.func 149) #[] [.pointer (some ⟨q,0,none⟩)].toArray:=by
 refine jae Tryz.func97 rfl rfl (l:=[cV c.butt c.line c.st,undef,undef,undef]) rfl ?_
 intro cf cs K hK
 refine rs2 ?_;refine jaP rfl zq (fun q1=>k_hp (jab ?_));refine D0 ?_;refine rs2 ?_;refine jfF rfl zq ?_;refine D117 ?_;refine jac (h++[⟨true,q1,.cells (ceL c).toArray 37 (0,0)⟩]) rfl Tryz.func97 rfl jaa ?_;refine D5 ?_
 exact ⟨_,rfl,q1,rfl,rfl⟩
theorem f89_c (m:Md Tryz.prog B) (h:Hp) (x y:Int):FnC m 89 #[.int .i64 x,.int .i64 y] h fun v h'=> ∃nw,h'=h++nw∧ ∃q q',nw=[⟨true,q,.cells [.int .i64 x].toArray 3 (0,0)⟩,⟨true,q',.cells [.int .i64 y].toArray 3 (0,0)⟩]∧v= .func (.func 145) #[] [.pointer (some ⟨q,0,none⟩),.pointer (some ⟨q',0,none⟩)].toArray:=by
 refine jae Tryz.func89 rfl rfl (l:=[.int .i64 x,.int .i64 y,undef,undef,undef,undef]) rfl ?_
 intro cf cs K hK
 refine rs3 ?_;refine jaP rfl zq (fun q2=>k_hp (jab ?_));refine jaP rfl zq (fun q3=>k_hp (jab ?_));refine D0 ?_;refine rs2 ?_;refine jfF rfl zq ?_;refine D117 ?_;refine jac (h++[⟨true,q2,.cells [.int .i64 x].toArray 3 (0,0)⟩,⟨true,q3,.cells [.int .i64 y].toArray 3 (0,0)⟩]) rfl Tryz.func89 rfl jaa ?_;refine D5 ?_
 exact ⟨_,rfl,q2,q3,rfl,rfl⟩
theorem f149_c (m:Md Tryz.prog B) (h:Hp) {b:Tb} {q:Nat} {tv:List Value} (sh:Sheet B h b q tv) {qc:Nat} {c:Ce} (rq:RdN B h qc 0 (ceL c)):FnC m 149 #[.pointer (some ⟨q,0,none⟩),.pointer (some ⟨qc,0,none⟩)] h fun v h'=>h'=h∧v= .int .i64 (if c∈jad b then 0 else 6):=by
 obtain ⟨mrw,qm,hm1,hm2⟩:=sh.map
 haveI hmh:Has h qm mrw (mapC (jad b)):=⟨hm2⟩
 refine jae Tryz.func149 rfl rfl (l:=(.pointer (some ⟨q,0,none⟩))::(.pointer (some ⟨qc,0,none⟩))::uu15) rfl ?_
 intro cf cs K hK
 refine D139 ?_;refine D3 ?_;refine jaz [(0,.pure),(1,.pure),(2,.pure),(3,.read),(4,.read),(5,.read),(6,.pure),(7,.pure),(8,.pure),(9,.pure),(10,.pure)] zK zK (List.Sublist.refl _) ?_;refine Zs ?_
 refine jai rfl zq ?_;refine Zs ?_;refine k_ld rfl zq hm1 ?_;refine jcB (vs:=ceL c) rfl zq rfl rq ?_
 refine jlA (c:=c) (cs:=jad b) (k:=37) (e:=3) zK rfl zq (jab ?_);refine Z4 ?_;refine D122 ?_
 by_cases hin:c∈jad b
 rw [jf9 hin];refine D167 ?_;refine D63 ?_;refine D119 ?_
 rotate_left
 rw [jlr hin];refine D167 ?_;refine D64 ?_;refine D121 ?_
 all_goals
  refine D129 ?_;refine jac (h) rfl Tryz.func149 rfl jaa ?_;refine D5 ?_
  first|exact ⟨rfl,by rw [if_pos hin]⟩|exact ⟨rfl,by rw [if_neg hin]⟩
theorem f145_c (m:Md Tryz.prog B) (h:Hp) {b:Tb} {ps:Option Addr} {ns ks:Nat} {pw:Option Addr} {nw cw:Nat} {pb:Option Addr} {nb cb:Nat} {q:Nat} (sh:Sheet B h b q (tbL b ps ns ks pw nw cw pb nb cb)) (hsl:b.sts.length=ns) (hn:ns≤1000) {qs qa:Nat} {st x:Int} (r1:Rd B h ⟨qs,0,none⟩ (.int .i64 st)) (r2:Rd B h ⟨qa,0,none⟩ (.int .i64 x)):FnC m 145 #[.pointer (some ⟨q,0,none⟩),.pointer (some ⟨qs,0,none⟩),.pointer (some ⟨qa,0,none⟩)] h fun v h'=>h'=h∧v= .int .i64 (if¬(0≤st∧st≤(ns:Int)-1) then 6 else if¬(0≤x∧x≤959) then 1 else 0):=by
 have hst:Rd B h ⟨q,0+0+0+1,none⟩ (.slice ps ns ks):=sh.tb 1 zD
 refine jae Tryz.func145 rfl rfl (l:=(.pointer (some ⟨q,0,none⟩))::(.pointer (some ⟨qs,0,none⟩))::(.pointer (some ⟨qa,0,none⟩))::uu18) rfl ?_
 intro cf cs K hK
 refine D139 ?_;refine D15 ?_;refine D3 ?_;refine jaz [(1,.pure),(2,.pure),(3,.pure),(4,.pure),(5,.pure),(0,.read),(6,.read),(7,.pure),(8,.pure),(9,.keep),(10,.pure),(11,.pure)] zK zK (List.Sublist.refl _) ?_;refine Zs ?_
 refine jai rfl zq ?_;refine Z3 ?_;refine k_ld rfl zq (r1.keeps SubH.sub) ?_;refine k_ld rfl zq (hst.keeps SubH.sub) ?_;refine Z2 ?_;refine D42 ?_
 rintro v (⟨hc,rfl⟩|⟨hc,rfl⟩)
 ·refine D7 ?_;refine D63 ?_;refine D132 ?_;refine rs4 ?_;refine k_ld rfl zq (r2.keeps SubH.sub) ?_;refine D42 ?_
  rintro v (⟨hc,rfl⟩|⟨hc,rfl⟩);refine D7 ?_;refine D63 ?_;refine D132 ?_;refine D8 ?_;refine D17 ?_
  rotate_left
  refine D7 ?_;refine D64 ?_;refine D161 ?_
  all_goals
   refine D129 ?_;refine jac (h) rfl Tryz.func145 rfl jaa ?_;refine D5 ?_
   exact E1
 ·refine D7 ?_;refine D64 ?_;refine D184 ?_;refine jac (h) rfl Tryz.func145 rfl jaa ?_;refine D5 ?_
  exact E1
theorem f88_c (m:Md Tryz.prog B) (h:Hp) {b:Tb} {ps:Option Addr} {ns ks:Nat} {pw:Option Addr} {nw cw:Nat} {pb:Option Addr} {nb cb:Nat} (ra:RawTb B h b ps ns ks pw nw cw pb nb cb) {fid:Nat} {gc gp:Array Value} {own:Int} (hcall:jbg Tryz.prog fid=true) (hown:TbOk b→ ∀(H':Hp) (q:Nat),h.Sublist H'→Sheet B H' b q (tbL b ps ns ks pw nw cw pb nb cb)→FnC m fid (gc++[Value.pointer (some ⟨q,0,none⟩)].toArray++gp) H' fun v h'=>h'=H'∧v= .int .i64 own):FnC m 88 #[tbV b ps ns ks pw nw cw pb nb cb,.func (.func fid) gc gp] h fun v h'=> ∃nz,h'=h++nz∧jfl B b (tbL b ps ns ks pw nw cw pb nb cb) (jaL b own) nz v:=by
 refine jae Tryz.func88 rfl rfl (l:=(tbV b ps ns ks pw nw cw pb nb cb)::(.func (.func fid) gc gp)::uu34) rfl ?_
 intro cf cs K hK
 refine rs3 ?_;refine jaP rfl zq (fun q2=>k_hp (jab ?_));refine jat rfl zq (fun q4=>k_hp (jab ?_));refine D122 ?_;refine D151 ?_;refine D65 ?_
 rintro v rfl;refine D7 ?_;refine D163 ?_
 refine jaY rfl zq (fun hc=>?_) (fun hc=>?_)
 ·refine D121 ?_;refine rs4 ?_;refine D52 ?_;refine Zs ?_;refine D158 ?_;refine jac (h) rfl Tryz.func88 rfl jaa ?_;refine D5 ?_
  exact ⟨[],by simp,by rw [openS_b zS];exact je4 zS⟩
 ·refine D140 ?_
  have hz0:tbS b=0:=by omega
  have hk:=jbd.1 hz0
  have hbl:=jbG hk
  have h12:=jbn hk
  refine rr5 ?_;refine Zs ?_;refine D34 ?_;rintro v n9 ⟨q9,rfl,sh⟩;refine jaH (jab ?_);refine D52 ?_
  refine jat rfl zq (fun q7=>k_hp (jab ?_));refine D20 ?_;refine D120 ?_;refine rs5 ?_;refine Z3 ?_;refine jeC (Post:=fun v=>v=_) rfl zq hcall (fun H' hH=>hown hk H' q9 (sq hH) (sh.keeps (List.Sublist.trans (List.Sublist.trans (List.sublist_append_right _ _) (List.sublist_append_left _ _)) hH))) ?_
  rintro v rfl;refine D7 ?_;refine D163 ?_
  refine jaY rfl zq (fun hc=>?_) (fun hc=>?_)
  ·refine D121 ?_;refine rs4 ?_;refine D52 ?_;refine Zs ?_;refine D158 ?_;refine jac (h) rfl Tryz.func88 rfl jaa ?_;refine D5 ?_
   exact ⟨[],by simp,by rw [openS_o hz0 zS];exact je4 zS⟩
  ·refine D140 ?_;refine rs5 ?_;refine Z2 ?_;refine D46 ?_
   rintro v n8 o8;refine jaH (jab ?_);obtain ⟨p8,c8,rfl,hc8,r8⟩:=jar (B:=B) o8
   refine Zs ?_;refine D142 ?_;refine D181 ?_
   refine jaM rfl zq (fun hc=>?_) (fun hc=>?_)
   ·refine D121 ?_;refine rs3 ?_;refine D52 ?_;refine D158 ?_;refine jac (h) rfl Tryz.func88 rfl jaa ?_;refine D5 ?_
    exact ⟨[],by simp,by rw [openS_9 hz0 zO (List.length_eq_zero_iff.1 zO)];exact je4 zA⟩
   ·refine D119 ?_;refine D151 ?_;refine D158 ?_;refine jac (h++n9++n8) rfl Tryz.func88 rfl jaa ?_;refine D5 ?_
    have e:jaL b own=0:=openS_0 hz0 zO (fun e=>hc (by rw [e];rfl))
    exact ⟨n9++n8,by rw [List.append_assoc],_,_,_,_,by rw [e],fun _=>⟨q9,rfl,sh.keeps (List.sublist_append_left _ _),rfl,hc8,r8.keeps (List.sublist_append_right _ _)⟩⟩
def ownC (b:Tb) (c:Ce):Int:=if c∈jad b then 0 else 6
def outK (L:List Bo) (k j:Nat):List Int:=(L.take j).filterMap fun x=>xA x k
theorem jmE {L:List Bo} {k j:Nat} (hj:j<L.length) {v:Int} (h:xA (L.getD j []) k=some v):outK L k (j+1)=outK L k j++[v]:=by
 rw [outK,List.take_add_one,List.getElem?_eq_getElem hj,Option.toList_some,List.filterMap_append];rw [List.getD_eq_getElem?_getD,List.getElem?_eq_getElem hj] at h
 have h':xA L[j] k=some v:=h
 have e:[L[j]].filterMap (fun x=>xA x k)=[v]:=by simp only [List.filterMap_cons,h',List.filterMap_nil]
 rw [e];rfl
theorem jmF {L:List Bo} {k j:Nat} (hj:j<L.length) (h:xA (L.getD j []) k=none):outK L k (j+1)=outK L k j:=by
 rw [outK,List.take_add_one,List.getElem?_eq_getElem hj,Option.toList_some,List.filterMap_append];rw [List.getD_eq_getElem?_getD,List.getElem?_eq_getElem hj] at h
 have h':xA L[j] k=none:=h
 have e:[L[j]].filterMap (fun x=>xA x k)=[]:=by simp only [List.filterMap_cons,h',List.filterMap_nil]
 rw [e,List.append_nil];rfl
theorem outK_le (L:List Bo) (k j:Nat):(outK L k j).length≤j:=by
 have h1:=List.length_filterMap_le (fun x:Bo=>xA x k) (L.take j)
 have h2:=List.length_take_le j L
 rw [outK];omega
theorem jky {L:List Bo} {k:Nat} {z:Int}:z∈outK L k L.length↔ ∃x∈L,xA x k=some z:=by
 rw [outK,List.take_length,List.mem_filterMap]
theorem asc_meaS (s:Str):Asc (meaS s):=by
 rw [meaS];split
 ·rw [meaP];unfold Asc
  rw [List.pairwise_map];exact ((List.pairwise_lt_range).filter _).imp fun h=>by omega
 ·exact List.Pairwise.nil
theorem asc_canS {b:Tb} {L:List Bo} {k:Nat} (h:k<(jad b).length):Asc (canS (cdT b) L k):=by
 unfold Asc canS
 rw [jap b h];exact (asc_meaS _).filter _
theorem jkA {b:Tb} {k:Nat} {z:Int} (L:List Bo) (hL: ∀x∈L,okA (cdT b) x=true):z∈canS (cdT b) L k↔ ∃x∈L,xA x k=some z:=by
 rw [canS,List.mem_filter,List.any_eq_true];simp only [decide_eq_true_eq]
 exact ⟨fun h=>h.2,fun ⟨x,hx,h⟩=>⟨(jgg.1 (hL x hx)).2.1 k z h,x,hx,h⟩⟩
theorem jgN {b:Tb}: ∀x∈jaf b,okA (cdT b) x=true:=fun x hx=>(ja7.1 hx).1
theorem jch {b:Tb} {x:Bo} (h:x∈jaf b):x.length=(jad b).length:=by rw [←jaD];exact jlx h
theorem bo_at {h:Hp} {q e:Nat} {rw:Bool} {f:Nat×Nat} {x:Bo} [hx:Has h q rw (.cells (boL x).toArray e f)] (i:Nat) (hi:i<12):Rd B h ⟨q,1+(i:Int).toNat*1,none⟩ (.int .i64 ((xA x i).getD 0)):=by
 have:=bt_at (B:=B) (h:=h) (q:=q) (e:=e) (rw:=rw) (f:=f) (s:=jbH x) (ms:=padM x) (x:=hx) i (by rw [ja1];exact hi)
 rw [jee hi] at this
 exact this
theorem jfy {x:Bo} {k:Nat} (h:k<x.length):(jbH x).testBit k=(xA x k).isNone:=by
 rw [jcs];cases xA x k<;>simp [h]
def jcv (L:List Bo) (k j:Nat):Nat:=(L.take j).countP fun x=>(xA x k).isNone
theorem jfS {L:List Bo} {k j:Nat} (hj:j<L.length):jcv L k (j+1)=jcv L k j+if (xA (L.getD j []) k).isNone then 1 else 0:=by
 rw [jcv,List.take_add_one,List.getElem?_eq_getElem hj,Option.toList_some,List.countP_append,List.getD_eq_getElem?_getD,List.getElem?_eq_getElem hj,List.countP_singleton];rfl
theorem jic (L:List Bo) (k j:Nat):jcv L k j≤j:=by
 have h1:=List.countP_le_length (p:=fun x:Bo=>(xA x k).isNone) (l:=L.take j)
 have h2:=List.length_take_le j L
 rw [jcv];omega
theorem jg3 (L:List Bo) (k:Nat):jcv L k L.length=jj7 L k:=by rw [jcv,List.take_length];rfl
def canL (b:Tb) (c:Ce):List Int:=if jaL b (ownC b c)=0 then canS (cdT b) (jaf b) (plN b c) else []
theorem jkX:jbg Tryz.prog 149=true:=by kernel_rfl
theorem jkn {h:Hp} {q:Nat} {c:Ce} [x:Has h q true (.cells (ceL c).toArray 37 (0,0))]:RdN B h q 0 (ceL c):=fun j hj=>by
 rw [Nat.zero_add];refine Rd.held x.mem ?_
 rw [List.getElem?_toArray,List.getElem?_eq_getElem hj,List.getD_eq_getElem?_getD,List.getElem?_eq_getElem hj];rfl
theorem RdN.keepsN {h H:Hp} {b o:Nat} {vs:List Value} (r:RdN B h b o vs) (k:h.Sublist H):RdN B H b o vs:=fun j hj=>(r j hj).keeps k
theorem f30_c (m:Md Tryz.prog B) (h:Hp) {b:Tb} {ps:Option Addr} {ns ks:Nat} {pw:Option Addr} {nw cw:Nat} {pb:Option Addr} {nb cb:Nat} (ra:RawTb B h b ps ns ks pw nw cw pb nb cb) (c:Ce):FnC m 30 #[tbV b ps ns ks pw nw cw pb nb cb,cV c.butt c.line c.st] h fun v h'=>h'=h∧v= .tuple [.int .i64 (if jaL b (ownC b c)=0 then jhH (jj7 (jaf b) (plN b c)) (jaf b).length else 0),.int .i64 (jaL b (ownC b c))].toArray:=by
 refine jae Tryz.func30 rfl rfl (l:=(tbV b ps ns ks pw nw cw pb nb cb)::(cV c.butt c.line c.st)::uu47) rfl ?_
 intro cf cs K hK
 refine rs4 ?_;refine jaP rfl zq (fun q2=>k_hp (jab ?_));refine jaP rfl zq (fun q3=>k_hp (jab ?_));refine Zs ?_;refine D122 ?_;refine jbY [0,1,2,3,4,5,6,7,8,9] zK zK (List.Sublist.refl _) ?_
 refine DrawT.split 2 7 zA (DrawT.split 3 7 zA ?_ ?_) ?_
 refine D88 ?_;refine Z2 ?_;refine D23 ?_
 rintro v nz ⟨qs,rfl,rfl⟩;refine jaH (jab ?_);refine D19 ?_
 rintro v n8 ⟨qp,p8,m8,c8,rfl,hz⟩;refine jaH (jab ?_);refine Z3 ?_
 refine jat rfl zq (fun q6=>k_hp (jab ?_));rotate_left
 refine D89 ?_;refine Z2 ?_;refine D23 ?_
 rintro v nz ⟨qs,rfl,rfl⟩;refine jaH (jab ?_);refine jat rfl zq (fun q6=>k_hp (jab ?_));refine D19 ?_
 rintro v n8 ⟨qp,p8,m8,c8,rfl,hz⟩;refine jaH (jab ?_);refine Z3 ?_
 rotate_left
 refine D90 ?_;refine Z2 ?_
 refine jat rfl zq (fun q6=>k_hp (jab ?_));refine D23 ?_
 rintro v nz ⟨qs,rfl,rfl⟩;refine jaH (jab ?_);refine D19 ?_
 rintro v n8 ⟨qp,p8,m8,c8,rfl,hz⟩;refine jaH (jab ?_);refine Z3 ?_
 all_goals
  refine D20 ?_;refine D178 ?_
  refine jaY rfl zq (fun hc=>?_) (fun hc=>?_)
  ·refine D121 ?_;refine D170 ?_;refine D117 ?_;refine jac (h) rfl Tryz.func30 rfl jaa ?_;refine D5 ?_
   exact ⟨rfl,by rw [if_neg zS]⟩
  ·refine D140 ?_
   have hz0:jaL b (ownC b c)=0:=by first|assumption|omega
   obtain ⟨q9,rfl,sh,rfl,hc8,rdB⟩:=hz hz0
   obtain ⟨hzb,hzo,hzn⟩:=jcH hz0
   have hk:=jbd.1 hzb
   have hbl:=jbG hk
   have h12:=jbn hk
   have hin:c∈jad b:=Classical.byContradiction fun e=>by rw [ownC,if_neg e] at hzo;cases hzo
   have hpl:=jkq.2 hin
   obtain ⟨kk,hkk⟩: ∃kk,kk=plN b c:=⟨_,rfl⟩
   rw [←hkk] at hpl
   obtain ⟨mrw,qm,hm1,hm2⟩:=sh.map
   haveI hmh:Has n8 qm mrw (mapC (jad b)):=⟨hm2⟩
   refine rr1 ?_;refine D122 ?_;refine rs4 ?_;refine Z4 ?_;refine D143 ?_;refine D44 ?_;refine jam (fun nn l h'=> ∃(j:Nat),nn=(jaf b).length-j∧(j≤(jaf b).length)∧(∃U:Nat→Value,l=((tbV b ps ns ks pw nw cw pb nb cb)::(cV c.butt c.line c.st)::(U 2)::(.pointer (some ⟨q3,0,none⟩))::(U 4)::(U 5)::(.pointer (some ⟨q6,0,none⟩))::(U 7)::(.int .i64 (jcv (jaf b) kk j:Int))::vw13 U 9 ((.slice p8 (jaf b).length c8)::(.int .i64 ((jaf b).length:Int))::(.int .i64 (j:Int))::vw24 U 25 [])))∧h++[⟨true,q2,.cells (tbL b ps ns ks pw nw cw pb nb cb).toArray 25 (0,0)⟩,⟨true,q3,.cells (ceL c).toArray 37 (0,0)⟩]++[⟨true,qs,.cells (ceL c).toArray 37 (0,0)⟩]++n8++[⟨true,q6,.cells [.pointer (some ⟨q9,0,none⟩),.slice p8 (jaf b).length c8].toArray 112 (0,0)⟩]=h') _ ⟨0,rfl,by omega,exU rfl,rfl⟩ ?_;rintro nn l h' ⟨j,rfl,hj,⟨U,rfl⟩,rfl⟩ hnext;have hwk:=jic (jaf b) kk j
   refine rs1 ?_;refine jaq rfl zq (fun hc=>?_) (fun hc=>?_)
   ·refine D156 ?_
    obtain ⟨rb,ro,hrp⟩:=rdB.ptr zO
    have rdB':=rdB
    rw [hrp] at rdB'
    have hxm:(jaf b).getD j []∈jaf b:=by rw [List.getD_eq_getElem?_getD,List.getElem?_eq_getElem zO];exact List.getElem_mem _
    have hxl:=jch hxm
    refine rr4 ?_;refine D108 ?_;refine D87 ?_;obtain ⟨x,hx⟩: ∃x,x=(jaf b).getD j []:=⟨_,rfl⟩
    rw [←hx] at hxm hxl⊢
    have hxb:=jbR (x:=x) zO
    refine jat rfl zq (fun q10=>k_hp (jab ?_));refine jiR rfl zq (jav x) ?_;refine D120 ?_;refine jaz [(0,.pure),(2,.pure),(1,.read),(3,.read),(4,.pure),(5,.pure),(6,.read),(7,.read),(8,.read),(9,.keep)] zK zK (List.Sublist.refl _) ?_;refine Z4 ?_;refine jai rfl zq ?_;refine Zs ?_;refine k_ld rfl zq (hm1.keeps SubH.sub) ?_;refine Zs ?_;refine jiU (c:=c) (cs:=jad b) (k:=37) (e:=3) zK rfl zq ?_
    refine jak (Post:=fun v=>IsB _ v) rfl zq zK (fun H' hH=>by
      rw [jf9 hin,←hkk];exact f98_b m H' (jbH x) kk hxb zO) ?_
    rintro v (⟨hc,rfl⟩|⟨hc,rfl⟩);refine D7 ?_;refine D121 ?_;refine D157 ?_
    rotate_left
    refine D7 ?_;refine D119 ?_
    all_goals
     refine D126 ?_
    ·have hws:jcv (jaf b) kk (j+1)=jcv (jaf b) kk j:=by
      rw [jfS zO,←hx,←jfy zO,if_neg hc];rfl
     rw [←hws];exact m.weak jaa (hnext _ _ _ zO ⟨j+1,rfl,by omega,exU rfl,rfl⟩)
    ·have hws:jcv (jaf b) kk (j+1)=jcv (jaf b) kk j+1:=by
      rw [jfS zO,←hx,←jfy zO,hc];rfl
     rw [show (jcv (jaf b) kk j:Int)+1=((jcv (jaf b) kk (j+1):Nat):Int) by rw [hws];rfl];exact m.weak jaa (hnext _ _ _ zO ⟨j+1,rfl,by omega,exU rfl,rfl⟩)
   ·refine D137 ?_;refine D3 ?_;refine D3 ?_
    have hjn:j=(jaf b).length:=by omega
    rw [hjn,jg3];have hwa:=jic (jaf b) kk (jaf b).length
    rw [jg3] at hwa
    refine rr1 ?_;refine D195 ?_;refine rs2 ?_;refine jaM rfl zq (fun hc=>?_) (fun hc=>?_)
    ·refine D161 ?_;refine D165 ?_;refine jac (h) rfl Tryz.func30 rfl jaa ?_;refine D5 ?_
     refine ⟨rfl,?_⟩
     rw [if_pos hz0,hz0,←hkk];first
      |rw [jhH,if_pos zO]
      |rw [jhH,if_neg zO,if_pos zO]
      |rw [jhH,if_neg zO,if_neg zO]
    ·refine D132 ?_;refine rs5 ?_;refine Z3 ?_
     refine jaM rfl zq (fun hc=>?_) (fun hc=>?_);refine D161 ?_
     rotate_left
     refine D132 ?_;refine D8 ?_;refine D17 ?_
     all_goals
      refine D165 ?_;refine jac (h) rfl Tryz.func30 rfl jaa ?_;refine D5 ?_
      refine ⟨rfl,?_⟩
      rw [if_pos hz0,hz0,←hkk];first
       |rw [jhH,if_pos zO]
       |rw [jhH,if_neg zO,if_pos zO]
       |rw [jhH,if_neg zO,if_neg zO]
theorem f150_s (m:Md Tryz.prog B):PdqC m 12:=by
 intro h bk n c xs junk lim hl hn hk0 hk1
 refine jae Tryz.func150 rfl rfl (l:=(.slice (some ⟨bk,0,none⟩) n c)::(.int .i64 0)::(.int .i64 (n:Int))::(.int .i64 lim)::uu130) rfl ?_
 intro cf cs K hK
 refine D145 ?_;refine D145 ?_;refine D15 ?_
 refine jam (fun nn l h'=> ∃(k:Nat),nn=k+1∧(k=0)∧(∃U:Nat→Value,l=((.slice (some ⟨bk,0,none⟩) n c)::(.int .i64 0)::(.int .i64 (n:Int))::(.int .i64 lim)::vw130 U 4 []))∧h++[blkC bk xs junk]=h') _ ⟨0,rfl,rfl,exU rfl,rfl⟩ ?_;rintro nn l h' ⟨k,rfl,hk,⟨U,rfl⟩,rfl⟩ hnext;refine D15 ?_;refine D181 ?_;refine D178 ?_
 refine jiW rfl zq (fun hc=>?_) (fun hc=>?_)
 ·refine D121 ?_;refine D181 ?_;refine jc2 rfl zq zK (f181_c m h hl zO 0 n zO (Nat.le_refl _)) ?_
  rintro v h' ⟨rfl,ys,rfl,hsw,hso⟩;refine D7 ?_;refine D1 ?_;refine D4 ?_;refine jac (h++[blkC bk ys junk]) rfl Tryz.func150 rfl jaa ?_;refine D5 ?_
  exact ⟨rfl,ys,rfl,hsw,hso⟩
 ·exfalso
  omega
theorem f29_n (m:Md Tryz.prog B) (h:Hp) {N:Nat} (hP:PdqC m N) (hN:N≤60000) {b:Tb} {ps:Option Addr} {ns ks:Nat} {pw:Option Addr} {nw cw:Nat} {pb:Option Addr} {nb cb:Nat} (ra:RawTb B h b ps ns ks pw nw cw pb nb cb) (c:Ce) (hbN:tbS b=0→(jaf b).length≤N):FnC m 29 #[tbV b ps ns ks pw nw cw pb nb cb,cV c.butt c.line c.st] h fun v h'=> ∃new,h'=h++new∧ ∃w,v= .tuple [w,.int .i64 (jaL b (ownC b c))].toArray∧RdI B new w (canL b c):=by
 refine jae Tryz.func29 rfl rfl (l:=(tbV b ps ns ks pw nw cw pb nb cb)::(cV c.butt c.line c.st)::uu51) rfl ?_
 intro cf cs K hK
 refine rs4 ?_;refine jaP rfl zq (fun q2=>k_hp (jab ?_));refine jaP rfl zq (fun q3=>k_hp (jab ?_));refine Zs ?_;refine D122 ?_;refine jbY [0,1,2,3,4,5,6,7,8,9] zK zK (List.Sublist.refl _) ?_
 refine DrawT.split 2 7 zA (DrawT.split 3 7 zA ?_ ?_) ?_
 refine D88 ?_;refine Z2 ?_;refine D23 ?_
 rintro v nz ⟨qs,rfl,rfl⟩;refine jaH (jab ?_);refine D19 ?_
 rintro v n8 ⟨qp,p8,m8,c8,rfl,hz⟩;refine jaH (jab ?_);refine Z3 ?_
 refine jat rfl zq (fun q6=>k_hp (jab ?_));rotate_left
 refine D89 ?_;refine Z2 ?_;refine D23 ?_
 rintro v nz ⟨qs,rfl,rfl⟩;refine jaH (jab ?_);refine jat rfl zq (fun q6=>k_hp (jab ?_));refine D19 ?_
 rintro v n8 ⟨qp,p8,m8,c8,rfl,hz⟩;refine jaH (jab ?_);refine Z3 ?_
 rotate_left
 refine D90 ?_;refine Z2 ?_
 refine jat rfl zq (fun q6=>k_hp (jab ?_));refine D23 ?_
 rintro v nz ⟨qs,rfl,rfl⟩;refine jaH (jab ?_);refine D19 ?_
 rintro v n8 ⟨qp,p8,m8,c8,rfl,hz⟩;refine jaH (jab ?_);refine Z3 ?_
 all_goals
  refine D20 ?_;refine D178 ?_
  refine jaY rfl zq (fun hc=>?_) (fun hc=>?_)
  ·refine D121 ?_;refine D170 ?_;refine D117 ?_;refine jac (h) rfl Tryz.func29 rfl jaa ?_;refine D5 ?_
   exact ⟨[],by simp,_,rfl,by rw [canL,if_neg zS];exact ⟨none,0,rfl,⟨none,0,rfl,rfl,.inl ⟨rfl,rfl⟩⟩⟩⟩
  ·refine D140 ?_
   have hz0:jaL b (ownC b c)=0:=by first|assumption|omega
   obtain ⟨q9,rfl,sh,rfl,hc8,rdB⟩:=hz hz0
   obtain ⟨hzb,hzo,hzn⟩:=jcH hz0
   have hk:=jbd.1 hzb
   have hbl:=jbG hk
   have h12:=jbn hk
   have hin:c∈jad b:=Classical.byContradiction fun e=>by rw [ownC,if_neg e] at hzo;cases hzo
   have hpl:=jkq.2 hin
   obtain ⟨kk,hkk⟩: ∃kk,kk=plN b c:=⟨_,rfl⟩
   rw [←hkk] at hpl
   obtain ⟨mrw,qm,hm1,hm2⟩:=sh.map
   haveI hmh:Has n8 qm mrw (mapC (jad b)):=⟨hm2⟩
   refine jaz [(0,.pure),(1,.read),(2,.pure),(3,.pure),(4,.read),(5,.read),(6,.read),(7,.pure)] zK zK (List.Sublist.refl _) ?_;refine Z2 ?_;refine jai rfl zq ?_;refine Zs ?_;refine k_ld rfl zq (hm1.keeps (by first|exact SubH.sub|exact List.sublist_append_right _ _)) ?_;refine Zs ?_;refine jiU (c:=c) (cs:=jad b) (k:=37) (e:=3) zK rfl zq ?_
   rw [jf9 hin,←hkk,Option.getD_some];refine D0 ?_;refine D139 ?_;refine rs4 ?_;refine Z4 ?_;refine D143 ?_;refine D44 ?_
   refine jam (fun nn l h'=> ∃(j:Nat) (wp:Option Addr) (wc:Nat) (M:Hp),nn=(jaf b).length-j∧(j≤(jaf b).length)∧(OwnS 3 1 (.slice wp (outK (jaf b) kk j).length wc) (outK (jaf b) kk j).length (ints (outK (jaf b) kk j)) M)∧((outK (jaf b) kk j)=[]→wp=none∧wc=0∧M=[])∧(∃U:Nat→Value,l=((tbV b ps ns ks pw nw cw pb nb cb)::(cV c.butt c.line c.st)::(U 2)::(.pointer (some ⟨q3,0,none⟩))::(U 4)::(U 5)::(.pointer (some ⟨q6,0,none⟩))::(U 7)::(.int .i64 (kk:Int))::(.slice wp (outK (jaf b) kk j).length wc)::vw20 U 10 ((.slice p8 (jaf b).length c8)::(.int .i64 ((jaf b).length:Int))::(.int .i64 (j:Int))::vw20 U 33 [])))∧h++[⟨true,q2,.cells (tbL b ps ns ks pw nw cw pb nb cb).toArray 25 (0,0)⟩,⟨true,q3,.cells (ceL c).toArray 37 (0,0)⟩]++[⟨true,qs,.cells (ceL c).toArray 37 (0,0)⟩]++n8++[⟨true,q6,.cells [.pointer (some ⟨q9,0,none⟩),.slice p8 (jaf b).length c8].toArray 112 (0,0)⟩]++M=h') _ ⟨0,none,0,[],rfl,by omega,OwnS.nil,fun _=>⟨rfl,rfl,rfl⟩,exU rfl,(by rw [List.append_nil])⟩ ?_;rintro nn l h' ⟨j,wp,wc,M,rfl,hj,how,hze,⟨U,rfl⟩,rfl⟩ hnext;have hol:=outK_le (jaf b) kk j
   refine rs1 ?_;refine jaq rfl zq (fun hc=>?_) (fun hc=>?_)
   ·refine D156 ?_
    obtain ⟨rb,ro,hrp⟩:=rdB.ptr zO
    have rdB':=rdB
    rw [hrp] at rdB'
    have hxm:(jaf b).getD j []∈jaf b:=by rw [List.getD_eq_getElem?_getD,List.getElem?_eq_getElem zO];exact List.getElem_mem _
    have hxl:=jch hxm
    refine rr4 ?_;refine D108 ?_;refine D87 ?_;obtain ⟨x,hx⟩: ∃x,x=(jaf b).getD j []:=⟨_,rfl⟩
    rw [←hx] at hxm hxl⊢
    have hxb:=jbR (x:=x) zO
    refine jat rfl zq (fun q11=>k_hp (jab ?_));refine jiR rfl zq (jav x) ?_;refine D1 ?_;refine rs5 ?_;refine Z3 ?_;refine jak (Post:=fun v=>IsB _ v) rfl zq zK (fun H' hH=>f98_b m H' (jbH x) kk hxb zO) ?_;rintro v (⟨hc,rfl⟩|⟨hc,rfl⟩)
    ·refine D7 ?_;refine D63 ?_;refine D149 ?_
     have hks:=jmF (L:=jaf b) (k:=kk) (j:=j) zO (by
      have e:=hc
      rw [jfy zO,Option.isNone_iff_eq_none] at e
      rw [←hx];exact e)
     rw [←hks];refine m.weak (h':=h++[⟨true,q2,.cells (tbL b ps ns ks pw nw cw pb nb cb).toArray 25 (0,0)⟩,⟨true,q3,.cells (ceL c).toArray 37 (0,0)⟩]++[⟨true,qs,.cells (ceL c).toArray 37 (0,0)⟩]++n8++[⟨true,q6,.cells [.pointer (some ⟨q9,0,none⟩),.slice p8 (jaf b).length c8].toArray 112 (0,0)⟩]++M) jhC ?_
     exact hnext _ _ _ zO ⟨j+1,wp,wc,M,rfl,by omega,by rw [hks];exact how,by rw [hks];exact hze,exU rfl,rfl⟩
    ·refine D7 ?_;refine D64 ?_;refine D121 ?_;refine rr8 ?_;refine Z4 ?_;refine k_ld rfl zq (bo_at kk zO) ?_
     refine k_bs kdq rfl zq zA zA rfl (fun q46=>k_hp (jab ?_));refine jaZ rfl zq rfl how kdq zO zO (fun w47 n47 o47=>jab ?_);obtain ⟨p47,c47,rfl,hc47,r47⟩:=jar (B:=B) o47
     refine D0 ?_;refine D126 ?_
     have hxs:xA x kk=some ((xA x kk).getD 0):=by
      cases e:xA x kk with
      |none=>exact absurd (by rw [jfy zO,e];rfl) hc
      |some v=>rfl
     have hks:=jmE (L:=jaf b) (k:=kk) (j:=j) zO (hx▸hxs)
     have hkl:(outK (jaf b) kk (j+1)).length=(outK (jaf b) kk j).length+1:=by rw [hks];simp
     rw [←hkl];refine m.weak (h':=h++[⟨true,q2,.cells (tbL b ps ns ks pw nw cw pb nb cb).toArray 25 (0,0)⟩,⟨true,q3,.cells (ceL c).toArray 37 (0,0)⟩]++[⟨true,qs,.cells (ceL c).toArray 37 (0,0)⟩]++n8++[⟨true,q6,.cells [.pointer (some ⟨q9,0,none⟩),.slice p8 (jaf b).length c8].toArray 112 (0,0)⟩]++n47) jhC ?_
     exact hnext _ _ _ zO ⟨j+1,p47,c47,n47,rfl,by omega,by rw [hkl,hks,jcp,←hx];exact o47,fun e=>by rw [hks] at e;simp at e,exU rfl,rfl⟩
   ·refine D137 ?_;refine D3 ?_
    have hbN2:=hbN hzb
    obtain rfl:j=(jaf b).length:=by omega
    by_cases h0:outK (jaf b) kk (jaf b).length=[]
    ·obtain ⟨rfl,rfl,rfl⟩:=hze h0
     rw [show (outK (jaf b) kk (jaf b).length).length=0 by rw [h0];rfl];refine D167 ?_;refine jak (Post:=fun _=>True) rfl zq zK (fun H' hH=>CallF.mono (f99_z m H') fun v h' e=>⟨e,trivial⟩) ?_
     rintro v _;refine D7 ?_;refine D1 ?_;refine D176 ?_;refine jak (Post:=fun v=>v= .slice none 0 0) rfl zq zK (fun H' hH=>f100_z m H') ?_
     rintro v rfl;refine D7 ?_;refine D194 ?_;refine jac (h) rfl Tryz.func29 rfl jaa ?_;refine D5 ?_
     have hcl:canL b c=canS (cdT b) (jaf b) kk:=by rw [canL,if_pos hz0,←hkk]
     have hce:canS (cdT b) (jaf b) kk=[]:=by
      rw [List.eq_nil_iff_forall_not_mem];intro z hzz
      rw [jkA _ jgN,←jky,h0] at hzz
      cases hzz
     exact ⟨[],by simp,_,by rw [hz0],by rw [hcl,hce];exact ⟨none,0,rfl,⟨none,0,rfl,rfl,.inl ⟨rfl,rfl⟩⟩⟩⟩
    ·obtain ⟨bk,c9,junk,hw9,rfl,hbk1,hbk2⟩:=jmD how (List.length_pos_iff.2 h0)
     cases hw9
     refine D167 ?_;refine jc2 rfl zq zK (f99_c m _ hP hN hbk1 zO) ?_
     rintro v h' ⟨rfl,ys,rfl,hsw,hso⟩;refine D7 ?_
     have hyl:=hsw.length
     refine D1 ?_;refine D176 ?_;refine jc2 rfl zq zK (f100_c m _ (show ys.length=_ by omega) hbk2 zO) ?_
     rintro v h' ⟨n11,rfl,k11,hk',ho'⟩;refine D7 ?_;refine D194 ?_;refine jac (h++n11) rfl Tryz.func29 rfl jaa ?_;refine D5 ?_
     have hcl:canL b c=canS (cdT b) (jaf b) kk:=by rw [canL,if_pos hz0,←hkk]
     have hyn:ys.length=(outK (jaf b) kk (jaf b).length).length:=by omega
     rw [←hyn] at hso ho' hk'
     subst hk'
     have hye:jb2 ys ys.length=canS (cdT b) (jaf b) kk:=asc_uniq (jfW hso _ (Nat.le_refl _)).1 (asc_canS hpl) fun z=>by
      rw [jmQ hso,jkA _ jgN,←jky];exact (hsw.perm zO).mem_iff
     rw [hye] at ho'
     obtain ⟨p11,c11,rfl,_,r11⟩:=jar (B:=B) ho'
     exact ⟨n11,rfl,_,by rw [hz0],by rw [hcl];exact ⟨p11,c11,rfl,r11⟩⟩
theorem f29_s (m:Md Tryz.prog B) (h:Hp) {b:Tb} {ps:Option Addr} {ns ks:Nat} {pw:Option Addr} {nw cw:Nat} {pb:Option Addr} {nb cb:Nat} (ra:RawTb B h b ps ns ks pw nw cw pb nb cb) (c:Ce) (hb:(jaf b).length≤12):FnC m 29 #[tbV b ps ns ks pw nw cw pb nb cb,cV c.butt c.line c.st] h fun v h'=> ∃new,h'=h++new∧ ∃w,v= .tuple [w,.int .i64 (jaL b (ownC b c))].toArray∧RdI B new w (canL b c):=f29_n m h (f150_s m) zA ra c fun _=>hb
section
variable {bt:Bool} {st p v lo hi:Int} {d:Cd} {o:Option Int} {s:Int×Int}
theorem jbI (h:d.st≠st):jeR bt st p d o s=s:=by cases o with|none=>rfl|some v=>rw [jeR,if_pos h]
theorem jcD:jeR bt st p d none s=s:=rfl
theorem jct (h:d.st=st) (hb:d.butt=bt):jeR bt st p d (some v) (lo,hi)=(if d.lat≤p then max lo v else lo,if p≤d.lat then min hi v else hi):=by
 rw [jeR,if_neg (fun e=>e h),if_pos hb]
theorem jbJ (h:d.st=st) (hb:d.butt≠bt):jeR bt st p d (some v) (lo,hi)=(if v<p then max lo d.lat else lo,if p<v then min hi d.lat else hi):=by
 rw [jeR,if_neg (fun e=>e h),if_neg hb]
end
theorem jag {a c:Prop} [Decidable a] [Decidable c] {x y z w:Int}:(a→c→((if a then x else y,if c then z else w):Int×Int)=(x,z))∧(a→ ¬c→((if a then x else y,if c then z else w):Int×Int)=(x,w))∧(¬a→c→((if a then x else y,if c then z else w):Int×Int)=(y,z))∧(¬a→ ¬c→((if a then x else y,if c then z else w):Int×Int)=(y,w)):=
 ⟨fun h k=>by rw [if_pos h,if_pos k],fun h k=>by rw [if_pos h,if_neg k],fun h k=>by rw [if_neg h,if_pos k],fun h k=>by rw [if_neg h,if_neg k]⟩
theorem bdK_in {D:List Cd} {x:Bo} {bt:Bool} {st p:Int} (hd: ∀i,0≤(dA D i).lat∧(dA D i).lat≤959) (hx: ∀i v,xA x i=some v→0≤v∧v≤959): ∀k,(0≤(bdK D x bt st p k).1∧(bdK D x bt st p k).1≤959)∧(0≤(bdK D x bt st p k).2∧(bdK D x bt st p k).2≤959)
 |0=>⟨⟨Int.le_refl 0,by show (0:Int)≤959;decide⟩,⟨by show (0:Int)≤959;decide,Int.le_refl 959⟩⟩
 |k+1=>by
  have ih:=bdK_in (bt:=bt) (st:=st) (p:=p) hd hx k
  rw [jbK];generalize bdK D x bt st p k=s at ih⊢
  obtain ⟨lo,hi⟩:=s
  simp only at ih
  have h1:=hd k
  cases hv:xA x k with
  |none=>exact ih
  |some v=>
   have h2:=hx k v hv
   by_cases e:(dA D k).st=st
   ·by_cases e2:(dA D k).butt=bt
    ·rw [jct e e2];simp only
     constructor<;>split<;>omega
    ·rw [jbJ e e2];simp only
     constructor<;>split<;>omega
   ·rw [jbI e];exact ih
theorem meaS_in {s:Str} {z:Int} (h:z∈meaS s):0≤z∧z≤959:=by
 rw [meaS] at h
 split at h
 ·rw [meaP,List.mem_map] at h
  obtain ⟨n,hn,rfl⟩:=h
  rw [List.mem_filter,List.mem_range] at hn
  omega
 ·cases h
theorem cd_lat {b:Tb} (k:TbOk b) (i:Nat):0≤(dA (cdT b) i).lat∧(dA (cdT b) i).lat≤959:=by
 by_cases h:i<(jad b).length
 ·rw [jap b h];have hm:(jad b).getD i default∈jad b:=jan h
  exact ((k.lines _).ok _ (jex (jdD hm).1)).lat
 ·rw [dA,List.getD_eq_getElem?_getD,List.getElem?_eq_none (by rw [jaD];omega)];decide
theorem boat_in {b:Tb} {x:Bo} (h:x∈jaf b) {i:Nat} {v:Int} (hv:xA x i=some v):0≤v∧v≤959:=by
 have h1:=(jgg.1 (jgN x h)).2.1 i v hv
 have hi:i<(jad b).length:=Classical.byContradiction fun e=>by
  rw [xA,List.getD_eq_getElem?_getD,List.getElem?_eq_none (by rw [jch h];omega)] at hv
  cases hv
 rw [jap b hi] at h1
 exact meaS_in h1
theorem bdA_in {b:Tb} (k:TbOk b) {x:Bo} (h:x∈jaf b) (bt:Bool) (st p:Int):(0≤(bdA (cdT b) x bt st p).1∧(bdA (cdT b) x bt st p).1≤959)∧(0≤(bdA (cdT b) x bt st p).2∧(bdA (cdT b) x bt st p).2≤959):=bdK_in (cd_lat k) (fun i v hv=>boat_in h hv) _
def jma (b:Tb) (bt:Bool) (st p:Int):Int×Int:=spB (fun x=>bdA (cdT b) x bt st p) (jaf b)
def ownP (b:Tb) (st p:Int):Int:=if¬(0≤st∧st≤(b.sts.length:Int)-1) then 6 else if¬(0≤p∧p≤959) then 1 else 0
def jdY (b:Tb) (bt:Bool) (st p:Int):Int×Int:=if jaL b (ownP b st p)=0 then jma b bt st p else (0,0)
theorem spBK_one {f:Bo→Int×Int} {L:List Bo} (h:0<L.length) (h1:(f (L.getD 0 [])).1≤959) (h2:0≤(f (L.getD 0 [])).2):spBK f L 1=f (L.getD 0 []):=by
 rw [jip f L 0 h];have:spBK f L 0=(959,0):=by rw [spBK,List.take_zero];rfl
 rw [this];refine Prod.ext ?_ ?_
 ·show min 959 _=_
  omega
 ·show max 0 _=_
  omega
theorem f146_c (m:Md Tryz.prog B) (h:Hp) {b:Tb} {q:Nat} {tv:List Value} (sh:Sheet B h b q tv) {x:Bo} (hx:x.length=(jad b).length) (bt:Bool) (st p:Int):FnC m 146 #[.pointer (some ⟨q,0,none⟩),boV x,.bool bt,.int .i64 st,.int .i64 p] h fun v h'=>h'=h∧v= .tuple [.int .i64 (bdA (cdT b) x bt st p).1,.int .i64 (bdA (cdT b) x bt st p).2].toArray:=by
 have h12:=sh.twelve
 obtain ⟨pc,cc,hcv,hcc,hcr⟩:=sh.cells
 refine jae Tryz.func146 rfl rfl (l:=(.pointer (some ⟨q,0,none⟩))::(boV x)::(.bool bt)::(.int .i64 st)::(.int .i64 p)::uu81) rfl ?_
 intro cf cs K hK
 refine rs3 ?_;refine jaP rfl zq (fun q6=>k_hp (jab ?_));refine Zs ?_;refine D0 ?_;refine D139 ?_;refine rs6 ?_;refine Zs ?_
 refine jai rfl zq ?_;refine Zs ?_;refine D73 ?_;refine D124 ?_;refine D15 ?_
 refine jam (fun nn l h'=> ∃(i:Nat) (lo hi:Int),nn=(jad b).length-i∧(i≤(jad b).length)∧(bdK (cdT b) x bt st p i=(lo,hi))∧(∃U:Nat→Value,l=((.pointer (some ⟨q,0,none⟩))::(boV x)::(.bool bt)::(.int .i64 st)::(.int .i64 p)::(U 5)::(.pointer (some ⟨q6,0,none⟩))::(U 7)::(U 8)::(U 9)::(.int .i64 lo)::(.int .i64 hi)::vw8 U 12 ((.slice pc (jad b).length cc)::(.int .i64 ((jad b).length:Int))::(.int .i64 (i:Int))::vw63 U 23 [])))∧h++[⟨true,q6,.cells (boL x).toArray 136 (0,0)⟩]=h') _ ⟨0,0,959,rfl,by omega,rfl,exU rfl,rfl⟩ ?_;rintro nn l h' ⟨i,lo,hi,rfl,hi9,hbd,⟨U,rfl⟩,rfl⟩ hnext;refine rs1 ?_;refine jaq rfl zq (fun hc=>?_) (fun hc=>?_)
 ·refine D156 ?_
  obtain ⟨pcb,pco,hpc⟩:=hcr.ptr zO
  have hcr':=hcr
  rw [hpc] at hcr'
  refine rr6 ?_;refine Zs ?_;refine D95 ?_;refine jcB (vs:=[.bool (cdOf b ((jad b).getD i default)).butt,.int .i64 ((jad b).getD i default).line,.int .i64 (cdOf b ((jad b).getD i default)).st]) rfl zq rfl (hcr'.eat i zO zO) ?_;refine jat rfl zq (fun q13=>k_hp (jab ?_));refine Zs ?_;refine D20 ?_;refine D120 ?_;refine rs10 ?_;refine Z3 ?_
  refine jaY rfl zq (fun hc=>?_) (fun hc=>?_)
  ·refine Z5 ?_;refine D189 ?_;refine D31 ?_;refine D125 ?_
   exact m.weak jaa (hnext _ _ _ zO ⟨i+1,_,_,rfl,by omega,by
    rw [jbK,hbd,jap b zO];first
     |exact jbI zS
     |(rw [hv];first
       |exact jcD
       |(rw [jct zS hbt];exact E22)
       |(rw [jbJ zS hbt];exact E22)),exU rfl,rfl⟩)
  ·refine Z2 ?_;refine k_ldh rfl rfl ?_;refine Zs ?_;refine jak (Post:=fun v=>IsB _ v) rfl rfl zK (fun H' hH=>f98_b m H' (jbH x) i (jbR zO) zO) ?_
   rintro v (⟨hc,rfl⟩|⟨hc,rfl⟩)
   ·refine D7 ?_
    have hv:xA x i=none:=by
     rw [jfy zO] at hc
     exact Option.isNone_iff_eq_none.1 hc
    refine D10 ?_;refine D121 ?_;refine D31 ?_;refine D125 ?_
    exact m.weak jaa (hnext _ _ _ zO ⟨i+1,_,_,rfl,by omega,by
     rw [jbK,hbd,jap b zO];first
      |exact jbI zS
      |(rw [hv];first
        |exact jcD
        |(rw [jct zS hbt];exact E22)
        |(rw [jbJ zS hbt];exact E22)),exU rfl,rfl⟩)
   ·refine D7 ?_
    obtain ⟨v,hv⟩: ∃v,xA x i=some v:=by
     cases e:xA x i with
     |none=>exact absurd (by rw [jfy zO,e];rfl) hc
     |some v=>exact ⟨v,rfl⟩
    refine D10 ?_;refine D140 ?_;refine jaz [(0,.pure),(1,.pure),(2,.pure),(3,.pure),(4,.pure),(6,.pure),(7,.pure),(8,.pure),(5,.read),(10,.pure),(9,.read),(11,.pure)] zK zK (List.Sublist.refl _) ?_;refine Z2 ?_
    refine jai rfl zq ?_;refine Z5 ?_;refine D81 ?_;refine Zs ?_;refine k_ld rfl zq (bo_at i zO) ?_
    rw [hv,Option.getD_some];refine D0 ?_;refine rs5 ?_;refine Z3 ?_
    refine jiZ rfl zq zK (fun hbt=>?_) (fun hbt=>?_);refine D178 ?_;refine D63 ?_;refine D119 ?_
    rotate_left
    refine D178 ?_;refine D64 ?_;refine D121 ?_;refine rr4 ?_;refine Z3 ?_;refine D0 ?_
    all_goals
     refine D3 ?_;refine rs11 ?_;refine Z2 ?_
    ·refine jaq rfl zq (fun hc=>?_) (fun hc=>?_)
     ·refine Z7 ?_;refine D189 ?_;refine rr4 ?_;refine Z2 ?_;refine jm9 rfl zq ?_;refine D0 ?_;refine rs11 ?_;refine Z2 ?_
      refine jaJ rfl zq (fun hc=>?_) (fun hc=>?_)
      ·refine Z7 ?_;refine D189 ?_;refine rr4 ?_;refine Z2 ?_;refine jjP rfl zq ?_;refine D0 ?_;refine D126 ?_
       exact m.weak jaa (hnext _ _ _ zO ⟨i+1,_,_,rfl,by omega,by
        rw [jbK,hbd,jap b zO];first
         |exact jbI zS
         |(rw [hv];first
           |exact jcD
           |(rw [jct zS hbt];exact E22)
           |(rw [jbJ zS hbt];exact E22)),exU rfl,rfl⟩)
      ·refine Z3 ?_
       refine jaM rfl rfl (fun hc=>?_) (fun hc=>?_);refine Z2 ?_;refine D66 ?_
       rotate_left
       refine Z2 ?_;refine D48 ?_
       all_goals
        refine D10 ?_;refine D149 ?_
        exact m.weak jaa (hnext _ _ _ zO ⟨i+1,_,_,rfl,by omega,by
         rw [jbK,hbd,jap b zO];first
          |exact jbI zS
          |(rw [hv];first
            |exact jcD
            |(rw [jct zS hbt];exact E22)
            |(rw [jbJ zS hbt];exact E22)),exU rfl,rfl⟩)
     ·refine Z3 ?_
      refine jaM rfl rfl (fun hc=>?_) (fun hc=>?_);refine Z2 ?_;refine D66 ?_
      rotate_left
      refine Z2 ?_;refine D48 ?_
      all_goals
       refine D10 ?_;refine D119 ?_;refine rs11 ?_;refine Z2 ?_
       refine jaJ rfl zq (fun hc=>?_) (fun hc=>?_)
       ·refine Z7 ?_;refine D189 ?_;refine rr4 ?_;refine Z2 ?_;refine jjP rfl zq ?_;refine D0 ?_;refine D126 ?_
        exact m.weak jaa (hnext _ _ _ zO ⟨i+1,_,_,rfl,by omega,by
         rw [jbK,hbd,jap b zO];first
          |exact jbI zS
          |(rw [hv];first
            |exact jcD
            |(rw [jct zS hbt];exact E22)
            |(rw [jbJ zS hbt];exact E22)),exU rfl,rfl⟩)
       ·refine Z3 ?_
        refine jaM rfl rfl (fun hc=>?_) (fun hc=>?_);refine Z2 ?_;refine D66 ?_
        rotate_left
        refine Z2 ?_;refine D48 ?_
        all_goals
         refine D10 ?_;refine D149 ?_
         exact m.weak jaa (hnext _ _ _ zO ⟨i+1,_,_,rfl,by omega,by
          rw [jbK,hbd,jap b zO];first
           |exact jbI zS
           |(rw [hv];first
             |exact jcD
             |(rw [jct zS hbt];exact E22)
             |(rw [jbJ zS hbt];exact E22)),exU rfl,rfl⟩)
    ·refine jaq rfl zq (fun hc=>?_) (fun hc=>?_)
     ·refine Z7 ?_;refine D189 ?_;refine rr4 ?_;refine Z2 ?_;refine jm9 rfl zq ?_;refine D0 ?_;refine rs11 ?_;refine Z2 ?_
      refine jaJ rfl zq (fun hc=>?_) (fun hc=>?_)
      ·refine Z7 ?_;refine D189 ?_;refine rr4 ?_;refine Z2 ?_;refine jjP rfl zq ?_;refine D0 ?_;refine D126 ?_
       exact m.weak jaa (hnext _ _ _ zO ⟨i+1,_,_,rfl,by omega,by
        rw [jbK,hbd,jap b zO];first
         |exact jbI zS
         |(rw [hv];first
           |exact jcD
           |(rw [jct zS hbt];exact E22)
           |(rw [jbJ zS hbt];exact E22)),exU rfl,rfl⟩)
      ·refine Z3 ?_
       refine jaM rfl rfl (fun hc=>?_) (fun hc=>?_);refine Z2 ?_;refine D66 ?_;refine D10 ?_;refine D121 ?_;refine rr4 ?_;refine Z2 ?_;refine jjP rfl zq ?_;refine D0 ?_
       rotate_left
       refine Z2 ?_;refine D48 ?_;refine D10 ?_;refine D119 ?_
       all_goals
        refine D126 ?_
        exact m.weak jaa (hnext _ _ _ zO ⟨i+1,_,_,rfl,by omega,by
         rw [jbK,hbd,jap b zO];first
          |exact jbI zS
          |(rw [hv];first
            |exact jcD
            |(rw [jct zS hbt];exact E22)
            |(rw [jbJ zS hbt];exact E22)),exU rfl,rfl⟩)
     ·refine Z3 ?_
      refine jaM rfl rfl (fun hc=>?_) (fun hc=>?_);refine Z2 ?_;refine D66 ?_;refine D10 ?_;refine D121 ?_;refine rr4 ?_;refine Z2 ?_;refine jm9 rfl zq ?_;refine D0 ?_
      rotate_left
      refine Z2 ?_;refine D48 ?_;refine D10 ?_;refine D119 ?_
      all_goals
       refine rs11 ?_;refine Z2 ?_;refine jaJ rfl zq (fun hc=>?_) (fun hc=>?_)
       ·refine Z7 ?_;refine D189 ?_;refine rr4 ?_;refine Z2 ?_;refine jjP rfl zq ?_;refine D0 ?_;refine D126 ?_
        exact m.weak jaa (hnext _ _ _ zO ⟨i+1,_,_,rfl,by omega,by
         rw [jbK,hbd,jap b zO];first
          |exact jbI zS
          |(rw [hv];first
            |exact jcD
            |(rw [jct zS hbt];exact E22)
            |(rw [jbJ zS hbt];exact E22)),exU rfl,rfl⟩)
       ·refine Z3 ?_
        refine jaM rfl rfl (fun hc=>?_) (fun hc=>?_);refine Z2 ?_;refine D66 ?_;refine D10 ?_;refine D121 ?_;refine rr4 ?_;refine Z2 ?_;refine jjP rfl zq ?_;refine D0 ?_
        rotate_left
        refine Z2 ?_;refine D48 ?_;refine D10 ?_;refine D119 ?_
        all_goals
         refine D126 ?_
         exact m.weak jaa (hnext _ _ _ zO ⟨i+1,_,_,rfl,by omega,by
          rw [jbK,hbd,jap b zO];first
           |exact jbI zS
           |(rw [hv];first
             |exact jcD
             |(rw [jct zS hbt];exact E22)
             |(rw [jbJ zS hbt];exact E22)),exU rfl,rfl⟩)
 ·refine D137 ?_;refine D181 ?_;refine D117 ?_;refine jac (h) rfl Tryz.func146 rfl jaa ?_;refine D5 ?_
  obtain rfl:i=(jad b).length:=by omega
  exact ⟨rfl,by rw [bdA,jaD,hbd]⟩
theorem f91_c (m:Md Tryz.prog B) (h:Hp) {b:Tb} {q:Nat} {tv:List Value} (sh:Sheet B h b q tv) {x:Bo} (hx:x.length=(jad b).length) (st p:Int):FnC m 91 #[.pointer (some ⟨q,0,none⟩),boV x,.int .i64 st,.int .i64 p] h fun v h'=>h'=h∧v= .tuple [.int .i64 (bdA (cdT b) x false st p).1,.int .i64 (bdA (cdT b) x false st p).2].toArray:=by
 refine jae Tryz.func91 rfl rfl (l:=(.pointer (some ⟨q,0,none⟩))::(boV x)::(.int .i64 st)::(.int .i64 p)::uu13) rfl ?_
 intro cf cs K hK
 refine rs3 ?_;refine jaP rfl zq (fun q5=>k_hp (jab ?_));refine Zs ?_;refine D0 ?_;refine rs9 ?_;refine Zs ?_;refine jcB (vs:=boL x) rfl zq (jav x) (jiK (Has.mem (b:=q5)) (seg_all (jav x)).eq) ?_;refine Z2 ?_;refine jak (Post:=fun v=>v=_) rfl zq zK (fun H' hH=>f146_c m H' (sh.keeps (sq hH)) hx false st p) ?_
 rintro v rfl;refine D7 ?_;refine Z3 ?_;refine D117 ?_;refine jac (h) rfl Tryz.func91 rfl jaa ?_;refine D5 ?_
 exact ⟨rfl,rfl⟩
theorem f93_c (m:Md Tryz.prog B) (h:Hp) {b:Tb} {q:Nat} {tv:List Value} (sh:Sheet B h b q tv) {x:Bo} (hx:x.length=(jad b).length) (st p:Int):FnC m 93 #[.pointer (some ⟨q,0,none⟩),boV x,.int .i64 st,.int .i64 p] h fun v h'=>h'=h∧v= .tuple [.int .i64 (bdA (cdT b) x true st p).1,.int .i64 (bdA (cdT b) x true st p).2].toArray:=by
 refine jae Tryz.func93 rfl rfl (l:=(.pointer (some ⟨q,0,none⟩))::(boV x)::(.int .i64 st)::(.int .i64 p)::uu13) rfl ?_
 intro cf cs K hK
 refine rs3 ?_;refine jaP rfl zq (fun q5=>k_hp (jab ?_));refine Zs ?_;refine D0 ?_;refine rs9 ?_;refine Zs ?_;refine jcB (vs:=boL x) rfl zq (jav x) (jiK (Has.mem (b:=q5)) (seg_all (jav x)).eq) ?_;refine Z2 ?_;refine jak (Post:=fun v=>v=_) rfl zq zK (fun H' hH=>f146_c m H' (sh.keeps (sq hH)) hx true st p) ?_
 rintro v rfl;refine D7 ?_;refine Z3 ?_;refine D117 ?_;refine jac (h) rfl Tryz.func93 rfl jaa ?_;refine D5 ?_
 exact ⟨rfl,rfl⟩
theorem f90_c (m:Md Tryz.prog B) (h:Hp) {L:List Bo} {p:Option Addr} {n c:Nat} (rd:RdS B h 13 (.slice p n c) n (encs L)) (hc0:n≤c) (hn:0<n∧n≤100000) {qv:Option Addr} {fid:Nat} {gc gp:Array Value} {f:Bo→Int×Int} {st x:Int} (hcall:jbg Tryz.prog fid=true) (hf: ∀i,i<n→ ∀H':Hp,h.Sublist H'→FnC m fid (gc++[boV (L.getD i []),.int .i64 st,.int .i64 x].toArray++gp) H' fun v h'=>h'=H'∧v= .tuple [.int .i64 (f (L.getD i [])).1,.int .i64 (f (L.getD i [])).2].toArray) (h1:(f (L.getD 0 [])).1≤959) (h2:0≤(f (L.getD 0 [])).2):FnC m 90 #[.agg [.pointer qv,.slice p n c].toArray,.func (.func fid) gc gp,.int .i64 st,.int .i64 x] h fun v h'=>h'=h∧v= .agg [.int .i64 (spB f L).1,.int .i64 (spB f L).2].toArray:=by
 refine jae Tryz.func90 rfl rfl (l:=(.agg [.pointer qv,.slice p n c].toArray)::(.func (.func fid) gc gp)::(.int .i64 st)::(.int .i64 x)::uu51) rfl ?_
 intro cf cs K hK
 refine rs2 ?_;refine jaP rfl zq (fun q4=>k_hp (jab ?_));refine jat rfl zq (fun q8=>k_hp (jab ?_));refine D120 ?_
 obtain ⟨rb,ro,hrp⟩:=rd.ptr zO
 have rd':=rd
 rw [hrp] at rd'
 have hll:=rd.elen zA
 have rdc:=rd.cut (lo:=1) zO hc0
 rw [←jgJ] at rdc
 refine rr13 ?_;refine Z3 ?_;refine D108 ?_;refine jcB (vs:=boL (L.getD 0 [])) rfl zq (jav _) (rd'.eat 0 zO zO) ?_;refine Z2 ?_;refine jeC (Post:=fun v=>v=_) rfl zq hcall (fun H' hH=>hf 0 zO H' (sq hH)) ?_;rintro v rfl;refine D186 ?_;refine D0 ?_;refine rs5 ?_;refine Z2 ?_;refine D52 ?_
 refine jat rfl zq (fun q11=>k_hp (jab ?_));refine D20 ?_;refine D120 ?_;refine rs5 ?_;refine Z2 ?_;refine jfO (a:=1) rfl zq rfl zO ?_;refine D124 ?_;refine D15 ?_
 refine jam (fun nn l h'=> ∃(k:Nat),nn=n-k∧(k+1≤n)∧(∃U:Nat→Value,l=((.agg [.pointer qv,.slice p n c].toArray)::(.func (.func fid) gc gp)::(.int .i64 st)::(.int .i64 x)::(.pointer (some ⟨q4,0,none⟩))::(U 5)::(U 6)::(U 7)::(.pointer (some ⟨q8,0,none⟩))::(U 9)::(U 10)::(.pointer (some ⟨q11,0,none⟩))::vw18 U 12 ((.slice (cutP 13 p c 1) (n-1) (c-1))::(.int .i64 ((n-1:Nat):Int))::(.int .i64 (k:Int))::vw22 U 33 [])))∧h++[⟨true,q4,.cells [.pointer qv,.slice p n c].toArray 112 (0,0)⟩,⟨true,q8,.cells [.int .i64 0,.int .i64 0].toArray 29 (0,0)⟩,⟨true,q11,.cells [.int .i64 (spBK f L (k+1)).1,.int .i64 (spBK f L (k+1)).2].toArray 29 (0,0)⟩]=h') _ ⟨0,rfl,by omega,exU rfl,(by rw [spBK_one zO h1 h2])⟩ ?_;rintro nn l h' ⟨k,rfl,hk,⟨U,rfl⟩,rfl⟩ hnext;refine rs1 ?_;refine jaq rfl zq (fun hc=>?_) (fun hc=>?_)
 ·refine D156 ?_
  obtain ⟨cb,co,hcp⟩:=rdc.ptr zO
  have rdc':=rdc
  rw [hcp] at rdc'
  have hge:(L.drop 1).getD k default=L.getD (k+1) []:=by rw [List.getD_eq_getElem?_getD,List.getElem?_drop,Nat.add_comm 1 k,List.getD_eq_getElem?_getD];rfl
  refine rr4 ?_;refine jdU rfl zq hcp zO zO ?_;refine jcB (vs:=boL (L.getD (k+1) [])) rfl zq (jav _) (hge▸rdc'.eat k zO zO) ?_;refine jat rfl zq (fun q13=>k_hp (jab ?_));refine jiR rfl zq (jav _) ?_;refine D1 ?_;refine rs10 ?_;refine Zs ?_;refine jcB (vs:=boL (L.getD (k+1) [])) rfl zq (jav _) (jiK (Has.mem (b:=q13)) (seg_all (jav _)).eq) ?_;refine Z2 ?_;refine jeC (Post:=fun v=>v=_) rfl zq hcall (fun H' hH=>hf (k+1) zO H' (sq hH)) ?_;rintro v rfl;refine D186 ?_;refine D0 ?_;refine rr10 ?_;refine Z3 ?_;refine jjP rfl zq ?_;refine Z3 ?_;refine jm9 rfl zq ?_;refine D52 ?_;refine D160 ?_;refine D126 ?_
  exact m.weak jaa (hnext _ _ _ zO ⟨k+1,rfl,by omega,exU rfl,(by rw [jip f L (k+1) zO])⟩)
 ·refine D137 ?_;refine D127 ?_;refine D160 ?_;refine D4 ?_;refine jac (h) rfl Tryz.func90 rfl jaa ?_;refine D5 ?_
  obtain rfl:n=k+1:=by omega
  rw [show k+1=L.length by omega,spBK_all];exact ⟨rfl,rfl⟩
theorem callB91:jbg Tryz.prog 91=true:=by kernel_rfl
theorem callB145:jbg Tryz.prog 145=true:=by kernel_rfl
theorem f21_c (m:Md Tryz.prog B) (h:Hp) {b:Tb} {ps:Option Addr} {ns ks:Nat} {pw:Option Addr} {nw cw:Nat} {pb:Option Addr} {nb cb:Nat} (ra:RawTb B h b ps ns ks pw nw cw pb nb cb) (st x:Int):FnC m 21 #[tbV b ps ns ks pw nw cw pb nb cb,.int .i64 st,.int .i64 x] h fun v h'=>h'=h∧v= .tuple [.agg [.int .i64 (jdY b false st x).1,.int .i64 (jdY b false st x).2].toArray,.int .i64 (jaL b (ownP b st x))].toArray:=by
 have hsl:b.sts.length=ns:=ra.s.elen zA
 have hns:=ra.sn
 refine jae Tryz.func21 rfl rfl (l:=(tbV b ps ns ks pw nw cw pb nb cb)::(.int .i64 st)::(.int .i64 x)::uu26) rfl ?_
 intro cf cs K hK
 refine rs3 ?_;refine jaP rfl zq (fun q3=>k_hp (jab ?_));refine jat rfl zq (fun q6=>k_hp (jab ?_));refine D122 ?_;refine jbY [0,1,2,3,4,5,6,7,8,9,10] zK zK (List.Sublist.refl _) ?_
 refine DrawT.split 3 8 zA (DrawT.split 4 8 zA ?_ ?_) ?_
 refine D78 ?_;refine Z3 ?_;refine D16 ?_
 rintro v nz ⟨qs,qa,rfl,rfl⟩;refine jaH (jab ?_);refine D13 ?_
 rintro v n8 ⟨qp,p8,m8,c8,rfl,hz⟩;refine jaH (jab ?_);refine Z3 ?_
 refine jat rfl zq (fun q8=>k_hp (jab ?_));rotate_left
 refine D79 ?_;refine Z3 ?_;refine D16 ?_
 rintro v nz ⟨qs,qa,rfl,rfl⟩;refine jaH (jab ?_);refine jat rfl zq (fun q8=>k_hp (jab ?_));refine D13 ?_
 rintro v n8 ⟨qp,p8,m8,c8,rfl,hz⟩;refine jaH (jab ?_);refine Z3 ?_
 rotate_left
 refine D80 ?_;refine Z3 ?_
 refine jat rfl zq (fun q8=>k_hp (jab ?_));refine D16 ?_
 rintro v nz ⟨qs,qa,rfl,rfl⟩;refine jaH (jab ?_);refine D13 ?_
 rintro v n8 ⟨qp,p8,m8,c8,rfl,hz⟩;refine jaH (jab ?_);refine Z3 ?_
 all_goals
  refine D20 ?_;refine D178 ?_
  refine jaY rfl zq (fun hc=>?_) (fun hc=>?_)
  ·refine D121 ?_;refine rs4 ?_;refine D52 ?_;refine Zs ?_;refine D158 ?_;refine jac (h) rfl Tryz.func21 rfl jaa ?_;refine D5 ?_
   exact ⟨rfl,by rw [jdY,if_neg zS]⟩
  ·refine D140 ?_
   have hz0:jaL b (ownP b st x)=0:=by first|assumption|omega
   obtain ⟨q9,rfl,sh,rfl,hc8,rdB⟩:=hz hz0
   obtain ⟨hzb,hzo,hzn⟩:=jcH hz0
   have hk:=jbd.1 hzb
   have hbl:=jbG hk
   have hpos:0<(jaf b).length:=List.length_pos_iff.2 hzn
   have hxm: ∀i,i<(jaf b).length→(jaf b).getD i []∈jaf b:=fun i hi=>by rw [List.getD_eq_getElem?_getD,List.getElem?_eq_getElem hi];exact List.getElem_mem _
   have hin0:=bdA_in hk (hxm 0 hpos) false st x
   refine rr9 ?_;refine Z3 ?_;refine jfF rfl zq ?_;refine Z2 ?_;refine jak (Post:=fun v=>v= .agg [.int .i64 (jma b false st x).1,.int .i64 (jma b false st x).2].toArray) rfl zq zK (fun H' hH=>f90_c m H' (rdB.keeps (sq hH)) hc8 ⟨hpos,by omega⟩ (f:=fun y=>bdA (cdT b) y false st x) callB91 (fun i hi K hK=>by simpa using f91_c m K (sh.keeps (SubH.sub.trans (hH.trans hK))) (jch (hxm i hi)) st x) hin0.1.2 hin0.2.1) ?_;rintro v rfl;refine D7 ?_;refine D158 ?_;refine jac (h) rfl Tryz.func21 rfl jaa ?_;refine D5 ?_
   exact ⟨rfl,by rw [jdY,if_pos hz0,hz0]⟩
theorem callB93:jbg Tryz.prog 93=true:=by kernel_rfl
theorem f23_c (m:Md Tryz.prog B) (h:Hp) {b:Tb} {ps:Option Addr} {ns ks:Nat} {pw:Option Addr} {nw cw:Nat} {pb:Option Addr} {nb cb:Nat} (ra:RawTb B h b ps ns ks pw nw cw pb nb cb) (st x:Int):FnC m 23 #[tbV b ps ns ks pw nw cw pb nb cb,.int .i64 st,.int .i64 x] h fun v h'=>h'=h∧v= .tuple [.agg [.int .i64 (jdY b true st x).1,.int .i64 (jdY b true st x).2].toArray,.int .i64 (jaL b (ownP b st x))].toArray:=by
 have hsl:b.sts.length=ns:=ra.s.elen zA
 have hns:=ra.sn
 refine jae Tryz.func23 rfl rfl (l:=(tbV b ps ns ks pw nw cw pb nb cb)::(.int .i64 st)::(.int .i64 x)::uu26) rfl ?_
 intro cf cs K hK
 refine rs3 ?_;refine jaP rfl zq (fun q3=>k_hp (jab ?_));refine jat rfl zq (fun q6=>k_hp (jab ?_));refine D122 ?_;refine jbY [0,1,2,3,4,5,6,7,8,9,10] zK zK (List.Sublist.refl _) ?_
 refine DrawT.split 3 8 zA (DrawT.split 4 8 zA ?_ ?_) ?_
 refine D78 ?_;refine Z3 ?_;refine D16 ?_
 rintro v nz ⟨qs,qa,rfl,rfl⟩;refine jaH (jab ?_);refine D13 ?_
 rintro v n8 ⟨qp,p8,m8,c8,rfl,hz⟩;refine jaH (jab ?_);refine Z3 ?_
 refine jat rfl zq (fun q8=>k_hp (jab ?_));rotate_left
 refine D79 ?_;refine Z3 ?_;refine D16 ?_
 rintro v nz ⟨qs,qa,rfl,rfl⟩;refine jaH (jab ?_);refine jat rfl zq (fun q8=>k_hp (jab ?_));refine D13 ?_
 rintro v n8 ⟨qp,p8,m8,c8,rfl,hz⟩;refine jaH (jab ?_);refine Z3 ?_
 rotate_left
 refine D80 ?_;refine Z3 ?_
 refine jat rfl zq (fun q8=>k_hp (jab ?_));refine D16 ?_
 rintro v nz ⟨qs,qa,rfl,rfl⟩;refine jaH (jab ?_);refine D13 ?_
 rintro v n8 ⟨qp,p8,m8,c8,rfl,hz⟩;refine jaH (jab ?_);refine Z3 ?_
 all_goals
  refine D20 ?_;refine D178 ?_
  refine jaY rfl zq (fun hc=>?_) (fun hc=>?_)
  ·refine D121 ?_;refine rs4 ?_;refine D52 ?_;refine Zs ?_;refine D158 ?_;refine jac (h) rfl Tryz.func23 rfl jaa ?_;refine D5 ?_
   exact ⟨rfl,by rw [jdY,if_neg zS]⟩
  ·refine D140 ?_
   have hz0:jaL b (ownP b st x)=0:=by first|assumption|omega
   obtain ⟨q9,rfl,sh,rfl,hc8,rdB⟩:=hz hz0
   obtain ⟨hzb,hzo,hzn⟩:=jcH hz0
   have hk:=jbd.1 hzb
   have hbl:=jbG hk
   have hpos:0<(jaf b).length:=List.length_pos_iff.2 hzn
   have hxm: ∀i,i<(jaf b).length→(jaf b).getD i []∈jaf b:=fun i hi=>by rw [List.getD_eq_getElem?_getD,List.getElem?_eq_getElem hi];exact List.getElem_mem _
   have hin0:=bdA_in hk (hxm 0 hpos) true st x
   refine rr9 ?_;refine Z3 ?_;refine jfF rfl zq ?_;refine Z2 ?_;refine jak (Post:=fun v=>v= .agg [.int .i64 (jma b true st x).1,.int .i64 (jma b true st x).2].toArray) rfl zq zK (fun H' hH=>f90_c m H' (rdB.keeps (sq hH)) hc8 ⟨hpos,by omega⟩ (f:=fun y=>bdA (cdT b) y true st x) callB93 (fun i hi K hK=>by simpa using f93_c m K (sh.keeps (SubH.sub.trans (hH.trans hK))) (jch (hxm i hi)) st x) hin0.1.2 hin0.2.1) ?_;rintro v rfl;refine D7 ?_;refine D158 ?_;refine jac (h) rfl Tryz.func23 rfl jaa ?_;refine D5 ?_
   exact ⟨rfl,by rw [jdY,if_pos hz0,hz0]⟩
theorem jeA (L:List Bo) (i:Nat): ∀(l:List Bo) (s:Nat),s≤(l.foldl (fun s x=>match xA x i with|some v=>max s (cntV L i v)|none=>s) s)∧(∀x∈l,∀v,xA x i=some v→cntV L i v≤(l.foldl (fun s x=>match xA x i with|some v=>max s (cntV L i v)|none=>s) s))∧((l.foldl (fun s x=>match xA x i with|some v=>max s (cntV L i v)|none=>s) s)=s∨ ∃x∈l,∃v,xA x i=some v∧(l.foldl (fun s x=>match xA x i with|some v=>max s (cntV L i v)|none=>s) s)=cntV L i v)
 |[],s=>⟨Nat.le_refl _,by simp,.inl rfl⟩
 |x::l,s=>by
  rw [List.foldl_cons];cases hx:xA x i with
  |none=>
   obtain ⟨h1,h2,h3⟩:=jeA L i l s
   refine ⟨h1,fun y hy v hv=>?_,h3.imp id fun ⟨y,hy,h⟩=>⟨y,List.mem_cons_of_mem _ hy,h⟩⟩
   rcases List.mem_cons.1 hy with rfl|hy
   ·rw [hx] at hv
    cases hv
   ·exact h2 y hy v hv
  |some u=>
   obtain ⟨h1,h2,h3⟩:=jeA L i l (max s (cntV L i u))
   simp only
   refine ⟨by omega,fun y hy v hv=>?_,?_⟩
   ·rcases List.mem_cons.1 hy with rfl|hy
    ·rw [hx] at hv
     cases hv
     omega
    ·exact h2 y hy v hv
   ·rcases h3 with h3|⟨y,hy,h⟩
    ·rcases (by omega:max s (cntV L i u)=s∨max s (cntV L i u)=cntV L i u) with e|e
     ·exact .inl (h3.trans e)
     ·exact .inr ⟨x,by simp,u,hx,h3.trans e⟩
    ·exact .inr ⟨y,List.mem_cons_of_mem _ hy,h⟩
theorem leftA_ge {L:List Bo} {i:Nat} {x:Bo} {v:Int} (hx:x∈L) (hv:xA x i=some v):cntV L i v≤jco L i:=(jeA L i L 0).2.1 x hx v hv
theorem jez (L:List Bo) (i:Nat):jco L i=0∨ ∃x∈L,∃v,xA x i=some v∧jco L i=cntV L i v:=(jeA L i L 0).2.2
theorem jds (L:List Bo) (i:Nat) (v:Int):cntV L i v≤jco L i:=by
 by_cases h: ∃x∈L,xA x i=some v
 ·obtain ⟨x,hx,hv⟩:=h
  exact leftA_ge hx hv
 ·have:cntV L i v=0:=by
   rw [cntV,List.countP_eq_zero];intro x hx hh
   exact h ⟨x,hx,of_decide_eq_true hh⟩
  omega
theorem jeP (L:List Bo) (i:Nat) (x:Bo) (v:Int):cntV (L++[x]) i v=cntV L i v+if xA x i=some v then 1 else 0:=by
 rw [cntV,List.countP_append,List.countP_singleton];simp [cntV]
theorem jgn {L:List Bo} {i:Nat} {x:Bo} (h:xA x i=none):jco (L++[x]) i=jco L i:=by
 have e: ∀v,cntV (L++[x]) i v=cntV L i v:=fun v=>by rw [jeP,h];simp
 refine Nat.le_antisymm ?_ ?_
 ·rcases jez (L++[x]) i with h1|⟨y,_,v,_,h1⟩
  ·omega
  ·rw [h1,e];exact jds L i v
 ·rcases jez L i with h1|⟨y,_,v,_,h1⟩
  ·omega
  ·rw [h1,←e];exact jds _ i v
theorem jgm {L:List Bo} {i:Nat} {x:Bo} {u:Int} (h:xA x i=some u):jco (L++[x]) i=max (jco L i) (cntV L i u+1):=by
 have e: ∀v,cntV (L++[x]) i v=cntV L i v+if u=v then 1 else 0:=fun v=>by rw [jeP,h];simp
 refine Nat.le_antisymm ?_ ?_
 ·rcases jez (L++[x]) i with h1|⟨y,_,v,_,h1⟩
  ·omega
  ·rw [h1,e];have:=jds L i v
   split
   ·rename_i e2
    subst e2
    omega
   ·omega
 ·have h1:=jds (L++[x]) i u
  rw [e,if_pos rfl] at h1
  have h2:jco L i≤jco (L++[x]) i:=by
   rcases jez L i with h1|⟨y,_,v,_,h1⟩
   ·omega
   ·have:=jds (L++[x]) i v
    rw [e] at this
    omega
  omega
theorem jla {L:List Bo} {j:Nat} (h:j<L.length):L.take (j+1)=L.take j++[L.getD j []]:=by
 rw [List.take_add_one,List.getElem?_eq_getElem h,List.getD_eq_getElem?_getD,List.getElem?_eq_getElem h];rfl
theorem leftA_le (L:List Bo) (i:Nat):jco L i≤L.length:=by
 rcases jez L i with h|⟨x,_,v,_,h⟩
 ·omega
 ·rw [h];exact List.countP_le_length
theorem jn0 (L:List Bo): ∀k,(askK L k).2≤L.length
 |0=>Nat.le_refl _
 |k+1=>by
  have:=jn0 L k
  rw [jeS,jfk];split
  ·simp only
   omega
  ·exact this
def cOfA (b:Tb) (o:Option Nat):Ce:=match o with|some j=>(jad b).getD j default|none=>default
def askR (b:Tb):Option Nat×Nat:=if jaL b 0=0 then askK (jaf b) (jad b).length else (none,0)
theorem callB108:jbg Tryz.prog 108=true:=by kernel_rfl
instance {c:Ce}:At (ceL c) 0 (.bool c.butt):=⟨rfl⟩
theorem f50_c (m:Md Tryz.prog B) (h:Hp) {b:Tb} {ps:Option Addr} {ns ks:Nat} {pw:Option Addr} {nw cw:Nat} {pb:Option Addr} {nb cb:Nat} (ra:RawTb B h b ps ns ks pw nw cw pb nb cb):FnC m 50 #[tbV b ps ns ks pw nw cw pb nb cb] h fun v h'=>h'=h∧v= .tuple [ceV (cOfA b (askR b).1),.int .i64 ((askR b).2:Int),.bool (askR b).1.isSome,.int .i64 (jaL b 0)].toArray:=by
 refine jae Tryz.func50 rfl rfl (l:=(tbV b ps ns ks pw nw cw pb nb cb)::uu77) rfl ?_
 intro cf cs K hK
 refine rs5 ?_;refine jaP rfl zq (fun q1=>k_hp (jab ?_));refine jat rfl zq (fun q2=>k_hp (jab ?_));refine D152 ?_;refine rs8 ?_;refine Zs ?_;refine jaV rfl zq zK (Post:=fun v nz=>jfl B b (tbL b ps ns ks pw nw cw pb nb cb) (jaL b 0) nz v) (fun H' hH=>f88_c m H' (ra.keeps (sq hH)) callB108 (fun hk K q hKs hs=>by simpa using f108_c m K _)) ?_
 rintro v n8 ⟨qp,p8,m8,c8,rfl,hz⟩;refine jaH (jab ?_);refine Z3 ?_
 refine jat rfl zq (fun q6=>k_hp (jab ?_));refine D20 ?_;refine D178 ?_
 refine jaY rfl zq (fun hc=>?_) (fun hc=>?_)
 ·refine D121 ?_;refine rs6 ?_;refine D52 ?_;refine Zs ?_;refine D20 ?_;refine Z2 ?_;refine D117 ?_;refine jac (h) rfl Tryz.func50 rfl jaa ?_;refine D5 ?_
  exact ⟨rfl,by rw [askR,if_neg zS];rfl⟩
 ·refine D140 ?_
  have hz0:jaL b 0=0:=by first|assumption|omega
  obtain ⟨q9,rfl,sh,rfl,hc8,rdB⟩:=hz hz0
  obtain ⟨hzb,hzo,hzn⟩:=jcH hz0
  have hk:=jbd.1 hzb
  have hbl:=jbG hk
  have h12:=jbn hk
  obtain ⟨pc,cc,hcv,hcc,hcr⟩:=sh.cells
  refine rr4 ?_;refine Z3 ?_;refine D122 ?_;refine rs7 ?_;refine Z2 ?_;refine jai rfl zq ?_;refine Zs ?_;refine D73 ?_;refine D124 ?_;refine D15 ?_
  refine jam (fun nn l h'=> ∃(i:Nat) (fd:Bool),nn=(jad b).length-i∧(i≤(jad b).length)∧(fd=(askK (jaf b) i).1.isSome)∧(∃U:Nat→Value,l=((tbV b ps ns ks pw nw cw pb nb cb)::(U 1)::(.pointer (some ⟨q2,0,none⟩))::(.int .i64 ((askK (jaf b) i).2:Int))::(.bool fd)::(U 5)::(.pointer (some ⟨q6,0,none⟩))::vw22 U 7 ((.slice pc (jad b).length cc)::(.int .i64 ((jad b).length:Int))::(.int .i64 (i:Int))::vw46 U 32 [])))∧h++[⟨true,q1,.cells (tbL b ps ns ks pw nw cw pb nb cb).toArray 25 (0,0)⟩,⟨true,q2,.cells (ceL (cOfA b (askK (jaf b) i).1)).toArray 37 (0,0)⟩]++n8++[⟨true,q6,.cells [.pointer (some ⟨q9,0,none⟩),.slice p8 (jaf b).length c8].toArray 112 (0,0)⟩]=h') _ ⟨0,false,rfl,by omega,rfl,exU rfl,rfl⟩ ?_;rintro nn l h' ⟨i,fd,rfl,hi,hfd,⟨U,rfl⟩,rfl⟩ hnext1;have hal:=jn0 (jaf b) i
  refine rs1 ?_;refine jaq rfl zq (fun hc=>?_) (fun hc=>?_)
  ·refine D156 ?_
   obtain ⟨pcb,pco,hpc⟩:=hcr.ptr zO
   have hcr':=hcr
   rw [hpc] at hcr'
   refine rr6 ?_;refine Zs ?_;refine D95 ?_;refine jcB (vs:=ceL ((jad b).getD i default)) rfl zq rfl (hcr'.eat i zO zO) ?_;refine jat rfl zq (fun q8=>k_hp (jab ?_));refine Zs ?_;refine D160 ?_;refine rs2 ?_
   refine k_mkmapI rfl zq (fun qm=>k_hp (jab ?_));refine D0 ?_;refine D139 ?_;refine rs4 ?_;refine Z4 ?_;refine D143 ?_
   refine jam (fun nn l h'=> ∃(j:Nat) (es:List (Int×Int)),nn=(jaf b).length-j∧(j≤(jaf b).length)∧(∀v,cntI es v=(cntV ((jaf b).take j) i v:Int))∧(∃U:Nat→Value,l=((tbV b ps ns ks pw nw cw pb nb cb)::(U 1)::(.pointer (some ⟨q2,0,none⟩))::(.int .i64 ((askK (jaf b) i).2:Int))::(.bool fd)::(U 5)::(.pointer (some ⟨q6,0,none⟩))::(.int .i64 (i:Int))::(.pointer (some ⟨q8,0,none⟩))::(.map (some qm))::(.int .i64 (jco ((jaf b).take j) i:Int))::vw18 U 11 ((.slice pc (jad b).length cc)::(.int .i64 ((jad b).length:Int))::(.int .i64 (i:Int))::vw6 U 32 ((.slice p8 (jaf b).length c8)::(.int .i64 ((jaf b).length:Int))::(.int .i64 (j:Int))::vw37 U 41 []))))∧h++[⟨true,q1,.cells (tbL b ps ns ks pw nw cw pb nb cb).toArray 25 (0,0)⟩,⟨true,q2,.cells (ceL (cOfA b (askK (jaf b) i).1)).toArray 37 (0,0)⟩]++n8++[⟨true,q6,.cells [.pointer (some ⟨q9,0,none⟩),.slice p8 (jaf b).length c8].toArray 112 (0,0)⟩,⟨true,q8,.cells (ceL ((jad b).getD i default)).toArray 37 (0,0)⟩,⟨true,qm,mapI es⟩]=h') _ ⟨0,[],rfl,by omega,fun v=>rfl,exU rfl,rfl⟩ ?_;rintro nn l h' ⟨j,es,rfl,hj,hes,⟨U,rfl⟩,rfl⟩ hnext2;have hlt:=leftA_le ((jaf b).take j) i
   have hlj:=List.length_take_le j (jaf b)
   refine rs1 ?_;refine jaq rfl zq (fun hc=>?_) (fun hc=>?_)
   ·refine D156 ?_
    obtain ⟨rb,ro,hrp⟩:=rdB.ptr zO
    have rdB':=rdB
    rw [hrp] at rdB'
    have hxm:(jaf b).getD j []∈jaf b:=by rw [List.getD_eq_getElem?_getD,List.getElem?_eq_getElem zO];exact List.getElem_mem _
    have hxl:=jch hxm
    have htk:=jla (L:=jaf b) (j:=j) zO
    refine rr4 ?_;refine D108 ?_;refine D87 ?_;obtain ⟨x,hx⟩: ∃x,x=(jaf b).getD j []:=⟨_,rfl⟩
    rw [←hx] at hxm hxl htk⊢
    have hxb:=jbR (x:=x) zO
    refine jat rfl zq (fun q12=>k_hp (jab ?_));refine jiR rfl zq (jav x) ?_;refine D1 ?_;refine rs5 ?_;refine Z3 ?_;refine jak (Post:=fun v=>IsB _ v) rfl zq zK (fun H' hH=>f98_b m H' (jbH x) i hxb zO) ?_;rintro v (⟨hc,rfl⟩|⟨hc,rfl⟩)
    ·refine D7 ?_;refine D63 ?_;refine D149 ?_
     have hxn:xA x i=none:=by
      have e:=hc
      rw [jfy zO] at e
      exact Option.isNone_iff_eq_none.1 e
     have hls:jco ((jaf b).take (j+1)) i=jco ((jaf b).take j) i:=by rw [htk];exact jgn hxn
     rw [←hls];exact m.weak jaa (hnext2 _ _ _ zO ⟨j+1,es,rfl,by omega,fun v=>by rw [hes v,htk,jeP,hxn];simp,exU rfl,rfl⟩)
    ·refine D7 ?_
     obtain ⟨u,hxv⟩: ∃u,xA x i=some u:=by
      cases e:xA x i with
      |none=>exact absurd (by rw [jfy zO,e];rfl) hc
      |some v=>exact ⟨v,rfl⟩
     refine D64 ?_;refine D121 ?_;refine rs8 ?_;refine Z4 ?_;refine k_ld rfl zq (bo_at i zO) ?_
     rw [hxv,Option.getD_some];refine jiT (k:=3) (e:=3) zK zK rfl zq ?_;refine k_add rfl zq (by
      have h1:=hes u
      have h2:cntV ((jaf b).take j) i u≤_:=List.countP_le_length
      unfold In64
      omega) ?_
     refine jna (k:=3) (e:=3) zK zK rfl zq ?_;refine D1 ?_;refine rr9 ?_;refine Z5 ?_;refine k_ld rfl zq (bo_at i zO) ?_;rw [hxv,Option.getD_some];refine jiT (k:=3) (e:=3) zK zK rfl zq ?_;refine jm9 rfl zq ?_;refine D0 ?_;refine D126 ?_;have hls:jco ((jaf b).take (j+1)) i=max (jco ((jaf b).take j) i) (cntV ((jaf b).take j) i u+1):=by rw [htk];exact jgm hxv
     rw [jjl,if_pos rfl,show max (jco ((jaf b).take j) i:Int) (cntI es u+1)=((jco ((jaf b).take (j+1)) i:Nat):Int) by rw [hls,hes];omega];exact m.weak jaa (hnext2 _ _ _ zO ⟨j+1,jg2 es u (cntI es u+1),rfl,by omega,fun v=>by
      rw [jjl,htk,jeP,hxv,hes,hes];by_cases e:v=u
      ·subst e
       simp
      ·rw [if_neg e,if_neg (by simp;exact fun a=>e a.symm)];simp,exU rfl,rfl⟩)
   ·refine D137 ?_;refine D3 ?_
    obtain rfl:j=(jaf b).length:=by omega
    rw [List.take_length] at hlt⊢
    refine rr7 ?_;refine Zs ?_;refine jaJ rfl zq (fun hc=>?_) (fun hc=>?_)
    ·refine Z3 ?_
     refine jaq rfl rfl (fun hc=>?_) (fun hc=>?_);refine D189 ?_;refine rr5 ?_;refine Z2 ?_;refine D20 ?_;refine Zs ?_;refine D0 ?_
     rotate_left
     refine D21 ?_;refine D119 ?_
     all_goals
      refine D126 ?_
     ·have hst:askK (jaf b) (i+1)=askK (jaf b) i:=by rw [jeS,jfk,if_neg zO]
      rw [←hst];exact E23
     ·have hst:askK (jaf b) (i+1)=(some i,jco (jaf b) i):=by rw [jeS,jfk,if_pos ⟨by omega,by omega⟩]
      rw [show (jco (jaf b) i:Int)=(((askK (jaf b) (i+1)).2:Nat):Int) by rw [hst],show (jad b).getD i default=cOfA b (askK (jaf b) (i+1)).1 by rw [hst];rfl];exact m.weak jaa (hnext1 _ _ _ zO ⟨i+1,true,rfl,by omega,by rw [hst];rfl,exU rfl,rfl⟩)
    ·refine Z4 ?_;refine D10 ?_;refine D149 ?_
     have hst:askK (jaf b) (i+1)=askK (jaf b) i:=by rw [jeS,jfk,if_neg zO]
     rw [←hst];exact E23
  ·refine D137 ?_;refine rs7 ?_;refine Z3 ?_;refine D20 ?_;refine Z2 ?_;refine D117 ?_;refine jac (h) rfl Tryz.func50 rfl jaa ?_;refine D5 ?_
   obtain rfl:i=(jad b).length:=by omega
   exact ⟨rfl,by rw [askR,if_pos hz0,hz0,hfd]⟩
section
variable {P:Program} {m:Md P B} {ops:Array Oper} {l l':List Value} {S h h' H:Hp} {C:List Value→Hp→Prop} {i:Nat} {kd:Kd} {r:List (Nat×Kd)} {d:Option Tmp} {ty:TypeId} {pos:String} {af:Array Edge} {g:Option (Nat×Bool)}
omit [LaidO B] in
theorem jlo {t e:TypeId} {dd:Nat} (ht:P.underlying t=some (.slice e)) (p:Option Addr) (n c:Nat):Reads P B (Op.equalIn (dd+1) t (.slice p n c) (.slice none 0 0)) h p.isNone:=by
 unfold Op.equalIn
 refine Reads.bind (jah ht).reads ?_
 cases p with
 |none=>exact Reads.pure _
 |some a=>exact Reads.pure _
omit [LaidO B] in
theorem jeE {t e u:TypeId} {x:Operand} {p:Option Addr} {n c:Nat} (ho:ops[i]?=some ⟨d,.binOp .eql t x (.const (.slice none 0 0)) u,ty,pos,af,g⟩) (hw:Wt ops l g) [KHeap kd S h H] [ex:OpV l x (.slice p n c)] (ht:P.underlying t=some (.slice e)) [PutV l d (.bool p.isNone) l'] (c:RegK m S ops r l' h C):RegK m S ops ((i,kd)::r) l h C:=
 RegK.rd (v:= .bool p.isNone) ho hw (by
  have ey:ev l (.const (.slice none 0 0))= .slice none 0 0:=rfl
  simp only [execOp,ex.eq,ey]
  refine Reads.value (Reads.bind (a:=()) ?_ ?_)
  ·exact Reads.pure _
  ·show Reads P B (Op.equal t (.slice p n _) (.slice none 0 0)>>=fun b=>pure (Value.bool b)) H _
   exact Reads.bind (jlo (dd:=9999) ht p n _) (Reads.pure _)) c
end
theorem jby {t k n:Nat} {v:Value} {cs:List Value} {new:Hp} (o:OwnS t k v n cs new) (h0:0<n): ∃q cap junk,v= .slice (some ⟨q,0,none⟩) n cap∧new=[⟨true,q,.cells (cs++junk).toArray t (0,0)⟩]∧cs.length=n*k∧cs.length+junk.length=cap*k∧n≤cap:=by
 cases o with
 |nil=>omega
 |blk hl hc hn=>exact ⟨_,_,_,rfl,by simp,hl,hc,hn⟩
theorem jkm {h:Hp} {k n c:Nat} {ys:List Value} (rd:RdS B h k (.slice none n c) n ys):ys=[]:=by
 obtain ⟨p',c',e,hl,hr⟩:=rd
 rcases hr with ⟨_,rfl⟩|⟨b,o,e2,_⟩
 ·exact List.length_eq_zero_iff.1 zO
 ·cases e
  cases e2
theorem jiL (t k q:Nat):OwnS t k (.slice (some ⟨q,0,none⟩) 0 0) 0 [] [⟨true,q,.cells ([]:List Value).toArray t (0,0)⟩]:=OwnS.blk (cs:=[]) (junk:=[]) zD zD (Nat.le_refl 0)
inductive OwnF:List Lp→Hp→Prop
 |nil:OwnF [] []
 |snoc {xs:List Lp} {M F:Hp} {x:Lp} (o:OwnF xs M) (f:OwnS 9 1 (.slice x.p x.ln.figs.length x.c) x.ln.figs.length (encs x.ln.figs) F):OwnF (xs++[x]) (M++F)
theorem OwnF.at {xs:List Lp} {M:Hp} (o:OwnF xs M) {k:Nat} (hk:k<xs.length): ∃M1 F M2,M=M1++F++M2∧OwnS 9 1 (.slice (xs.getD k default).p (xs.getD k default).ln.figs.length (xs.getD k default).c) (xs.getD k default).ln.figs.length (encs (xs.getD k default).ln.figs) F∧ ∀x' F',OwnS 9 1 (.slice x'.p x'.ln.figs.length x'.c) x'.ln.figs.length (encs x'.ln.figs) F'→OwnF (xs.set k x') (M1++F'++M2):=by
 induction o with
 |nil=>simp at hk
 | @snoc xs M F x o f ih=>
  rw [List.length_append,List.length_singleton] at hk
  by_cases e:k<xs.length
  ·obtain ⟨M1,F1,M2,rfl,h1,h2⟩:=ih e
   refine ⟨M1,F1,M2++F,by simp only [List.append_assoc],?_,fun x' F' hf=>?_⟩
   ·rw [show (xs++[x]).getD k default=xs.getD k default by rw [jeH,if_pos e]];exact h1
   ·rw [List.set_append_left _ _ e,←List.append_assoc];exact .snoc (h2 x' F' hf) f
  ·obtain rfl:k=xs.length:=by omega
   refine ⟨M,F,[],by rw [List.append_nil],?_,fun x' F' hf=>?_⟩
   ·rw [show (xs++[x]).getD xs.length default=x by rw [jeH,if_neg zO,if_pos rfl]];exact f
   ·rw [List.set_append_right _ _ (Nat.le_refl _),Nat.sub_self,List.set_cons_zero,List.append_nil];exact .snoc o hf
theorem OwnF.rd {B:Array Obj} {xs:List Lp} {M:Hp} (o:OwnF xs M): ∀x∈xs,x.ln.figs.length≤x.c∧RdS B M 1 (.slice x.p x.ln.figs.length x.c) x.ln.figs.length (encs x.ln.figs):=by
 induction o with
 |nil=>simp
 | @snoc xs M F x o f ih=>
  intro y hy
  rcases List.mem_append.1 hy with hy|hy
  ·exact ⟨(ih y hy).1,(ih y hy).2.keeps (List.sublist_append_left _ _)⟩
  ·obtain rfl:y=x:=by simpa using hy
   exact ⟨f.cap,f.rd (List.sublist_append_right _ _)⟩
def HalfO (v:Value) (n:Nat) (lns:List Ln) (M:Hp):Prop:= ∃(lps:List Lp) (lp:Option Addr) (lc:Nat) (W FM:Hp),v= .slice lp n lc∧lps.map (·.ln)=lns∧OwnS 121 2 (.slice lp n lc) n (encs lps) W∧OwnF lps FM∧M=W++FM
theorem HalfO.rd {B:Array Obj} {v:Value} {n:Nat} {lns:List Ln} {M:Hp} (o:HalfO v n lns M): ∃p c,v= .slice p n c∧RdLn B M (.slice p n c) n lns:=by
 obtain ⟨lps,lp,lc,W,FM,rfl,e,ow,of',rfl⟩:=o
 exact ⟨lp,lc,rfl,lps,e,ow.rd (List.sublist_append_left _ _),fun x hx=>⟨(of'.rd (B:=B) x hx).1,fun _=>(of'.rd x hx).2.keeps (List.sublist_append_right _ _)⟩⟩
theorem jgI {α:Type} {k:Nat} [Enc α k] [Inhabited α] (xs:List α) (i:Nat) (h:i<xs.length) (x:α):encs (xs.set i x)=(encs xs).take (i*k)++Enc.enc x++(encs xs).drop ((i+1)*k):=by
 have e:xs.set i x=xs.take i++[x]++xs.drop (i+1):=by rw [List.set_eq_take_append_cons_drop,if_pos h];simp
 rw [e,jay,jay,jjh,jgJ];simp [encs]
theorem jaU (xs:List Lp):(encs xs).length=xs.length*2:=jaC xs
theorem jmW (xs:List Lp) (i:Nat) (h:i<xs.length) (j:Nat) (hj:j<2):(encs xs)[i*2+j]?=(lpL (xs.getD i default))[j]?:=by
 have e:xs=xs.take i++[xs.getD i default]++xs.drop (i+1):=by
  rw [List.append_assoc,List.singleton_append];rw [List.getD_eq_getElem?_getD,List.getElem?_eq_getElem h];simp
 have e2:encs xs=encs (xs.take i)++lpL (xs.getD i default)++encs (xs.drop (i+1)):=by
  conv=>lhs;rw [e]
  rw [jay,jay];simp only [encs,List.append_nil]
  rfl
 have hl:(encs (xs.take i)).length=i*2:=by rw [jaU,List.length_take];congr 1;omega
 rw [e2,List.append_assoc,List.getElem?_append_right zO,hl,show i*2+j-i*2=j by omega,List.getElem?_append_left zN]
theorem jiu {xs:List Lp} {junk:List Value} {i:Nat} (h:i<xs.length) {x:Lp} (hln:x.ln=(xs.getD i default).ln):SetSeg (encs xs++junk) (0+(i:Int).toNat*2+1) [.slice x.p x.ln.figs.length x.c] (encs (xs.set i x)++junk):=by
 have hl:=jaU xs
 refine jcf zN ?_
 rw [Int.toNat_natCast,Nat.zero_add,List.set_append_left _ _ zO];congr 1
 refine List.ext_getElem? fun a=>?_
 rw [jgI xs i h,List.getElem?_set];have h1:=jmW xs i h 0 zO
 have hlt:((encs xs).take (i*2)).length=i*2:=by rw [List.length_take];omega
 by_cases e:i*2+1=a
 ·subst e
  rw [if_pos rfl,if_pos zO,List.append_assoc,List.getElem?_append_right zO,hlt,show i*2+1-i*2=1 by omega];rfl
 ·rw [if_neg e];by_cases e1:a<i*2
  ·rw [List.append_assoc,List.getElem?_append_left zO,List.getElem?_take,if_pos e1]
  ·by_cases e2:a=i*2
   ·subst e2
    rw [List.append_assoc,List.getElem?_append_right zO,hlt,Nat.sub_self,show i*2=i*2+0 by omega,h1];show some (Value.int .i64 x.ln.lat)=_
    rw [hln];rfl
   ·have hen:(Enc.enc x).length=2:=rfl
    rw [List.append_assoc,List.getElem?_append_right zO,hlt,List.getElem?_append_right (by rw [hen];omega),hen,List.getElem?_drop];congr 1
    omega
theorem jcc {xs:List Lp} {i:Nat} (h:i<xs.length) {x:Lp} (hx:lpL x=lpL (xs.getD i default)):encs (xs.set i x)=encs xs:=by
 rw [jgI xs i h];have e:=jgI xs i h (xs.getD i default)
 have hs:xs.set i (xs.getD i default)=xs:=by
  rw [List.getD_eq_getElem?_getD,List.getElem?_eq_getElem h];simp
 rw [hs] at e
 conv=>rhs;rw [e]
 show _++lpL x++_=_++lpL _++_
 rw [hx]
theorem f162_c (m:Md Tryz.prog B) (h:Hp) {p:Option Addr} {n c:Nat} {ss:List Str} (rd:RdS B h 1 (.slice p n c) n (encs ss)) (hn:n≤1000):FnC m 162 #[.slice p n c] h fun v h'=> ∃new,h'=h++new∧OwnS 9 1 v n (encs ss) new:=by
 refine jae Tryz.func162 rfl rfl (l:=(.slice p n c)::uu7) rfl ?_
 intro cf cs K hK
 refine D139 ?_;refine D127 ?_
 rcases (by cases p<;>simp:p=none∨ ∃pa,p=some pa) with rfl|⟨pa,rfl⟩
 ·refine jeE (e:=9) rfl zq zK ?_;refine D154 ?_;refine jac (h) rfl Tryz.func162 rfl jaa ?_;refine D5 ?_;have hys:=jkm rd
  have hn0:n=0:=by
   have h1:=rd.elen zA
   have h2:=congrArg List.length hys
   rw [jaC,h1] at h2
   simp at h2
   omega
  subst hn0
  rw [hys];exact ⟨[],by simp,OwnS.nil⟩
 ·refine jeE (e:=9) rfl zq zK ?_;refine D119 ?_;refine rs4 ?_;refine k_bs0 kdq rfl zq (fun q5=>k_hp (jab ?_));refine Zs ?_
  refine k_app (F:=h) rfl zq (Weak.refl B _) (jiL 9 1 q5) (rd.keeps SubH.sub) (jeN ss) (.inl rfl) zO zO (fun v' new' o'=>jab ?_);rw [Nat.zero_add,List.nil_append] at o'
  refine D117 ?_;refine jac (h++new') rfl Tryz.func162 rfl jaa ?_;refine D5 ?_
  exact ⟨new',rfl,o'⟩
theorem f163_c (m:Md Tryz.prog B) (h:Hp) {p:Option Addr} {n c:Nat} {ss:List Lp} (rd:RdS B h 2 (.slice p n c) n (encs ss)) (hn:n≤1000):FnC m 163 #[.slice p n c] h fun v h'=> ∃new,h'=h++new∧OwnS 121 2 v n (encs ss) new:=by
 refine jae Tryz.func163 rfl rfl (l:=(.slice p n c)::uu7) rfl ?_
 intro cf cs K hK
 refine D139 ?_;refine D127 ?_
 rcases (by cases p<;>simp:p=none∨ ∃pa,p=some pa) with rfl|⟨pa,rfl⟩
 ·refine jeE (e:=121) rfl zq zK ?_;refine D154 ?_;refine jac (h) rfl Tryz.func163 rfl jaa ?_;refine D5 ?_;have hys:=jkm rd
  have hn0:n=0:=by
   have h1:=rd.elen zA
   have h2:=congrArg List.length hys
   rw [jaC,h1] at h2
   simp at h2
   omega
  subst hn0
  rw [hys];exact ⟨[],by simp,OwnS.nil⟩
 ·refine jeE (e:=121) rfl zq zK ?_;refine D119 ?_;refine rs4 ?_;refine k_bs0 kdq rfl zq (fun q5=>k_hp (jab ?_));refine Zs ?_
  refine k_app (F:=h) rfl zq (Weak.refl B _) (jiL 121 2 q5) (rd.keeps SubH.sub) (jeN ss) (.inl rfl) zO zO (fun v' new' o'=>jab ?_);rw [Nat.zero_add,List.nil_append] at o'
  refine D117 ?_;refine jac (h++new') rfl Tryz.func163 rfl jaa ?_;refine D5 ?_
  exact ⟨new',rfl,o'⟩
theorem lp_rd {h:Hp} {q t:Nat} {rw:Bool} {fr:Nat×Nat} {xs:List Lp} {junk:List Value} [hh:Has h q rw (.cells (encs xs++junk).toArray t fr)] {j:Int} {i:Nat} (hj:j=i) (hi:i<xs.length):Rd B h ⟨q,0+j.toNat*2+1,none⟩ (.slice (xs.getD i default).p (xs.getD i default).ln.figs.length (xs.getD i default).c):=by
 subst hj
 refine Rd.held hh.mem ?_
 have:=jaU xs
 rw [List.getElem?_toArray,List.getElem?_append_left zO,show 0+(i:Int).toNat*2+1=i*2+1 by omega,jmW xs i hi 1 zO];rfl
theorem jfx {xs:List Lp} {i:Nat} {y:Lp} (hy:y.ln=(xs.getD i default).ln):(xs.set i y).map (·.ln)=xs.map (·.ln):=by
 refine List.ext_getElem zD fun a h1 h2=>?_
 simp only [List.getElem_map,List.getElem_set]
 split
 ·rename_i e
  subst e
  rw [hy,List.getD_eq_getElem?_getD,List.getElem?_eq_getElem (by simpa using h2)];rfl
 ·rfl
theorem jij {xs:List Lp} {i:Nat} (h:i<xs.length) (y:Lp):(xs.set i y).take (i+1)=xs.take i++[y]:=by
 rw [List.set_eq_take_append_cons_drop,if_pos h,List.take_append,List.length_take,show i+1-min i xs.length=1 by omega];simp [List.take_take]
theorem ji5 {xs:List Lp} {i j:Nat} (h:i≠j) (y:Lp):(xs.set i y).getD j default=xs.getD j default:=by
 rw [List.getD_eq_getElem?_getD,List.getElem?_set_ne h,List.getD_eq_getElem?_getD]
theorem jdI {ss:List Str} {junk:List Value} {j:Int} {i:Nat} (hj:j=i) (h:i<ss.length) (s:Str):SetSeg (encs ss++junk) (0+j.toNat*1) [str s] (encs (ss.set i s)++junk):=by
 subst hj
 have hl:(encs ss).length=ss.length:=by rw [jaC,Nat.mul_one]
 refine jcf zN ?_
 rw [Int.toNat_natCast,Nat.zero_add,Nat.mul_one,List.set_append_left _ _ zO,jbW,jbW,List.map_set]
theorem jkP {b:Tb} {c:Ce} {f:Str} {i:Nat} (hi:i<2) (h:c.butt=decide (i=1)):hL (setF b c f) i=updL (hL b i) c.line.toNat c.st.toNat f:=by
 rw [jhY _ hi,jhY _ hi,jha,if_pos h.symm]
theorem jnq {b:Tb} {c:Ce} {f:Str} {i:Nat} (hi:i<2) (h:c.butt≠decide (i=1)):hL (setF b c f) i=hL b i:=by
 rw [jhY _ hi,jhY _ hi,jha,if_neg (fun e=>h e.symm)]
theorem jlY {ls:List Ln} (h: ∀l∈ls,l.figs.length≤1000∧ ∀f∈l.figs,f.length≤100000) {i k:Nat} {f:Str} (hf:f.length≤100000): ∀l∈updL ls i k f,l.figs.length≤1000∧ ∀f∈l.figs,f.length≤100000:=by
 intro l hl
 rcases List.mem_or_eq_of_mem_set hl with hl|rfl
 ·exact h l hl
 ·have hd:(ls.getD i default).figs.length≤1000∧ ∀f∈(ls.getD i default).figs,f.length≤100000:=by
   by_cases hi:i<ls.length
   ·exact h _ (jan hi)
   ·rw [List.getD_eq_getElem?_getD,List.getElem?_eq_none zO];exact ⟨Nat.zero_le _,fun f hf=>by cases hf⟩
  refine ⟨by simpa using hd.1,fun g hg=>?_⟩
  rcases List.mem_or_eq_of_mem_set hg with hg|rfl
  ·exact hd.2 g hg
  ·exact hf
theorem setF_sm {b:Tb} (h:TbSm b) {c:Ce} {f:Str} (hf:f.length≤100000):TbSm (setF b c f):=by
 unfold setF
 split
 ·exact ⟨h.sts,h.wat,jlY h.but hf⟩
 ·exact ⟨h.sts,jlY h.wat hf,h.but⟩
theorem jfH {B:Array Obj} (A W M:Hp) (x:Chunk):Weak B (A++[x]++W++M) (A++(W++M)):=by
 rw [List.append_assoc (A++[x])];exact (Weak.sub ((List.sublist_append_left A [x]).append_right _))
theorem jfL {xs:List Lp} {ls:List Ln} (e:xs.map (·.ln)=ls) {i k:Nat} (h:i<xs.length) (f:Str) (p:Option Addr) (c:Nat):(xs.set i ⟨⟨(xs.getD i default).ln.lat,(xs.getD i default).ln.figs.set k f⟩,p,c⟩).map (·.ln)=updL ls i k f:=by
 subst e
 rw [updL,List.map_set];congr 1
 have:(xs.map (·.ln)).getD i default=(xs.getD i default).ln:=by
  rw [List.getD_eq_getElem?_getD,List.getElem?_map,List.getElem?_eq_getElem h,List.getD_eq_getElem?_getD,List.getElem?_eq_getElem h];rfl
 rw [this]
theorem f112_c (m:Md Tryz.prog B) (h:Hp) {b:Tb} {ps:Option Addr} {ns ks:Nat} {pw:Option Addr} {nw cw:Nat} {pb:Option Addr} {nb cb:Nat} (rd:RdTb B h b ps ns ks pw nw cw pb nb cb) {c:Ce} (hc0:hasT b c=true) (f:Str) (hf:f.length≤100000):FnC m 112 #[tbV b ps ns ks pw nw cw pb nb cb,cV c.butt c.line c.st,str f] h fun v h'=> ∃new ps' ks' pw' cw' pb' cb',h'=h++new∧v=tbV (setF b c f) ps' ns ks' pw' nw cw' pb' nb cb'∧RawTb B new (setF b c f) ps' ns ks' pw' nw cw' pb' nb cb':=by
 have hsl0:=rd.sl
 have hn1:=rd.n1
 have hn3:=rd.n3
 have hw2:=rd.w2
 have hb2:=rd.b2
 refine jae Tryz.func112 rfl rfl (l:=(tbV b ps ns ks pw nw cw pb nb cb)::(cV c.butt c.line c.st)::(str f)::uu64) rfl ?_
 intro cf cs K hK
 refine rs3 ?_;refine jaP rfl zq (fun q3=>k_hp (jab ?_));refine jaP rfl zq (fun q4=>k_hp (jab ?_));refine jat rfl zq (fun q6=>k_hp (jab ?_));refine D1 ?_;refine rs5 ?_;refine Z2 ?_;refine jaV rfl zq zK (Post:=fun v nz=>OwnS 9 1 v ns (encs b.sts) nz) (fun H' hH=>f162_c m H' (rd.s.keeps (sq hH)) zO) ?_
 rintro v n14 o14;refine jaH (jab ?_);obtain ⟨p14,c14,rfl,hc14,r14⟩:=jar (B:=B) o14
 refine D193 ?_;refine D120 ?_;refine rs2 ?_;refine jcB (vs:=halvesL) rfl zq rfl jeg ?_;refine D195 ?_
 refine jam (fun nn l h'=> ∃(i:Nat) (wp:Option Addr) (wc:Nat) (bp:Option Addr) (bc:Nat) (M0 M1:Hp),nn=2-i∧(i≤2)∧(i=0→pw=wp∧cw=wc∧M0=[])∧(i≤1→pb=bp∧cb=bc∧M1=[])∧(1≤i→HalfO (.slice wp nw wc) nw (hL (setF b c f) 0) M0)∧(2≤i→HalfO (.slice bp nb bc) nb (hL (setF b c f) 1) M1)∧(∃U:Nat→Value,l=((tbV b ps ns ks pw nw cw pb nb cb)::(cV c.butt c.line c.st)::(str f)::(.pointer (some ⟨q3,0,none⟩))::(.pointer (some ⟨q4,0,none⟩))::(U 5)::(.pointer (some ⟨q6,0,none⟩))::vw9 U 7 ((.agg halvesL.toArray)::(.int .i64 (i:Int))::vw49 U 18 [])))∧h++[⟨true,q3,.cells [.int .i64 b.wrong,.slice p14 ns c14,.slice wp nw wc,.slice bp nb bc].toArray 25 (0,0)⟩,⟨true,q4,.cells [.bool c.butt,.int .i64 c.line,.int .i64 c.st].toArray 37 (0,0)⟩,⟨true,q6,.cells [.int .i64 0,.slice none 0 0,.slice none 0 0,.slice none 0 0].toArray 25 (0,0)⟩]++n14++M0++M1=h') _ ⟨0,pw,cw,pb,cb,[],[],rfl,by omega,fun _=>⟨rfl,rfl,rfl⟩,fun _=>⟨rfl,rfl,rfl⟩,fun e=>by omega,fun e=>by omega,exU rfl,(by rw [List.append_nil,List.append_nil])⟩ ?_;rintro nn l h' ⟨i,wp,wc,bp,bc,M0,M1,rfl,hi,hz0,hz1,hz2,hz3,⟨U,rfl⟩,rfl⟩ hnext1;refine rs1 ?_;refine jaq rfl zq (fun hc=>?_) (fun hc=>?_)
 ·refine D156 ?_
  rcases (by omega:i=0∨i=1) with rfl|rfl
  obtain ⟨rfl,rfl,rfl⟩:=hz0 rfl
  obtain ⟨rfl,rfl,rfl⟩:=hz1 zO
  obtain ⟨lps0,hle,rl,hfig⟩:=rd.w
  have hll:=rl.elen zA
  replace hle:lps0.map (·.ln)=hL b 0:=hle
  have hwf: ∀l∈hL b 0,l.figs.length=ns∧ ∀f∈l.figs,jbm f=true:=rd.wf
  rw [List.append_nil,List.append_nil];refine rr3 ?_;refine jkJ rfl zq zO zO (jgv 0 zO) ?_;rotate_left
  obtain ⟨rfl,rfl,rfl⟩:=hz1 zO
  have hh0:=hz2 zO
  obtain ⟨lps0,hle,rl,hfig⟩:=rd.u
  have hll:=rl.elen zA
  replace hle:lps0.map (·.ln)=hL b 1:=hle
  have hwf: ∀l∈hL b 1,l.figs.length=ns∧ ∀f∈l.figs,jbm f=true:=rd.bf
  rw [List.append_nil];refine rr3 ?_;refine jkJ rfl zq zO zO (jgv 1 zO) ?_;all_goals
   refine jat rfl zq (fun q8=>k_hp (jab ?_));refine D160 ?_;refine rs4 ?_
  ·refine Z2 ?_;refine jeC (Post:=fun v=>v= .pointer (some ⟨q3,3,none⟩)) rfl zq (jgw 1 zO) (fun H' hH=>jnr m H' q3 1 zO) ?_
   rintro v rfl;refine D7 ?_;refine D0 ?_;refine rs7 ?_;refine Z2 ?_
   refine jai rfl zq ?_;refine Zs ?_;refine jaV rfl zq zK (Post:=fun v nz=>OwnS 121 2 v nb (encs lps0) nz) (fun H' hH=>f163_c m H' (rl.keeps (sq hH)) zO) ?_
   rintro v n27 o27;refine jaH (jab ?_);obtain ⟨p27,c27,rfl,hc27,r27⟩:=jar (B:=B) o27
   refine jai rfl zq ?_;refine D26 ?_;refine D120 ?_;refine rs5 ?_;refine Zs ?_
   refine jai rfl zq ?_;refine Z3 ?_;refine D143 ?_
   refine jam (fun nn l h'=> ∃(k:Nat) (lps:List Lp) (W FM:Hp),nn=nb-k∧(k≤nb)∧(lps.length=nb)∧(lps.map (·.ln)=hL b 1)∧(∀j,k≤j→lps.getD j default=lps0.getD j default)∧(OwnS 121 2 (.slice p27 nb c27) nb (encs lps) W)∧(OwnF (lps.take k) FM)∧(∃U:Nat→Value,l=((tbV b ps ns ks pw nw cw pb nb cb)::(cV c.butt c.line c.st)::(str f)::(.pointer (some ⟨q3,0,none⟩))::(.pointer (some ⟨q4,0,none⟩))::(U 5)::(.pointer (some ⟨q6,0,none⟩))::(U 7)::(.pointer (some ⟨q8,0,none⟩))::(.pointer (some ⟨q3,3,none⟩))::vw6 U 10 ((.agg halvesL.toArray)::(.int .i64 1)::vw13 U 18 ((.slice p27 nb c27)::(.int .i64 (nb:Int))::(.int .i64 (k:Int))::vw33 U 34 []))))∧h++[⟨true,q3,.cells [.int .i64 b.wrong,.slice p14 ns c14,.slice wp nw wc,.slice p27 nb c27].toArray 25 (0,0)⟩,⟨true,q4,.cells [.bool c.butt,.int .i64 c.line,.int .i64 c.st].toArray 37 (0,0)⟩,⟨true,q6,.cells [.int .i64 0,.slice none 0 0,.slice none 0 0,.slice none 0 0].toArray 25 (0,0)⟩]++n14++M0++[⟨true,q8,.cells [str (hwS 1),.bool (decide (1=1)),.func (.func (261+1)) #[] #[]].toArray 184 (0,0)⟩]++W++FM=h') _ ⟨0,lps0,n27,[],rfl,by omega,hll,hle,fun j _=>rfl,o27,by rw [List.take_zero];exact .nil,exU rfl,(by rw [List.append_nil])⟩ ?_;rintro nn l h' ⟨k,lps,W,FM,rfl,hk,hlen,hmap,hsame,how,hof,⟨U,rfl⟩,rfl⟩ hnext2;refine rs1 ?_;refine jaq rfl zq (fun hc=>?_) (fun hc=>?_)
   ·refine D156 ?_
    have rdW:=how.rd (B:=B) (List.Sublist.refl _)
    obtain ⟨bl,lc1,junk,hwv,rfl,hwl,hwc,hwn⟩:=jby how zO
    cases hwv
    have hxk:=hsame k (Nat.le_refl k)
    obtain ⟨x,hx⟩: ∃x,x=lps0.getD k default:=⟨_,rfl⟩
    rw [←hx] at hxk
    have hxm:x∈lps0:=hx▸jan zO
    obtain ⟨hxc,rdf0⟩:=hfig x hxm
    have hxf:x.ln.figs.length=ns:=(hwf x.ln (by rw [←hle];exact List.mem_map.2 ⟨x,hxm,rfl⟩)).1
    have rdf:=rdf0 (by have:=rd.n1;omega)
    refine rr6 ?_;refine Zs ?_;refine D47 ?_;refine jcB (vs:=lpL x) rfl zq rfl (hxk▸rdW.eat k zO zO) ?_;refine jat rfl zq (fun q11=>k_hp (jab ?_));refine Zs ?_;refine D160 ?_;refine D72 ?_;refine Zs ?_
    refine jai rfl zq ?_;refine Z4 ?_;refine D84 ?_
    rintro v n44 o44;refine jaH (jab ?_);obtain ⟨p44,c44,rfl,hc44,r44⟩:=jar (B:=B) o44
    refine D47 ?_;refine Zs ?_
    haveI hsl2:=jiu (xs:=lps) (junk:=junk) (i:=k) zO (x:=⟨x.ln,p44,c44⟩) (by rw [hxk])
    refine D168 ?_;refine m.weak (h':=h++[⟨true,q3,.cells [.int .i64 b.wrong,.slice p14 ns c14,.slice wp nw wc,.slice (some ⟨bl,0,none⟩) nb c27].toArray 25 (0,0)⟩,⟨true,q4,.cells [.bool c.butt,.int .i64 c.line,.int .i64 c.st].toArray 37 (0,0)⟩,⟨true,q6,.cells [.int .i64 0,.slice none 0 0,.slice none 0 0,.slice none 0 0].toArray 25 (0,0)⟩]++n14++M0++[⟨true,q8,.cells [str (hwS 1),.bool (decide (1=1)),.func (.func (261+1)) #[] #[]].toArray 184 (0,0)⟩]++[⟨true,bl,.cells (encs (lps.set k ⟨x.ln,p44,c44⟩)++junk).toArray 121 (0,0)⟩]++(FM++n44)) jdc ?_
    exact E24
   ·refine D137 ?_;refine rs5 ?_;refine Z4 ?_
    obtain rfl:nb=k:=by omega
    rw [List.take_of_length_le zO] at hof
    refine jiZ rfl zq zK (fun hbt=>?_) (fun hbt=>?_)
    ·refine D121 ?_
     have hbe:c.butt=decide (1=1):=hbt.symm
     have hce:=jfb.1 hc0
     have hlL:c.line.toNat<lps.length:=by
      have h1:(jbh b c.butt).length=nb:=by rw [hbe,←jhY b zO,←hmap,List.length_map,hlen]
      omega
     obtain ⟨li,hli⟩:=Int.eq_ofNat_of_zero_le hce.1
     obtain ⟨sj,hsj⟩:=Int.eq_ofNat_of_zero_le hce.2.2.1
     obtain ⟨M1f,Fb,M2f,rfl,hofb,hset⟩:=hof.at hlL
     obtain ⟨bl,lc1,junk,hwv,rfl,hwl,hwc,hwn⟩:=jby how zO
     cases hwv
     rw [show c.line.toNat=li by omega] at hlL hofb hset
     obtain ⟨y,hy⟩: ∃y,y=lps.getD li default:=⟨_,rfl⟩
     rw [←hy] at hofb
     have hyl:y.ln∈hL b 1:=by rw [←hmap];exact List.mem_map.2 ⟨y,hy▸jan hlL,rfl⟩
     have hyf:y.ln.figs.length=ns:=(hwf y.ln hyl).1
     obtain ⟨bf,fc,junkf,hfv,rfl,hfl,hfc,hfn⟩:=jby hofb zO
     injection hfv with hyp _ hyc
     haveI hsf:=jdI (ss:=y.ln.figs) (junk:=junkf) (j:=c.st) (i:=sj) hsj zO f
     refine D58 ?_;refine Zs ?_
     refine jai rfl zq ?_;refine Z5 ?_;refine D47 ?_;refine Zs ?_;refine k_ld rfl zq (lp_rd (xs:=lps) (junk:=junk) hli hlL) ?_
     rw [←hy];refine Zs ?_;refine D116 ?_;refine D168 ?_
     have hy2:OwnS 9 1 (.slice y.p (y.ln.figs.set sj f).length y.c) (y.ln.figs.set sj f).length (encs (y.ln.figs.set sj f)) [⟨true,bf,.cells (encs (y.ln.figs.set sj f)++junkf).toArray 9 (0,0)⟩]:=by
      rw [hyp,hyc];exact E25
     have hnew:=hset ⟨⟨y.ln.lat,y.ln.figs.set sj f⟩,y.p,y.c⟩ _ hy2
     have hHalf:HalfO (.slice (some ⟨bl,0,none⟩) nb c27) nb (hL (setF b c f) 1) ([⟨true,bl,.cells (encs lps++junk).toArray 121 (0,0)⟩]++(M1f++[⟨true,bf,.cells (encs (y.ln.figs.set sj f)++junkf).toArray 9 (0,0)⟩]++M2f)):=by
      refine ⟨_,_,_,_,_,rfl,?_,?_,hnew,rfl⟩
      ·rw [jkP zO hbe,show c.line.toNat=li by omega,show c.st.toNat=sj by omega];have:=jfL hmap hlL (k:=sj) f y.p y.c
       rw [←hy] at this
       exact this
      ·rw [jcc hlL (by rw [←hy];simp [lpL])];exact how
     refine m.weak (h':=h++[⟨true,q3,.cells [.int .i64 b.wrong,.slice p14 ns c14,.slice wp nw wc,.slice (some ⟨bl,0,none⟩) nb c27].toArray 25 (0,0)⟩,⟨true,q4,.cells [.bool c.butt,.int .i64 c.line,.int .i64 c.st].toArray 37 (0,0)⟩,⟨true,q6,.cells [.int .i64 0,.slice none 0 0,.slice none 0 0,.slice none 0 0].toArray 25 (0,0)⟩]++n14++M0++([⟨true,bl,.cells (encs lps++junk).toArray 121 (0,0)⟩]++(M1f++[⟨true,bf,.cells (encs (y.ln.figs.set sj f)++junkf).toArray 9 (0,0)⟩]++M2f))) (jfH _ _ _ _) ?_
     exact E26
    ·refine D149 ?_
     have hHalf:HalfO (.slice p27 nb c27) nb (hL (setF b c f) 1) (W++FM):=⟨lps,p27,c27,W,FM,rfl,by rw [jnq zO (fun e=>hbt e.symm)];exact hmap,how,hof,rfl⟩
     refine m.weak (h':=h++[⟨true,q3,.cells [.int .i64 b.wrong,.slice p14 ns c14,.slice wp nw wc,.slice p27 nb c27].toArray 25 (0,0)⟩,⟨true,q4,.cells [.bool c.butt,.int .i64 c.line,.int .i64 c.st].toArray 37 (0,0)⟩,⟨true,q6,.cells [.int .i64 0,.slice none 0 0,.slice none 0 0,.slice none 0 0].toArray 25 (0,0)⟩]++n14++M0++(W++FM)) (jfH _ _ _ _) ?_
     exact E26
  ·refine Z2 ?_;refine jeC (Post:=fun v=>v= .pointer (some ⟨q3,2,none⟩)) rfl zq (jgw 0 zO) (fun H' hH=>jnr m H' q3 0 zO) ?_
   rintro v rfl;refine D7 ?_;refine D0 ?_;refine rs7 ?_;refine Z2 ?_
   refine jai rfl zq ?_;refine Zs ?_;refine jaV rfl zq zK (Post:=fun v nz=>OwnS 121 2 v nw (encs lps0) nz) (fun H' hH=>f163_c m H' (rl.keeps (sq hH)) zO) ?_
   rintro v n27 o27;refine jaH (jab ?_);obtain ⟨p27,c27,rfl,hc27,r27⟩:=jar (B:=B) o27
   refine jai rfl zq ?_;refine D26 ?_;refine D120 ?_;refine rs5 ?_;refine Zs ?_
   refine jai rfl zq ?_;refine Z3 ?_;refine D143 ?_
   refine jam (fun nn l h'=> ∃(k:Nat) (lps:List Lp) (W FM:Hp),nn=nw-k∧(k≤nw)∧(lps.length=nw)∧(lps.map (·.ln)=hL b 0)∧(∀j,k≤j→lps.getD j default=lps0.getD j default)∧(OwnS 121 2 (.slice p27 nw c27) nw (encs lps) W)∧(OwnF (lps.take k) FM)∧(∃U:Nat→Value,l=((tbV b ps ns ks pw nw cw pb nb cb)::(cV c.butt c.line c.st)::(str f)::(.pointer (some ⟨q3,0,none⟩))::(.pointer (some ⟨q4,0,none⟩))::(U 5)::(.pointer (some ⟨q6,0,none⟩))::(U 7)::(.pointer (some ⟨q8,0,none⟩))::(.pointer (some ⟨q3,2,none⟩))::vw6 U 10 ((.agg halvesL.toArray)::(.int .i64 0)::vw13 U 18 ((.slice p27 nw c27)::(.int .i64 (nw:Int))::(.int .i64 (k:Int))::vw33 U 34 []))))∧h++[⟨true,q3,.cells [.int .i64 b.wrong,.slice p14 ns c14,.slice p27 nw c27,.slice pb nb cb].toArray 25 (0,0)⟩,⟨true,q4,.cells [.bool c.butt,.int .i64 c.line,.int .i64 c.st].toArray 37 (0,0)⟩,⟨true,q6,.cells [.int .i64 0,.slice none 0 0,.slice none 0 0,.slice none 0 0].toArray 25 (0,0)⟩]++n14++[⟨true,q8,.cells [str (hwS 0),.bool (decide (0=1)),.func (.func (261+0)) #[] #[]].toArray 184 (0,0)⟩]++W++FM=h') _ ⟨0,lps0,n27,[],rfl,by omega,hll,hle,fun j _=>rfl,o27,by rw [List.take_zero];exact .nil,exU rfl,(by rw [List.append_nil])⟩ ?_;rintro nn l h' ⟨k,lps,W,FM,rfl,hk,hlen,hmap,hsame,how,hof,⟨U,rfl⟩,rfl⟩ hnext2;refine rs1 ?_;refine jaq rfl zq (fun hc=>?_) (fun hc=>?_)
   ·refine D156 ?_
    have rdW:=how.rd (B:=B) (List.Sublist.refl _)
    obtain ⟨bl,lc1,junk,hwv,rfl,hwl,hwc,hwn⟩:=jby how zO
    cases hwv
    have hxk:=hsame k (Nat.le_refl k)
    obtain ⟨x,hx⟩: ∃x,x=lps0.getD k default:=⟨_,rfl⟩
    rw [←hx] at hxk
    have hxm:x∈lps0:=hx▸jan zO
    obtain ⟨hxc,rdf0⟩:=hfig x hxm
    have hxf:x.ln.figs.length=ns:=(hwf x.ln (by rw [←hle];exact List.mem_map.2 ⟨x,hxm,rfl⟩)).1
    have rdf:=rdf0 (by have:=rd.n1;omega)
    refine rr6 ?_;refine Zs ?_;refine D47 ?_;refine jcB (vs:=lpL x) rfl zq rfl (hxk▸rdW.eat k zO zO) ?_;refine jat rfl zq (fun q11=>k_hp (jab ?_));refine Zs ?_;refine D160 ?_;refine D72 ?_;refine Zs ?_
    refine jai rfl zq ?_;refine Z4 ?_;refine D84 ?_
    rintro v n44 o44;refine jaH (jab ?_);obtain ⟨p44,c44,rfl,hc44,r44⟩:=jar (B:=B) o44
    refine D47 ?_;refine Zs ?_
    haveI hsl2:=jiu (xs:=lps) (junk:=junk) (i:=k) zO (x:=⟨x.ln,p44,c44⟩) (by rw [hxk])
    refine D168 ?_;refine m.weak (h':=h++[⟨true,q3,.cells [.int .i64 b.wrong,.slice p14 ns c14,.slice (some ⟨bl,0,none⟩) nw c27,.slice pb nb cb].toArray 25 (0,0)⟩,⟨true,q4,.cells [.bool c.butt,.int .i64 c.line,.int .i64 c.st].toArray 37 (0,0)⟩,⟨true,q6,.cells [.int .i64 0,.slice none 0 0,.slice none 0 0,.slice none 0 0].toArray 25 (0,0)⟩]++n14++[⟨true,q8,.cells [str (hwS 0),.bool (decide (0=1)),.func (.func (261+0)) #[] #[]].toArray 184 (0,0)⟩]++[⟨true,bl,.cells (encs (lps.set k ⟨x.ln,p44,c44⟩)++junk).toArray 121 (0,0)⟩]++(FM++n44)) jdc ?_
    exact E24
   ·refine D137 ?_;refine rs5 ?_;refine Z4 ?_
    obtain rfl:nw=k:=by omega
    rw [List.take_of_length_le zO] at hof
    refine jiZ rfl zq zK (fun hbt=>?_) (fun hbt=>?_)
    ·refine D121 ?_
     have hbe:c.butt=decide (0=1):=hbt.symm
     have hce:=jfb.1 hc0
     have hlL:c.line.toNat<lps.length:=by
      have h1:(jbh b c.butt).length=nw:=by rw [hbe,←jhY b zO,←hmap,List.length_map,hlen]
      omega
     obtain ⟨li,hli⟩:=Int.eq_ofNat_of_zero_le hce.1
     obtain ⟨sj,hsj⟩:=Int.eq_ofNat_of_zero_le hce.2.2.1
     obtain ⟨M1f,Fb,M2f,rfl,hofb,hset⟩:=hof.at hlL
     obtain ⟨bl,lc1,junk,hwv,rfl,hwl,hwc,hwn⟩:=jby how zO
     cases hwv
     rw [show c.line.toNat=li by omega] at hlL hofb hset
     obtain ⟨y,hy⟩: ∃y,y=lps.getD li default:=⟨_,rfl⟩
     rw [←hy] at hofb
     have hyl:y.ln∈hL b 0:=by rw [←hmap];exact List.mem_map.2 ⟨y,hy▸jan hlL,rfl⟩
     have hyf:y.ln.figs.length=ns:=(hwf y.ln hyl).1
     obtain ⟨bf,fc,junkf,hfv,rfl,hfl,hfc,hfn⟩:=jby hofb zO
     injection hfv with hyp _ hyc
     haveI hsf:=jdI (ss:=y.ln.figs) (junk:=junkf) (j:=c.st) (i:=sj) hsj zO f
     refine D58 ?_;refine Zs ?_
     refine jai rfl zq ?_;refine Z5 ?_;refine D47 ?_;refine Zs ?_;refine k_ld rfl zq (lp_rd (xs:=lps) (junk:=junk) hli hlL) ?_
     rw [←hy];refine Zs ?_;refine D116 ?_;refine D168 ?_
     have hy2:OwnS 9 1 (.slice y.p (y.ln.figs.set sj f).length y.c) (y.ln.figs.set sj f).length (encs (y.ln.figs.set sj f)) [⟨true,bf,.cells (encs (y.ln.figs.set sj f)++junkf).toArray 9 (0,0)⟩]:=by
      rw [hyp,hyc];exact E25
     have hnew:=hset ⟨⟨y.ln.lat,y.ln.figs.set sj f⟩,y.p,y.c⟩ _ hy2
     have hHalf:HalfO (.slice (some ⟨bl,0,none⟩) nw c27) nw (hL (setF b c f) 0) ([⟨true,bl,.cells (encs lps++junk).toArray 121 (0,0)⟩]++(M1f++[⟨true,bf,.cells (encs (y.ln.figs.set sj f)++junkf).toArray 9 (0,0)⟩]++M2f)):=by
      refine ⟨_,_,_,_,_,rfl,?_,?_,hnew,rfl⟩
      ·rw [jkP zO hbe,show c.line.toNat=li by omega,show c.st.toNat=sj by omega];have:=jfL hmap hlL (k:=sj) f y.p y.c
       rw [←hy] at this
       exact this
      ·rw [jcc hlL (by rw [←hy];simp [lpL])];exact how
     refine m.weak (h':=h++[⟨true,q3,.cells [.int .i64 b.wrong,.slice p14 ns c14,.slice (some ⟨bl,0,none⟩) nw c27,.slice pb nb cb].toArray 25 (0,0)⟩,⟨true,q4,.cells [.bool c.butt,.int .i64 c.line,.int .i64 c.st].toArray 37 (0,0)⟩,⟨true,q6,.cells [.int .i64 0,.slice none 0 0,.slice none 0 0,.slice none 0 0].toArray 25 (0,0)⟩]++n14++([⟨true,bl,.cells (encs lps++junk).toArray 121 (0,0)⟩]++(M1f++[⟨true,bf,.cells (encs (y.ln.figs.set sj f)++junkf).toArray 9 (0,0)⟩]++M2f))) (jfH _ _ _ _) ?_
     exact E27
    ·refine D149 ?_
     have hHalf:HalfO (.slice p27 nw c27) nw (hL (setF b c f) 0) (W++FM):=⟨lps,p27,c27,W,FM,rfl,by rw [jnq zO (fun e=>hbt e.symm)];exact hmap,how,hof,rfl⟩
     refine m.weak (h':=h++[⟨true,q3,.cells [.int .i64 b.wrong,.slice p14 ns c14,.slice p27 nw c27,.slice pb nb cb].toArray 25 (0,0)⟩,⟨true,q4,.cells [.bool c.butt,.int .i64 c.line,.int .i64 c.st].toArray 37 (0,0)⟩,⟨true,q6,.cells [.int .i64 0,.slice none 0 0,.slice none 0 0,.slice none 0 0].toArray 25 (0,0)⟩]++n14++(W++FM)) (jfH _ _ _ _) ?_
     exact E27
 ·refine D137 ?_;refine D3 ?_
  obtain rfl:i=2:=by omega
  obtain ⟨_,_,hw1,hwr⟩:=(hz2 zO).rd (B:=B)
  cases hw1
  obtain ⟨_,_,hb1,hbr⟩:=(hz3 zO).rd (B:=B)
  cases hb1
  refine D167 ?_;refine D160 ?_;refine D4 ?_;refine jac (h++n14++M0++M1) rfl Tryz.func112 rfl jaa ?_;refine D5 ?_
  exact ⟨n14++M0++M1,p14,c14,wp,wc,bp,bc,by simp only [List.append_assoc],by rw [tbV,tbL,setF_wrong],⟨by rw [jkg];exact r14.keeps (List.Sublist.trans (List.sublist_append_left _ _) (List.sublist_append_left _ _)),hc14,by omega,hwr.keeps (List.Sublist.trans (List.sublist_append_right _ _) (List.sublist_append_left _ _)),by omega,hbr.keeps (List.sublist_append_right _ _),by omega,setF_sm rd.sm hf⟩⟩
def figS (b:Tb) (c:Ce) (f:Str):Int:=if tbS b≠0 then tbS b else if c∉jad b then 6 else if jaN f=false then 3 else 0
def wasP (b:Tb) (c:Ce) (f:Str):List Int:=if figS b c f=0 then jao (figT b c) else [0,0,0]
def nowP (b:Tb) (c:Ce) (f:Str):List Int:=if figS b c f=0 then jao f else [0,0,0]
theorem jjb {b:Tb} {c:Ce} {f:Str} (h:figS b c f=0):tbS b=0∧c∈jad b∧jaN f=true:=by
 unfold figS at h
 split at h
 ·contradiction
 ·rename_i h1
  split at h
  ·cases h
  ·rename_i h2
   split at h
   ·cases h
   ·rename_i h3
    exact ⟨Classical.not_not.1 h1,Classical.not_not.1 h2,by simpa using h3⟩
abbrev zeroL:List Value:=[.int .i64 0,.slice none 0 0,.slice none 0 0,.slice none 0 0]
def TabO (B:Array Obj) (s:Int) (b:Tb) (new:Hp) (v:Value):Prop:= ∃x0 y1 z1 w1 y2 z2 w2 y3 z3 w3,v= .tuple [.agg [Value.int .i64 x0,.slice y1 z1 w1,.slice y2 z2 w2,.slice y3 z3 w3].toArray,.int .i64 s].toArray∧(s≠0→[Value.int .i64 x0,.slice y1 z1 w1,.slice y2 z2 w2,.slice y3 z3 w3]=zeroL)∧(s=0→ ∃ps ns ks pw nw cw pb nb cb,[Value.int .i64 x0,.slice y1 z1 w1,.slice y2 z2 w2,.slice y3 z3 w3]=tbL b ps ns ks pw nw cw pb nb cb∧RawTb B new b ps ns ks pw nw cw pb nb cb)
theorem jjy {s:Int} {b:Tb} (h:s≠0):TabO B s b [] (.tuple [.agg zeroL.toArray,.int .i64 s].toArray):=⟨_,_,_,_,_,_,_,_,_,_,rfl,fun _=>rfl,fun e=>absurd e h⟩
theorem jj9 {p o:List Int} (hp:PtOk p) (ho:PtOk o):PtOk (jdb p o):=by
 have e: ∀j,j<3→(jdb p o).getD j 0=if p.getD j 0= -1 then o.getD j 0 else p.getD j 0:=fun j hj=>by
  rw [jdb,List.getD_eq_getElem?_getD,List.getElem?_map,List.getElem?_range hj];rfl
 refine ⟨by simp [jdb],fun j=>?_,fun j hj=>?_⟩
 ·by_cases hj:j<3
  ·rw [e j hj];split
   ·exact ho.lo j
   ·exact hp.lo j
  ·rw [List.getD_eq_getElem?_getD,List.getElem?_eq_none (by simp [jdb];omega)];decide
 ·rw [e j hj];split
  ·exact ho.hi j hj
  ·exact hp.hi j hj
theorem digS_le (n:Nat):(digS n).length≤2:=by unfold digS;split<;>simp
theorem jga (x:Int):(jc9 x).length≤2:=by unfold jc9;split;simp;exact digS_le _
theorem textS_le {v:List Int} (h:v.length=3):(jdf v).length≤8:=by
 match v,h with
 |[a,b,c],_=>
  have h1:=jga a
  have h2:=jga b
  have h3:=jga c
  simp [jdf,jlB]
  omega
def jei (b:Tb) (c:Ce) (f:Str):List Int:=jdb (wasP b c f) (nowP b c f)
def jhP (b:Tb) (c:Ce) (f:Str):Int:=if figS b c f≠0 then figS b c f else if jdb (nowP b c f) (wasP b c f)≠jei b c f then 9 else jaL (setF b c (jdf (jei b c f))) 0
def putS (b:Tb) (c:Ce) (f:Str):Int:=if figS b c f≠0 then figS b c f else jaL (setF b c f) 0
theorem callB161:jbg Tryz.prog 161=true:=by kernel_rfl
theorem jmX {lps:List Lp} {ls:List Ln} (h:lps.map (·.ln)=ls) (k:Nat):(lps.getD k default).ln=ls.getD k default:=by
 subst h
 rw [List.getD_eq_getElem?_getD,List.getD_eq_getElem?_getD,List.getElem?_map];cases lps[k]?<;>rfl
theorem figT_sm {b:Tb} (h:TbSm b) (c:Ce):(figT b c).length≤100000:=by
 have gen: ∀ls:List Ln,(∀l∈ls,l.figs.length≤1000∧ ∀f∈l.figs,f.length≤100000)→ ∀i j,((ls.getD i default).figs.getD j []).length≤100000:=fun ls hl i j=>by
  by_cases hi:i<ls.length
  ·by_cases hj:j<(ls.getD i default).figs.length
   ·exact (hl _ (jan hi)).2 _ (jan (l:=(ls.getD i default).figs) hj)
   ·rw [List.getD_eq_getElem?_getD (l:=(ls.getD i default).figs),List.getElem?_eq_none zO];simp
  ·rw [List.getD_eq_getElem?_getD (l:=ls),List.getElem?_eq_none zO];simp [default,instInhabitedLn.default]
 unfold figT jey jbh
 split
 ·exact gen _ h.but _ _
 ·exact gen _ h.wat _ _
theorem f109_c (m:Md Tryz.prog B) (h:Hp) {b:Tb} {ps:Option Addr} {ns ks:Nat} {pw:Option Addr} {nw cw:Nat} {pb:Option Addr} {nb cb:Nat} (ra:RawTb B h b ps ns ks pw nw cw pb nb cb) (c:Ce) (f:Str) (hf:f.length≤100000):FnC m 109 #[tbV b ps ns ks pw nw cw pb nb cb,cV c.butt c.line c.st,str f] h fun v h'=>h'=h∧v= .tuple [.agg (ints (wasP b c f)).toArray,.agg (ints (nowP b c f)).toArray,.int .i64 (figS b c f)].toArray:=by
 refine jae Tryz.func109 rfl rfl (l:=(tbV b ps ns ks pw nw cw pb nb cb)::(cV c.butt c.line c.st)::(str f)::uu58) rfl ?_
 intro cf cs K hK
 refine rs5 ?_;refine jaP rfl zq (fun q3=>k_hp (jab ?_));refine jaP rfl zq (fun q4=>k_hp (jab ?_));refine jat rfl zq (fun q6=>k_hp (jab ?_));refine jat rfl zq (fun q7=>k_hp (jab ?_));refine D122 ?_;refine D151 ?_;refine D65 ?_
 rintro v rfl;refine D7 ?_;refine D163 ?_
 refine jaY rfl zq (fun hc=>?_) (fun hc=>?_)
 ·refine D121 ?_;refine rs6 ?_;refine D59 ?_;refine D59 ?_;refine Zs ?_;refine D20 ?_;refine D158 ?_;refine D107 ?_;refine D5 ?_
  have eb:figS b c f=tbS b:=by rw [figS,if_pos hc]
  exact ⟨rfl,by rw [wasP,nowP,eb,if_neg hc,if_neg hc];rfl⟩
 ·refine D140 ?_;refine D3 ?_
  have hz0:tbS b=0:=by omega
  have hk:=jbd.1 hz0
  refine jbY [0,1,2,3,4,5] zK zK (List.Sublist.refl _) ?_;refine DrawT.leaf [(0,.read),(2,.read),(1,.keep),(3,.keep),(4,.keep),(5,.pure)] zK ?_;refine Z2 ?_;refine D23 ?_;rintro v nz ⟨qs,rfl,rfl⟩;refine jaH (jab ?_);refine D34 ?_
  rintro v n9 ⟨q9,rfl,sh⟩;refine jaH (jab ?_);refine jeC (Post:=fun v=>v= .int .i64 (ownC b c)) rfl zq jkX (fun H' hH=>by
   have hs9:n9.Sublist H':=List.Sublist.trans zX hH
   simpa [ownC] using f149_c m H' (sh.keeps hs9) (c:=c) (RdN.keepsN (jkn (q:=qs)) hH)) ?_
  rintro v rfl;refine D7 ?_;refine D163 ?_
  refine jaY rfl zq (fun hc=>?_) (fun hc=>?_)
  ·refine D121 ?_;refine rs6 ?_;refine D59 ?_;refine D59 ?_;refine Zs ?_;refine D20 ?_;refine D158 ?_;refine D107 ?_;refine D5 ?_
   have hno:c∉jad b:=fun e=>by
    have hcc:=hc
    rw [ownC,if_pos e] at hcc
    exact hcc rfl
   have e6:figS b c f=6:=by rw [figS,if_neg (fun e=>e hz0),if_pos hno]
   exact ⟨rfl,by rw [wasP,nowP,e6,ownC,if_neg hno];rfl⟩
  ·refine D119 ?_;refine D166 ?_;refine jak (Post:=fun v=>v=_) rfl zq zK (fun H' hH=>f119_c m H' _ hf) ?_
   rintro v rfl;refine D7 ?_;refine Z3 ?_;refine D55 ?_;refine D122 ?_;refine D3 ?_
   cases hfo:jaN f
   refine D167 ?_;refine D64 ?_;refine D121 ?_;refine rs5 ?_;refine D59 ?_;refine D59 ?_;refine D20 ?_
   haveI hsz:SetSeg (ints (jao f)) 0 [.int .i64 0,.int .i64 0,.int .i64 0] [.int .i64 0,.int .i64 0,.int .i64 0]:=jg9 (by rw [List.length_map,(jaK f).len];rfl)
   refine D158 ?_;refine D107 ?_;refine D5 ?_
   rotate_left
   refine D167 ?_;refine D63 ?_;refine D140 ?_
   all_goals
    have hin:c∈jad b:=Classical.byContradiction fun e=>by
     have hcc:=hc
     rw [ownC,if_neg e] at hcc
     omega
    have hht:=(jdD hin).1
   ·have hce:=jfb.1 hht
    obtain ⟨li,hli⟩:=Int.eq_ofNat_of_zero_le hce.1
    obtain ⟨sj,hsj⟩:=Int.eq_ofNat_of_zero_le hce.2.2.1
    have hf2:(figT b c).length≤100000:=figT_sm ra.sm c
    have rd:=ra.rd hk
    have hsl:=rd.sl
    have e0:figS b c f=0:=by rw [figS,if_neg (fun e=>e hz0),if_neg (fun e=>e hin),if_neg (by rw [hfo];simp)]
    refine rr3 ?_;refine Z2 ?_;refine D122 ?_;refine rs2 ?_;refine D124 ?_;refine jep (fun hc=>?_) (fun hc=>?_)
    ·first|replace hc:=of_decide_eq_true hc|replace hc:=of_decide_eq_false hc|skip
     refine rr3 ?_;refine Z2 ?_;refine D122 ?_;refine D54 ?_;have hlines: ∃p n c',RdLn B h (.slice p n c') n (jbh b c.butt)∧n≤1000∧(c.butt=true→p=pb∧n=nb∧c'=cb)∧(c.butt=false→p=pw∧n=nw∧c'=cw):=by
      cases hcb:c.butt with
      |true=>exact ⟨pb,nb,cb,ra.u,ra.un,fun _=>⟨rfl,rfl,rfl⟩,by intro e;cases e⟩
      |false=>exact ⟨pw,nw,cw,ra.w,ra.wn,(by intro e;cases e),fun _=>⟨rfl,rfl,rfl⟩⟩
     obtain ⟨pl,nl,cl,hln,hnl,hl1,hl2⟩:=hlines
     obtain ⟨lps,hle,rl,hfig⟩:=hln
     have hll:=rl.elen zA
     have hlen:(jbh b c.butt).length=nl:=by rw [←hle,List.length_map,hll]
     have hlx:li<nl:=by omega
     obtain ⟨x,hx⟩: ∃x,x=lps.getD li default:=⟨_,rfl⟩
     have hxm:x∈lps:=hx▸jan zO
     obtain ⟨hxc,rdf0⟩:=hfig x hxm
     have hxl:x.ln=jey b c:=by rw [hx,jmX hle,jey,show c.line.toNat=li by omega]
     have hxf:x.ln.figs.length=ns:=by rw [hxl,((hk.lines c.butt).ok _ (jex hht)).len,hsl]
     have hfg:figT b c=x.ln.figs.getD sj []:=by rw [figT,←hxl,show c.st.toNat=sj by omega]
     obtain ⟨rlb,rlo,hrlp⟩:=rl.ptr zO
     have rdf:=rdf0 zO
     obtain ⟨rfb,rfo,hrfp⟩:=rdf.ptr zO
     have rl':=rl
     rw [hrlp] at rl'
     have rdf':=rdf
     rw [hrfp] at rdf'
     first
      |(have hq:=hl1 hc;obtain ⟨rfl,rfl,rfl⟩:=hq)
      |(have hq:=hl2 hc;obtain ⟨rfl,rfl,rfl⟩:=hq)
     refine Z4 ?_;refine jdU rfl zq hrlp zO zO ?_;refine Zs ?_;refine k_ld (v:= .slice x.p x.ln.figs.length x.c) rfl zq (hx▸rl'.fat li 1 zO zO rfl) ?_;refine Zs ?_;refine jdU rfl zq hrfp zO zO ?_;refine k_ld rfl zq (rdf'.sat sj zO zO) ?_
     rw [←hfg];refine D76 ?_
     rintro v rfl;refine D7 ?_;refine Z3 ?_;refine D55 ?_;refine D120 ?_
     haveI hs1:Seg (ints (jao f)) 0 3 (ints (jao f)):=seg_all (by rw [List.length_map,(jaK f).len])
     haveI hs2:Seg (ints (jao (figT b c))) 0 3 (ints (jao (figT b c))):=seg_all (by rw [List.length_map,(jaK (figT b c)).len])
     refine D74 ?_;refine D49 ?_;refine D49 ?_;refine D83 ?_;refine D83 ?_;refine D117 ?_;refine D107 ?_;refine D5 ?_
     exact ⟨rfl,by rw [wasP,nowP,e0];rfl⟩
    ·first|replace hc:=of_decide_eq_true hc|replace hc:=of_decide_eq_false hc|skip
     refine D8 ?_;refine D3 ?_;refine D54 ?_
     have hlines: ∃p n c',RdLn B h (.slice p n c') n (jbh b c.butt)∧n≤1000∧(c.butt=true→p=pb∧n=nb∧c'=cb)∧(c.butt=false→p=pw∧n=nw∧c'=cw):=by
      cases hcb:c.butt with
      |true=>exact ⟨pb,nb,cb,ra.u,ra.un,fun _=>⟨rfl,rfl,rfl⟩,by intro e;cases e⟩
      |false=>exact ⟨pw,nw,cw,ra.w,ra.wn,(by intro e;cases e),fun _=>⟨rfl,rfl,rfl⟩⟩
     obtain ⟨pl,nl,cl,hln,hnl,hl1,hl2⟩:=hlines
     obtain ⟨lps,hle,rl,hfig⟩:=hln
     have hll:=rl.elen zA
     have hlen:(jbh b c.butt).length=nl:=by rw [←hle,List.length_map,hll]
     have hlx:li<nl:=by omega
     obtain ⟨x,hx⟩: ∃x,x=lps.getD li default:=⟨_,rfl⟩
     have hxm:x∈lps:=hx▸jan zO
     obtain ⟨hxc,rdf0⟩:=hfig x hxm
     have hxl:x.ln=jey b c:=by rw [hx,jmX hle,jey,show c.line.toNat=li by omega]
     have hxf:x.ln.figs.length=ns:=by rw [hxl,((hk.lines c.butt).ok _ (jex hht)).len,hsl]
     have hfg:figT b c=x.ln.figs.getD sj []:=by rw [figT,←hxl,show c.st.toNat=sj by omega]
     obtain ⟨rlb,rlo,hrlp⟩:=rl.ptr zO
     have rdf:=rdf0 zO
     obtain ⟨rfb,rfo,hrfp⟩:=rdf.ptr zO
     have rl':=rl
     rw [hrlp] at rl'
     have rdf':=rdf
     rw [hrfp] at rdf'
     first
      |(have hq:=hl1 hc;obtain ⟨rfl,rfl,rfl⟩:=hq)
      |(have hq:=hl2 hc;obtain ⟨rfl,rfl,rfl⟩:=hq)
     refine Z4 ?_;refine jdU rfl zq hrlp zO zO ?_;refine Zs ?_;refine k_ld (v:= .slice x.p x.ln.figs.length x.c) rfl zq (hx▸rl'.fat li 1 zO zO rfl) ?_;refine Zs ?_;refine jdU rfl zq hrfp zO zO ?_;refine k_ld rfl zq (rdf'.sat sj zO zO) ?_
     rw [←hfg];refine D76 ?_
     rintro v rfl;refine D7 ?_;refine Z3 ?_;refine D55 ?_;refine D120 ?_
     haveI hs1:Seg (ints (jao f)) 0 3 (ints (jao f)):=seg_all (by rw [List.length_map,(jaK f).len])
     haveI hs2:Seg (ints (jao (figT b c))) 0 3 (ints (jao (figT b c))):=seg_all (by rw [List.length_map,(jaK (figT b c)).len])
     refine D74 ?_;refine D49 ?_;refine D49 ?_;refine D83 ?_;refine D83 ?_;refine D117 ?_;refine D107 ?_;refine D5 ?_
     exact ⟨rfl,by rw [wasP,nowP,e0];rfl⟩
   ·have e3:figS b c f=3:=by rw [figS,if_neg (fun e=>e hz0),if_neg (fun e=>e hin),if_pos hfo]
    exact ⟨rfl,by rw [wasP,nowP,e3];rfl⟩
theorem jdd (b:Tb) (c:Ce) (f:Str):PtOk (wasP b c f):=by unfold wasP;split;exact jaK _;exact PtOk.zero
theorem jdn (b:Tb) (c:Ce) (f:Str):PtOk (nowP b c f):=by unfold nowP;split;exact jaK _;exact PtOk.zero
theorem f111_c (m:Md Tryz.prog B) (h:Hp) {b:Tb} {ps:Option Addr} {ns ks:Nat} {pw:Option Addr} {nw cw:Nat} {pb:Option Addr} {nb cb:Nat} (ra:RawTb B h b ps ns ks pw nw cw pb nb cb):FnC m 111 #[tbV b ps ns ks pw nw cw pb nb cb] h fun v h'=>h'=h∧ ∃x0 y1 z1 w1 y2 z2 w2 y3 z3 w3,v= .tuple [.agg [Value.int .i64 x0,.slice y1 z1 w1,.slice y2 z2 w2,.slice y3 z3 w3].toArray,.int .i64 (jaL b 0)].toArray∧(jaL b 0≠0→[Value.int .i64 x0,.slice y1 z1 w1,.slice y2 z2 w2,.slice y3 z3 w3]=zeroL)∧(jaL b 0=0→[Value.int .i64 x0,.slice y1 z1 w1,.slice y2 z2 w2,.slice y3 z3 w3]=(tbL b ps ns ks pw nw cw pb nb cb)):=by
 refine jae Tryz.func111 rfl rfl (l:=(tbV b ps ns ks pw nw cw pb nb cb)::uu15) rfl ?_
 intro cf cs K hK
 refine rs3 ?_;refine jaP rfl zq (fun q1=>k_hp (jab ?_));refine jat rfl zq (fun q2=>k_hp (jab ?_));refine D122 ?_;refine rs8 ?_;refine Zs ?_;refine jaV rfl zq zK (Post:=fun v nz=>jfl B b (tbL b ps ns ks pw nw cw pb nb cb) (jaL b 0) nz v) (fun H' hH=>f88_c m H' (ra.keeps (sq hH)) callB161 (fun hk K q hKs hs=>by simpa using f161_c m K _)) ?_
 rintro v n8 ⟨qp,p8,m8,c8,rfl,hz⟩;refine jaH (jab ?_);refine Z3 ?_
 refine jat rfl zq (fun q4=>k_hp (jab ?_));refine D20 ?_;refine D163 ?_
 refine jaY rfl zq (fun hc=>?_) (fun hc=>?_);refine D121 ?_;refine rs4 ?_;refine D52 ?_;refine Zs ?_
 rotate_left
 refine D119 ?_;refine D151 ?_
 all_goals
  refine D158 ?_;refine jac (h) rfl Tryz.func111 rfl jaa ?_;refine D5 ?_
 ·have hz0:jaL b 0=0:=by omega
  exact ⟨rfl,_,_,_,_,_,_,_,_,_,_,by rw [hz0],fun e=>absurd hz0 e,fun _=>rfl⟩
 ·exact ⟨rfl,_,_,_,_,_,_,_,_,_,_,rfl,fun _=>rfl,fun e=>absurd e zS⟩
theorem f60_c (m:Md Tryz.prog B) (h:Hp) {b:Tb} {ps:Option Addr} {ns ks:Nat} {pw:Option Addr} {nw cw:Nat} {pb:Option Addr} {nb cb:Nat} (ra:RawTb B h b ps ns ks pw nw cw pb nb cb) (c:Ce) (f:Str) (hf:f.length≤100000):FnC m 60 #[tbV b ps ns ks pw nw cw pb nb cb,cV c.butt c.line c.st,str f] h fun v h'=> ∃new,h'=h++new∧TabO B (putS b c f) (setF b c f) new v:=by
 refine jae Tryz.func60 rfl rfl (l:=(tbV b ps ns ks pw nw cw pb nb cb)::(cV c.butt c.line c.st)::(str f)::uu27) rfl ?_
 intro cf cs K hK
 refine rs4 ?_;refine jaP rfl zq (fun q3=>k_hp (jab ?_));refine jaP rfl zq (fun q4=>k_hp (jab ?_));refine jat rfl zq (fun q6=>k_hp (jab ?_));refine D122 ?_;refine rs13 ?_;refine Z3 ?_;refine D62 ?_
 rintro v rfl;refine D186 ?_
 refine jat rfl zq (fun q8=>k_hp (jab ?_));refine jat rfl zq (fun q9=>k_hp (jab ?_));refine D192 ?_;refine D163 ?_
 refine jaY rfl zq (fun hc=>?_) (fun hc=>?_)
 ·refine D121 ?_;refine rs4 ?_;refine D52 ?_;refine Zs ?_;refine D158 ?_;refine jac (h) rfl Tryz.func60 rfl jaa ?_;refine D5 ?_
  have e1:putS b c f=figS b c f:=by rw [putS,if_pos hc]
  exact ⟨[],by simp,by rw [e1];exact jjy hc⟩
 ·refine D140 ?_
  have ef:figS b c f=0:=by omega
  obtain ⟨hz0,hin,hfo⟩:=jjb ef
  have hk:=jbd.1 hz0
  have hht:=(jdD hin).1
  have rd:=ra.rd hk
  have e0:putS b c f=jaL (setF b c f) 0:=by rw [putS,if_neg (fun e=>e ef)]
  refine rr9 ?_;refine Z3 ?_;refine jaV rfl zq zK (Post:=fun v nz=> ∃ps' ks' pw' cw' pb' cb',v=tbV (setF b c f) ps' ns ks' pw' nw cw' pb' nb cb'∧RawTb B nz (setF b c f) ps' ns ks' pw' nw cw' pb' nb cb') (fun H' hH=>CallF.mono (f112_c m H' (rd.keeps (sq hH)) hht f hf) fun v h' ⟨nz,p1,k1,p2,k2,p3,k3,e1,e2,e3⟩=>⟨nz,e1,p1,k1,p2,k2,p3,k3,e2,e3⟩) ?_;rintro v n37 ⟨p1,k1,p2,k2,p3,k3,rfl,ra2⟩;refine jaH (jab ?_);refine jak (Post:=fun v=> ∃x0 y1 z1 w1 y2 z2 w2 y3 z3 w3,v= .tuple [.agg [Value.int .i64 x0,.slice y1 z1 w1,.slice y2 z2 w2,.slice y3 z3 w3].toArray,.int .i64 (jaL (setF b c f) 0)].toArray∧(jaL (setF b c f) 0≠0→[Value.int .i64 x0,.slice y1 z1 w1,.slice y2 z2 w2,.slice y3 z3 w3]=zeroL)∧(jaL (setF b c f) 0=0→[Value.int .i64 x0,.slice y1 z1 w1,.slice y2 z2 w2,.slice y3 z3 w3]=tbL (setF b c f) p1 ns k1 p2 nw k2 p3 nb k3)) rfl zq zK (fun H' hH=>f111_c m H' (ra2.keeps (List.Sublist.trans (List.sublist_append_right _ _) hH))) ?_;rintro v ⟨x0,y1,z1,w1,y2,z2,w2,y3,z3,w3,rfl,ha1,ha2⟩;refine D7 ?_;refine Z2 ?_;refine D158 ?_;refine jac (h++n37) rfl Tryz.func60 rfl jaa ?_;refine D5 ?_
  exact E28
theorem f53_c (m:Md Tryz.prog B) (h:Hp) {b:Tb} {ps:Option Addr} {ns ks:Nat} {pw:Option Addr} {nw cw:Nat} {pb:Option Addr} {nb cb:Nat} (ra:RawTb B h b ps ns ks pw nw cw pb nb cb) (c:Ce) (f:Str) (hf:f.length≤100000):FnC m 53 #[tbV b ps ns ks pw nw cw pb nb cb,cV c.butt c.line c.st,str f] h fun v h'=> ∃new,h'=h++new∧TabO B (jhP b c f) (setF b c (jdf (jei b c f))) new v:=by
 refine jae Tryz.func53 rfl rfl (l:=(tbV b ps ns ks pw nw cw pb nb cb)::(cV c.butt c.line c.st)::(str f)::uu38) rfl ?_
 intro cf cs K hK
 refine rs4 ?_;refine jaP rfl zq (fun q3=>k_hp (jab ?_));refine jaP rfl zq (fun q4=>k_hp (jab ?_));refine jat rfl zq (fun q6=>k_hp (jab ?_));refine D0 ?_;refine rs13 ?_;refine Z3 ?_;refine D62 ?_
 rintro v rfl;refine D186 ?_
 refine jat rfl zq (fun q8=>k_hp (jab ?_));refine jat rfl zq (fun q9=>k_hp (jab ?_));refine D192 ?_;refine D178 ?_
 refine jaY rfl zq (fun hc=>?_) (fun hc=>?_)
 ·refine D121 ?_;refine rs4 ?_;refine D52 ?_;refine Zs ?_;refine D158 ?_;refine jac (h) rfl Tryz.func53 rfl jaa ?_;refine D5 ?_
  have e1:jhP b c f=figS b c f:=by rw [jhP,if_pos hc]
  exact ⟨[],by simp,by rw [e1];exact jjy hc⟩
 ·refine D140 ?_
  have ef:figS b c f=0:=by omega
  obtain ⟨hz0,hin,hfo⟩:=jjb ef
  have hk:=jbd.1 hz0
  have hht:=(jdD hin).1
  have rd:=ra.rd hk
  have hbo:PtOk (jei b c f):=jj9 (jdd b c f) (jdn b c f)
  refine rr5 ?_;refine jca rfl zq (jdd b c f).len ?_;refine jca rfl zq (jdn b c f).len ?_;refine jak (Post:=fun v=>v= .agg (ints (jei b c f)).toArray) rfl zq zK (fun H' hH=>f110_c m H' (jdd b c f).len (jdn b c f).len) ?_;rintro v rfl;refine D7 ?_
  refine jat rfl zq (fun q11=>k_hp (jab ?_));refine jdu rfl zq hbo.len (by rw [hbo.len];rfl) ?_;refine D120 ?_;refine D3 ?_;refine D102 ?_;refine jca rfl zq (jdn b c f).len ?_;refine jca rfl zq (jdd b c f).len ?_;refine jca rfl zq hbo.len ?_;refine jak (Post:=fun v=>v= .agg (ints (jdb (nowP b c f) (wasP b c f))).toArray) rfl zq zK (fun H' hH=>f110_c m H' (jdn b c f).len (jdd b c f).len) ?_;rintro v rfl;refine D7 ?_
  refine k_neqA3 rfl zq zK zK (jj9 (jdn b c f) (jdd b c f)).len hbo.len (fun hne=>?_) (fun hne=>?_)
  ·refine D121 ?_;refine rs3 ?_;refine D52 ?_;refine D158 ?_;refine jac (h) rfl Tryz.func53 rfl jaa ?_;refine D5 ?_
   have e1:jhP b c f=9:=by rw [jhP,if_neg (fun e=>e ef),if_pos hne]
   exact ⟨[],by simp,by rw [e1];exact jjy zA⟩
  ·refine D140 ?_
   have e0:jhP b c f=jaL (setF b c (jdf (jei b c f))) 0:=by rw [jhP,if_neg (fun e=>e ef),if_neg (fun e=>e hne)]
   refine jaz [(0,.read),(1,.read),(2,.read),(3,.keep),(4,.keep),(5,.keep),(6,.pure),(7,.pure),(8,.free),(9,.pure)] zK zK (List.Sublist.refl _) ?_;refine Z2 ?_;refine jca rfl zq hbo.len ?_;refine jak (Post:=fun v=>v=str (jdf (jei b c f))) rfl zq zK (fun H' hH=>f113_c m H' hbo) ?_;rintro v rfl;refine D7 ?_;refine jaV rfl zq zK (Post:=fun v nz=> ∃ps' ks' pw' cw' pb' cb',v=tbV (setF b c (jdf (jei b c f))) ps' ns ks' pw' nw cw' pb' nb cb'∧RawTb B nz (setF b c (jdf (jei b c f))) ps' ns ks' pw' nw cw' pb' nb cb') (fun H' hH=>CallF.mono (f112_c m H' (rd.keeps (sq hH)) hht (jdf (jei b c f)) (Nat.le_trans (textS_le hbo.len) zO)) fun v h' ⟨nz,p1,k1,p2,k2,p3,k3,e1,e2,e3⟩=>⟨nz,e1,p1,k1,p2,k2,p3,k3,e2,e3⟩) ?_
   rintro v n37 ⟨p1,k1,p2,k2,p3,k3,rfl,ra2⟩;refine jaH (jab ?_);refine jak (Post:=fun v=> ∃x0 y1 z1 w1 y2 z2 w2 y3 z3 w3,v= .tuple [.agg [Value.int .i64 x0,.slice y1 z1 w1,.slice y2 z2 w2,.slice y3 z3 w3].toArray,.int .i64 (jaL (setF b c (jdf (jei b c f))) 0)].toArray∧(jaL (setF b c (jdf (jei b c f))) 0≠0→[Value.int .i64 x0,.slice y1 z1 w1,.slice y2 z2 w2,.slice y3 z3 w3]=zeroL)∧(jaL (setF b c (jdf (jei b c f))) 0=0→[Value.int .i64 x0,.slice y1 z1 w1,.slice y2 z2 w2,.slice y3 z3 w3]=tbL (setF b c (jdf (jei b c f))) p1 ns k1 p2 nw k2 p3 nb k3)) rfl zq zK (fun H' hH=>f111_c m H' (ra2.keeps (List.Sublist.trans (List.sublist_append_right _ _) hH))) ?_;rintro v ⟨x0,y1,z1,w1,y2,z2,w2,y3,z3,w3,rfl,ha1,ha2⟩;refine D7 ?_;refine Z2 ?_;refine D158 ?_;refine jac (h++n37) rfl Tryz.func53 rfl jaa ?_;refine D5 ?_
   exact E28
end Go.Proofs
namespace Go.Proofs
open Go.Lo
open Go.Conc (G dcall)
set_option maxRecDepth 100000
set_option synthInstance.maxSize 100000
set_option synthInstance.maxHeartbeats 1000000
set_option maxHeartbeats 4000000
variable {B:Array Obj} {C:Crew} {Y:SyC Tryz.prog B C.pro} {h:Hp} {kn r:Nat} {z:Bool} {got:List Nat}
theorem k_putQ {D:Nat} {b:Frame} {l l':List Value} {ds:List Deferred} {k:List Item} {cs:List Frame} {d:Option Tmp} {v:Value} [p:PutV l d v l'] (n:(Im.quit Tryz.prog D).R (Gr b l' ds k cs)):(Im.quit Tryz.prog D).R (Gr b (put l d v) ds k cs):=by rw [p.eq];exact n
theorem addW_c {i:Nat} (hM:C.n≤4100) (hz:C.hit kn=true→z=true) {c:Frame} {cs:List Frame} (hq:(Im.quit Tryz.prog 0).R (G (c.finish (.tuple #[])) cs)):
  ((SyC.kid Tryz.prog B C.pro i).im 0 (.w kn .on z) h).R (G (Frame.enter Tryz.prog 153 [.pointer (some ⟨C.wg,0,none⟩),.int .i64 (-1)].toArray .normal) (c::cs)):=by
 refine jdw Tryz.func153 rfl rfl (l:=(.pointer (some ⟨C.wg,0,none⟩))::(.int .i64 (-1))::uu115) rfl ?_;refine D22 ?_;refine i_if ?_;refine D141 ?_;refine jbC (v:= .bool true) rfl zq zA (jkv zA) ?_;refine D191 ?_;refine D196 ?_;refine D111 ?_;refine y_bye hz extMerge rfl zq ?_;refine D12 ?_;refine D123 ?_;refine jfR jfe rfl zq ?_;refine D12 ?_;refine D18 ?_;refine jjR (args:=[]) rfl zq rfl zA ?_;refine D12 ?_;refine D123 ?_;refine D138 ?_;refine D22 ?_;refine D123 ?_;refine i_ext jjd rfl zq rfl ?_;refine D144 ?_;refine D175 ?_;refine D11 ?_;refine jdx (n':=18446744073709551615) rfl zq zK zA ?_;refine je9 (v:= .int .u64 18446744069414584320) rfl zq (.inl rfl) (op_shl zA zA) ?_;refine D103 ?_;refine jdw Tryz.func199 rfl rfl (l:=(.pointer (some ⟨C.wg,0,none⟩))::(.int .u64 18446744069414584320)::uu8) rfl ?_;refine D123 ?_;refine D138 ?_;refine D175 ?_;refine D11 ?_;refine y_wgSub zO hM hz jkU rfl zq (fun v wt hv70 hwt hvw=>?_) (jcL ?_)
 ·show (Im.quit Tryz.prog 1).R _
  refine k_putQ ?_;refine D183 ?_;refine jbV rfl Tryz.func199 (ja6 rfl) ?_;refine jfa rfl ?_;refine D138 ?_;refine D141 ?_;refine jbC (v:= .int .u64 0) rfl zq zA (jd0 ((jb1 v wt hv70 hwt).flag)) ?_;refine D37 ?_;refine D155 ?_;refine D177 ?_;refine D128 ?_;refine je9 (v:= .int .u64 (v:Int)) rfl zq (.inr rfl) (jku zA (jb1 v wt hv70 hwt).hi) ?_;refine jdx rfl zq zK (jb1 v wt hv70 hwt).hi32 ?_;refine D138 ?_;refine D128 ?_;refine jbC (v:= .int .u64 (wt:Int)) rfl zq zA (jd0 ((jb1 v wt hv70 hwt).lo)) ?_;refine jdx rfl zq zK (jb1 v wt hv70 hwt).lo32 ?_;refine D138 ?_;refine D141 ?_;refine i_mv rfl rfl ?_;refine D93 ?_;refine D91 ?_;refine D155 ?_;refine D146 ?_;refine D177 ?_;refine D141 ?_;refine D100 ?_;refine D144 ?_;refine D22 ?_;refine D22 ?_
  rcases (by omega:wt=0∨(wt=1∧0<v)) with rfl|⟨rfl,hv0⟩
  ·refine D196 ?_;refine D37 ?_;refine D155 ?_;refine D68 ?_;refine D155 ?_;refine D146 ?_;refine D177 ?_;refine D141 ?_;refine jbC (v:= .bool (decide ((v:Int)>0))) rfl zq zA (jiN rfl) ?_
   by_cases hv0:0<v
   ·rw [decide_eq_true (show (v:Int)>0 by omega)];refine D155 ?_;refine D91 ?_;refine D191 ?_;refine ji0 rfl ?_;refine jbT rfl jbZ ?_;refine D85 ?_
    exact hq
   ·rw [decide_eq_false (show¬(v:Int)>0 by omega)];refine D11 ?_;refine i_mv rfl rfl ?_;refine jbC (v:= .bool true) rfl rfl zA (jft zA) ?_;refine D68 ?_;refine D191 ?_;refine ji0 rfl ?_;refine jbT rfl jbZ ?_;refine D85 ?_
    exact hq
  ·refine D196 ?_;refine D110 ?_;refine D11 ?_;refine i_mv rfl rfl ?_;refine D93 ?_;refine D91 ?_;refine D155 ?_;refine D146 ?_;refine D177 ?_;refine D141 ?_;refine D101 ?_;refine D155 ?_;refine D91 ?_;refine D191 ?_;refine ji0 rfl ?_;refine jbT rfl jbZ ?_;refine D85 ?_
   exact hq
 ·refine D183 ?_;refine jbV rfl Tryz.func199 (ja6 rfl) ?_;refine jfa rfl ?_;refine D138 ?_;refine D141 ?_;refine jbC (v:= .int .u64 0) rfl zq zA (jd0 ((jb1 0 1 zO zO).flag)) ?_;refine D37 ?_;refine D155 ?_;refine D177 ?_;refine D128 ?_;refine je9 (v:= .int .u64 0) rfl zq (.inr rfl) (jku zA (jb1 0 1 zO zO).hi) ?_;refine jdx rfl zq zK (jb1 0 1 zO zO).hi32 ?_;refine D138 ?_;refine D128 ?_;refine jbC (v:= .int .u64 1) rfl zq zA (jd0 ((jb1 0 1 zO zO).lo)) ?_;refine jdx rfl zq zK (jb1 0 1 zO zO).lo32 ?_;refine D138 ?_;refine D141 ?_;refine i_mv rfl rfl ?_;refine D93 ?_;refine D91 ?_;refine D155 ?_;refine D146 ?_;refine D177 ?_;refine D141 ?_;refine jbC (v:= .bool false) rfl zq zA (jkv zA) ?_;refine D144 ?_;refine D141 ?_;refine D110 ?_;refine D11 ?_;refine i_mv rfl rfl ?_;refine D93 ?_;refine D91 ?_;refine D155 ?_;refine D146 ?_;refine D177 ?_;refine D141 ?_;refine jbC (v:= .bool false) rfl zq zA (jiN zA) ?_;refine D11 ?_;refine i_mv rfl rfl ?_;refine jbC (v:= .bool false) rfl rfl zA (jft zA) ?_;refine D177 ?_;refine D141 ?_;refine D159 ?_;refine D103 ?_;refine D98 ?_;refine D123 ?_;refine D138 ?_;refine D175 ?_
  refine jib zO hz jgG rfl zq (jcL ?_)
  refine D183 ?_;refine D109 ?_;refine jfa rfl ?_;refine D11 ?_;refine D37 ?_;refine D144 ?_;refine D175 ?_;refine D103 ?_;refine jdw Tryz.func202 rfl rfl (l:=(.pointer (some ⟨C.wg,0,none⟩))::(.int .u64 0)::uu7) rfl ?_;refine D196 ?_;refine D159 ?_;refine D11 ?_
  refine jhA zO hz jlJ rfl zq (jcL ?_)
  refine D12 ?_;refine jlD rfl ?_;refine jbV rfl Tryz.func202 (jbS rfl) ?_;refine jfa rfl ?_;refine D12 ?_;refine D141 ?_;refine D144 ?_;refine jhX ?_;refine i_loop ?_;refine D141 ?_;refine D110 ?_;refine D191 ?_;refine i_skip ?_;refine D22 ?_;refine jhX ?_;refine D196 ?_;refine D159 ?_;refine jia extSemG rfl zq ?_
  show (Im.quit Tryz.prog 1).R _
  refine k_putQ ?_;refine D12 ?_;refine ji2 ?_;refine D196 ?_;refine jbC (v:= .int .u32 0) rfl zq zA (op_sub zA) ?_;refine D138 ?_;refine jkO ?_;refine D141 ?_;refine D37 ?_;refine D12 ?_;refine i_else ?_;refine i_exit rfl ?_;refine jlD rfl ?_;refine jbT rfl jbZ ?_;refine D85 ?_
  exact hq
theorem jnQ {i:Nat} (hM:C.n≤4100) (hz:C.hit kn=true→z=true) {b:Frame} {l:List Value} {todo:List Item} {fn:Func} {kf:Frame} (hk:b.kind= .deferred) (hf: Tryz.prog.funcs[b.fn]?=some fn) (hres:fn.results= #[]) (hkf:kf={(default:Frame) with fn:= Tryz.prog.funcs.size,defers:=[],mode:= .panicking [goexitEntry]}) (hcat:kf.catches Tryz.prog=false):
  ((SyC.kid Tryz.prog B C.pro i).im 0 (.w kn .on z) h).R (Gret b l [dcall 155 [.pointer (some ⟨C.wg,0,none⟩)].toArray] todo [kf]):=by
 refine i_unwind Tryz.func155 zK rfl rfl (l1:=[.pointer (some ⟨C.wg,0,none⟩),undef,undef,undef]) rfl ?_;refine D196 ?_;refine i_cal rfl zq zK (addW_c hM hz ?_);refine jfa rfl ?_;refine D12 ?_;refine jlD rfl ?_;refine i_leaveD rfl Tryz.func155 rfl rfl ?_;exact jkp hk hf hres hkf hcat
theorem addZ_c (h0:Y.i=0) (hM:C.n≤4100) {c:Frame} {cs:List Frame} (hitc:(Y.im 0 (.m r .adds got false) h).R (G (c.finish (.tuple #[])) cs)):
  (Y.im 0 (.m r .idle got false) h).R (G (Frame.enter Tryz.prog 153 [.pointer (some ⟨C.wg,0,none⟩),.int .i64 1].toArray .normal) (c::cs)):=by
 refine jdw Tryz.func153 rfl rfl (l:=(.pointer (some ⟨C.wg,0,none⟩))::(.int .i64 1)::uu115) rfl ?_;refine D22 ?_;refine i_if ?_;refine D141 ?_;refine jbC (v:= .bool false) rfl zq zA (jkv zA) ?_;refine D144 ?_;refine D123 ?_;refine jfR jfe rfl zq ?_;refine D12 ?_;refine D18 ?_;refine jjR (args:=[]) rfl zq rfl zA ?_;refine D12 ?_;refine D123 ?_;refine D138 ?_;refine D22 ?_;refine D123 ?_;refine i_ext jjd rfl zq rfl ?_;refine D144 ?_;refine D175 ?_;refine D11 ?_;refine jdx (n':=1) rfl zq zK zA ?_;refine je9 (v:= .int .u64 4294967296) rfl zq (.inl rfl) (op_shl zA zA) ?_;refine D103 ?_;refine jdw Tryz.func199 rfl rfl (l:=(.pointer (some ⟨C.wg,0,none⟩))::(.int .u64 4294967296)::uu8) rfl ?_;refine D123 ?_;refine D138 ?_;refine D175 ?_;refine D11 ?_;refine y_wgAdd h0 hM jkU rfl zq (fun v hv0 hv70=>jcL ?_)
 refine D183 ?_;refine jbV rfl Tryz.func199 (ja6 rfl) ?_;refine jfa rfl ?_;refine D138 ?_;refine D141 ?_;refine jbC (v:= .int .u64 0) rfl zq zA (jd0 ((jb1 v 0 hv70 zO).flag)) ?_;refine D37 ?_;refine D155 ?_;refine D177 ?_;refine D128 ?_;refine D179 ?_;refine D138 ?_;refine D128 ?_;refine D187 ?_;refine D138 ?_;refine D141 ?_;refine i_mv rfl rfl ?_;refine jbC (v:= .bool true) rfl rfl zA (jiN zA) ?_;refine D91 ?_;refine D11 ?_;refine i_mv rfl rfl ?_;refine i_mv rfl rfl ?_;refine jdx (n':=1) rfl rfl zK zA ?_;refine jbC (v:= .bool (decide ((v:Int)=1))) rfl rfl zA (jft rfl) ?_
 by_cases hv1:v=1
 ·rw [decide_eq_true (show (v:Int)=1 by omega)];refine D91 ?_;refine D191 ?_;refine D196 ?_;refine D159 ?_;refine jlV rfl zq ⟨rfl,.inr rfl⟩ jk6.1 jk6.2.1 jk6.2.2 ?_
  refine y_said (.inl rfl) h0 extRead rfl zq (jcL ?_)
  refine D12 ?_;refine D141 ?_;refine D100 ?_;refine D144 ?_;refine D141 ?_;refine D37 ?_;refine D155 ?_;refine D68 ?_;refine D155 ?_;refine D146 ?_;refine D177 ?_;refine D141 ?_;refine D101 ?_;refine D155 ?_;refine D91 ?_;refine D191 ?_;refine ji0 rfl ?_;refine jdW rfl jbZ ?_;refine D85 ?_
  exact hitc
 ·rw [decide_eq_false (show¬(v:Int)=1 by omega)];refine D91 ?_;refine D144 ?_;refine D141 ?_;refine D100 ?_;refine D144 ?_;refine D141 ?_;refine D37 ?_;refine D155 ?_;refine D68 ?_;refine D155 ?_;refine D146 ?_;refine D177 ?_;refine D141 ?_;refine D101 ?_;refine D155 ?_;refine D91 ?_;refine D191 ?_;refine ji0 rfl ?_;refine jdW rfl jbZ ?_;refine D85 ?_
  exact hitc
theorem waitC_c (hM:C.n≤4100) {kk:Nat} {c:Frame} {cs:List Frame} (hitc:(Y.im 0 (.c .done) h).R (G (c.finish (.tuple #[])) cs)):
  (Y.im 0 (.c (.look kk)) h).R (G (Frame.enter Tryz.prog 158 [.pointer (some ⟨C.wg,0,none⟩)].toArray .normal) (c::cs)):=by
 refine jdw Tryz.func158 rfl rfl (l:=(.pointer (some ⟨C.wg,0,none⟩))::uu83) rfl ?_;refine D22 ?_;refine i_if ?_;refine D18 ?_;refine jfR jfe rfl zq ?_;refine D12 ?_;refine jhX ?_;refine jlW (fun nn D' s' h' l'=> ∃kk:Nat,D'=1∧s'= .c (.look kk)∧h=h'∧nn=kk*1∧ ∃U:Nat→Value,l'=((.pointer (some ⟨C.wg,0,none⟩))::vw83 U 1 [])) _ ⟨kk,rfl,rfl,rfl,rfl,exU rfl⟩ ?_;rintro nn _ _ _ _ ⟨kk,rfl,rfl,rfl,rfl,U,rfl⟩ hnext;refine jhX ?_;refine D175 ?_;refine D103 ?_;refine D98 ?_;refine D123 ?_;refine D138 ?_;refine D175 ?_;refine y_wgLoad hM jgG rfl zq (jcL ?_) (fun v hv0 hv70=>jcL ?_)
 ·refine D183 ?_;refine D109 ?_;refine jfa rfl ?_;refine D138 ?_;refine D128 ?_;refine je9 (v:= .int .u64 0) rfl zq (.inr rfl) (jku zA (jb1 0 0 zO zO).hi) ?_;refine jdx rfl zq zK (jb1 0 0 zO zO).hi32 ?_;refine D138 ?_;refine D128 ?_;refine jbC (v:= .int .u64 0) rfl zq zA (jd0 ((jb1 0 0 zO zO).lo)) ?_;refine jdx rfl zq zK (jb1 0 0 zO zO).lo32 ?_;refine D138 ?_;refine D141 ?_;refine jbC (v:= .bool true) rfl zq zA (jft zA) ?_;refine D191 ?_;refine D22 ?_;refine i_if ?_;refine D123 ?_;refine jj6 jbZ rfl zq ?_;refine D12 ?_;refine D196 ?_;refine D111 ?_;refine y_join jhq rfl zq ?_;refine D12 ?_;refine D141 ?_;refine jbC (v:= .bool true) rfl zq zA (jft zA) ?_;refine D11 ?_;refine i_mv rfl rfl ?_;refine jbC (v:= .int .u64 0) rfl rfl zA (jd0 ((jb1 0 0 zO zO).flag)) ?_;refine jbC (v:= .bool false) rfl rfl zA (jmM zA) ?_;refine D91 ?_;refine D155 ?_;refine D177 ?_;refine ji0 rfl ?_;refine jbV rfl Tryz.func158 (jbS rfl) ?_
  exact hitc
 ·refine D183 ?_;refine D109 ?_;refine jfa rfl ?_;refine D138 ?_;refine D128 ?_;refine D179 ?_;refine D138 ?_;refine D128 ?_;refine D187 ?_;refine D138 ?_;refine D141 ?_;refine jbC (v:= .bool false) rfl zq zA (jft (decide_eq_false zO)) ?_;refine D144 ?_;refine D175 ?_;refine D11 ?_;refine D11 ?_;refine jbC (v:= .int .u64 (wgN v 1)) rfl zq zA (op_add ((jb1 v 0 hv70 zO).wait)) ?_;refine D103 ?_;refine jdw Tryz.func207 rfl rfl (l:=(.pointer (some ⟨C.wg,0,none⟩))::(.int .u64 (wgN v 0))::(.int .u64 (wgN v 1))::uu10) rfl ?_;refine D123 ?_;refine D138 ?_;refine D175 ?_;refine D11 ?_;refine D11 ?_
  refine y_wgCas extCas64 rfl zq (jcL ?_) (fun hk=>jcL ?_)
  ·refine D183 ?_;refine jbV rfl Tryz.func207 (ja6 rfl) ?_;refine jfa rfl ?_;refine D191 ?_;refine D141 ?_;refine i_mv rfl rfl ?_;refine jbC (v:= .bool true) rfl rfl zA (jft zA) ?_;refine D91 ?_;refine D191 ?_;refine D196 ?_;refine D159 ?_;refine jlV rfl zq ⟨rfl,.inr rfl⟩ jk6.1 jk6.2.1 jk6.2.2 ?_
   refine y_saidC (.inr rfl) extWrite rfl zq (jcL ?_)
   refine D12 ?_;refine D123 ?_;refine D138 ?_;refine D141 ?_;refine jbC (v:= .int .u64 0) rfl zq zA (jd0 ((jb1 v 0 hv70 zO).flag)) ?_;refine D37 ?_;refine D11 ?_;refine D27 ?_;refine D177 ?_;refine D175 ?_;refine D11 ?_
   refine y_wgPark extSemW rfl zq (jcL ?_)
   refine D12 ?_;refine D175 ?_;refine D103 ?_;refine D98 ?_;refine D123 ?_;refine D138 ?_;refine D175 ?_
   refine y_wgEnd jgG rfl zq (jcL ?_)
   refine D183 ?_;refine D109 ?_;refine jfa rfl ?_;refine D37 ?_;refine D138 ?_;refine D22 ?_;refine i_if ?_;refine D123 ?_;refine jj6 jbZ rfl zq ?_;refine D12 ?_;refine D196 ?_;refine D111 ?_;refine y_join jhq rfl zq ?_;refine D12 ?_;refine D141 ?_;refine D144 ?_;refine ji0 rfl ?_;refine jbV rfl Tryz.func158 (jbS rfl) ?_
   exact hitc
  ·refine D183 ?_;refine jbV rfl Tryz.func207 (ja6 rfl) ?_;refine jfa rfl ?_;refine D144 ?_;refine ji2 ?_
   exact hnext _ _ _ _ _ zO ⟨kk-1,rfl,rfl,rfl,rfl,exU rfl⟩
end Go.Proofs
namespace Go.Proofs
open Go.Lo
open Go.Conc (G)
set_option maxRecDepth 100000
set_option synthInstance.maxSize 100000
set_option synthInstance.maxHeartbeats 1000000
set_option maxHeartbeats 4000000
variable {B:Array Obj}
variable [LaidO B]
theorem jbt: ∀{xs ys:List Int},xs.length=ys.length→(cmpL xs ys<0↔ja5 xs ys=true)
 |[],[],_=>by simp [cmpL,ja5]
 |[],_::_,h=>by simp at h
 |_::_,[],h=>by simp at h
 |a::r,c::s,h=>by
  have ih:=jbt (xs:=r) (ys:=s) (by simpa using h)
  unfold cmpL ja5
  by_cases e:a=c
  ·subst e
   rw [if_neg zO,if_neg zO,if_pos rfl];exact ih
  ·rw [if_neg e,decide_eq_true_iff];by_cases e1:a<c
   ·rw [if_pos e1];exact ⟨fun _=>e1,fun _=>by decide⟩
   ·rw [if_neg e1,if_pos zO];exact ⟨fun h=>by omega,fun h=>absurd h e1⟩
def ltW (xs ys:List Int):Bool:=decide (xs.length<ys.length)||(decide (xs.length=ys.length)&&ja5 xs ys)
theorem jgk {xs ys:List Int}:ltW xs ys=true↔jdz xs ys:=by simp [ltW,jdz]
def jfi (a:List Int) (ll:List (List Int)):List Int:=ll.foldl (fun o x=>if ltW x o then x else o) a
theorem jhy (a:List Int) (ll:List (List Int)) (k:Nat) (h:k<ll.length):jfi a (ll.take (k+1))=if ltW (ll.getD k []) (jfi a (ll.take k)) then ll.getD k [] else jfi a (ll.take k):=by
 rw [jfi,List.take_add_one,List.getElem?_eq_getElem h,Option.toList_some,List.foldl_append,List.getD_eq_getElem?_getD,List.getElem?_eq_getElem h];rfl
theorem jgQ: ∀(ll:List (List Int)) (a:List Int),jfi a ll∈a::ll∧ ∀x∈a::ll,¬jdz x (jfi a ll)
 |[],a=>⟨by simp [jfi],fun x hx=>by rw [List.mem_singleton.1 hx];exact jjc _⟩
 |y::r,a=>by
  have e:jfi a (y::r)=jfi (if ltW y a then y else a) r:=rfl
  obtain ⟨h1,h2⟩:=jgQ r (if ltW y a then y else a)
  rw [e];by_cases hy:ltW y a=true
  ·rw [if_pos hy] at h1 h2⊢
   refine ⟨List.mem_cons_of_mem _ h1,fun x hx=>?_⟩
   rcases List.mem_cons.1 hx with rfl|hx
   ·exact fun hf=>h2 y zD (jgF (jgk.1 hy) hf)
   ·exact h2 x hx
  ·rw [if_neg hy] at h1 h2⊢
   refine ⟨?_,fun x hx=>?_⟩
   ·rcases List.mem_cons.1 h1 with h1|h1
    ·rw [h1];simp
    ·simp [h1]
   ·rcases List.mem_cons.1 hx with rfl|hx
    ·exact h2 _ zD
    ·rcases List.mem_cons.1 hx with rfl|hx
     ·intro hf
      have e1: ¬jdz x a:=fun hh=>hy (jgk.2 hh)
      rcases jkT x a with rfl|e2|e2
      ·exact h2 x zD hf
      ·exact e1 e2
      ·exact h2 a zD (jgF e2 hf)
     ·exact h2 x (by simp [hx])
def jeU (p:List Int→Prop) (n:Nat) (g:List Int):Prop:=Asc g∧(∀x∈g,0≤x∧x<n)∧p g∧ ∀xs,Asc xs→(∀x∈xs,0≤x∧x<n)→p xs→ ¬jdz xs g
theorem jhk {p:List Int→Prop} {n:Nat} {g g2:List Int} (h:jeU p n g) (h2:jeU p n g2):g=g2:=by
 rcases jkT g g2 with e|e|e
 ·exact e
 ·exact absurd e (h2.2.2.2 g h.1 h.2.1 h.2.2.1)
 ·exact absurd e (h.2.2.2 g2 h2.1 h2.2.1 h2.2.2.1)
theorem clr_all {n s:Nat} (hn:n≤12) (hs:s<2^n):bClr .u64 ((2^n-1:Nat):Int) (s:Int)=((2^n-1-s:Nat):Int):=by
 have h:((List.range 13).all fun n=>(List.range (2^n)).all fun s=>bClr .u64 ((2^n-1:Nat):Int) (s:Int)==((2^n-1-s:Nat):Int))=true:=by kernel_rfl
 have h1:=List.all_eq_true.1 h n (List.mem_range.2 zO)
 simpa using List.all_eq_true.1 h1 s (List.mem_range.2 hs)
theorem jks {n s:Nat} (hs:s<2^n):patN (2^n-1-s) n=(patN s n).map (!·):=by
 rw [patN,patN,List.map_map];refine List.map_congr_left fun i hi=>?_
 rw [List.mem_range] at hi
 have:=Nat.testBit_two_pow_sub_succ hs i
 rw [show 2^n-(s+1)=2^n-1-s by omega] at this
 rw [this];simp [hi]
theorem jjm {b:Tb} {s:Nat} (hs:s<2^(jad b).length):patA (cdT b) (patN (2^(jad b).length-1-s) (jad b).length)≠[]↔jb7 (jaQ (patN s (jad b).length) (cdT b))=true:=by
 rw [jks hs];exact je3 (by rw [jcm,jaD])
theorem callB160:jbg Tryz.prog 160=true:=by kernel_rfl
section
variable {P:Program} {m:Md P B} {ops:Array Oper} {l l':List Value} {S h h' H:Hp} {C:List Value→Hp→Prop} {i:Nat} {kd:Kd} {r:List (Nat×Kd)} {d:Option Tmp} {ty:TypeId} {pos:String} {af:Array Edge} {g:Option (Nat×Bool)}
omit [LaidO B] in
theorem jni {t u:TypeId} {x y:Operand} {a b:Int} {k:IntKind} (v:Int) (ho:ops[i]?=some ⟨d,.binOp .andNot t x y u,ty,pos,af,g⟩) (hw:Wt ops l g) [KHeap kd S h H] [ex:OpV l x (.int k a)] [ey:OpV l y (.int k b)] (hv:bClr k a b=v) [PutV l d (.int k v) l'] (n:RegK m S ops r l' h C):RegK m S ops ((i,kd)::r) l h C:=
 RegK.rd (v:= .int k v) ho hw (jaF ex.eq ey.eq zD (op_clr hv)) n
end
theorem f160_c (m:Md Tryz.prog B) (h:Hp) {p:Option Addr} {n c:Nat} {xs:List Int} (rd:RdS B h 1 (.slice p n c) n (ints xs)) (hn:n≤1000000) {p2:Option Addr} {n2 c2:Nat} {ys:List Int} (rd2:RdS B h 1 (.slice p2 n2 c2) n2 (ints ys)) (hn2:n2≤1000000):FnC m 160 #[.slice p n c,.slice p2 n2 c2] h fun v h'=>h'=h∧IsB (jdz xs ys) v:=by
 have hl:=rd.ilen
 have hl2:=rd2.ilen
 refine jae Tryz.func160 rfl rfl (l:=(.slice p n c)::(.slice p2 n2 c2)::uu21) rfl ?_
 intro cf cs K hK
 refine D139 ?_;refine jbw [(0,.free),(1,.free),(2,.free),(3,.free),(4,.free),(5,.free),(6,.free),(7,.free),(8,.free),(9,.free),(10,.free),(11,.free),(12,.free),(13,.free),(14,.free),(15,.free),(16,.free),(17,.free),(18,.free)] zK zK ?_;refine Z4 ?_
 refine jaq rfl zq (fun hc=>?_) (fun hc=>?_)
 ·refine Z12 ?_;refine D21 ?_;refine D117 ?_;refine jac (h) rfl Tryz.func160 rfl jaa ?_;refine D5 ?_
  refine ⟨rfl,?_⟩
  unfold jdz
  first
   |exact IsB.yes (.inl zO)
   |exact E29
   |exact E30
   |exact E31
 ·refine Z2 ?_;refine k_len rfl rfl ?_;refine Zs ?_;refine k_len rfl rfl ?_
  refine jaM rfl rfl (fun hc=>?_) (fun hc=>?_)
  ·refine Z3 ?_;refine jak (Post:=fun v=>v= .int .i64 (cmpL xs ys)) rfl rfl zK (fun H' hH=>f210_c m H' (rd.keeps (sq hH)) hn (rd2.keeps (sq hH))) ?_
   rintro v rfl;refine D7 ?_
   refine jaq rfl rfl (fun hc=>?_) (fun hc=>?_);all_goals
    refine D66 ?_;refine D10 ?_;refine D117 ?_;refine jac (h) rfl Tryz.func160 rfl jaa ?_;refine D5 ?_
    refine ⟨rfl,?_⟩
    unfold jdz
    first
     |exact IsB.yes (.inl zO)
     |exact E29
     |exact E30
     |exact E31
  ·refine Z5 ?_;refine D48 ?_;refine D10 ?_;refine D117 ?_;refine jac (h) rfl Tryz.func160 rfl jaa ?_;refine D5 ?_
   refine ⟨rfl,?_⟩
   unfold jdz
   first
    |exact IsB.yes (.inl zO)
    |exact E29
    |exact E30
    |exact E31
theorem f159_c (m:Md Tryz.prog B) (h:Hp) {p:Option Addr} {c:Nat} {vs:List Value} {ll:List (List Int)} (rdv:RdS B h 1 (.slice p ll.length c) ll.length vs) (rde:RdE B h vs ll) (hn:ll.length≤10000) (hl: ∀l∈ll,l.length≤1000) {ap:Option Addr} {ac:Nat} {a:List Int} (ra:RdS B h 1 (.slice ap a.length ac) a.length (ints a)) (hal:a.length≤1000):
  FnC m 159 #[.func (.func 160) #[] #[],.slice ap a.length ac,.slice p ll.length c] h fun v h'=>h'=h∧RdI B h v (jfi a ll):=by
 refine jae Tryz.func159 rfl rfl (l:=(.func (.func 160) #[] #[])::(.slice ap a.length ac)::(.slice p ll.length c)::uu19) rfl ?_
 intro cf cs K hK
 refine D139 ?_;refine rs3 ?_;refine Z3 ?_;refine D143 ?_
 refine jam (fun nn l h'=> ∃(k:Nat) (gp:Option Addr) (gc:Nat) (w:List Int),nn=ll.length-k∧(k≤ll.length)∧(w=jfi a (ll.take k))∧(RdS B h 1 (.slice gp w.length gc) w.length (ints w))∧(w.length≤1000)∧(∃U:Nat→Value,l=((.func (.func 160) #[] #[])::(.slice gp w.length gc)::(.slice p ll.length c)::vw6 U 3 ((.slice p ll.length c)::(.int .i64 (ll.length:Int))::(.int .i64 (k:Int))::vw10 U 12 [])))∧h=h') _ ⟨0,ap,ac,a,rfl,by omega,by rw [List.take_zero];rfl,ra,hal,exU rfl,rfl⟩ ?_;rintro nn l h' ⟨k,gp,gc,w,rfl,hk,hw,hwr,hwl,⟨U,rfl⟩,rfl⟩ hnext;refine rs1 ?_;refine jaq rfl zq (fun hc=>?_) (fun hc=>?_)
 ·refine D156 ?_
  obtain ⟨rb,ro,hrp⟩:=rdv.ptr zO
  have rdv':=rdv
  rw [hrp] at rdv'
  obtain ⟨ep,ec,ee,er⟩:=rde.2 k zO
  have hlk:(ll.getD k []).length≤1000:=hl _ (jmR.2 ⟨k,by omega,rfl⟩)
  refine rr3 ?_;refine D108 ?_;refine k_ld (v:= .slice ep (ll.getD k []).length ec) rfl zq (by rw [←ee];exact rdv'.vat k zO zO) ?_;refine D0 ?_;refine D181 ?_;refine jeC (Post:=fun v=>IsB (jdz (ll.getD k []) w) v) rfl zq callB160 (fun H' hH=>by
   have h1:=f160_c m H' (er.keeps (sq hH)) zO (hwr.keeps (sq hH)) zO
   simpa using h1) ?_
  rintro v (⟨hc,rfl⟩|⟨hc,rfl⟩);refine D7 ?_;refine D121 ?_;refine D167 ?_;refine D0 ?_
  rotate_left
  refine D7 ?_;refine D119 ?_
  all_goals
   refine D126 ?_
  ·exact m.weak jaa (hnext _ _ _ zO ⟨k+1,gp,gc,w,rfl,by omega,by rw [jhy _ _ _ zO,←hw,if_neg (fun e=>hc (jgk.1 e))],hwr,hwl,exU rfl,rfl⟩)
  ·exact m.weak jaa (hnext _ _ _ zO ⟨k+1,ep,ec,ll.getD k [],rfl,by omega,by rw [jhy _ _ _ zO,←hw,if_pos (jgk.2 hc)],er,hlk,exU rfl,rfl⟩)
 ·refine D137 ?_;refine D165 ?_;refine jac (h) rfl Tryz.func159 rfl jaa ?_;refine D5 ?_
  obtain rfl:k=ll.length:=by omega
  rw [List.take_of_length_le zO] at hw
  rw [←hw];exact ⟨rfl,gp,gc,rfl,hwr⟩
theorem f105_c (m:Md Tryz.prog B) (h:Hp) {b:Tb} {q:Nat} {tv:List Value} (sh:Sheet B h b q tv) {qx:Nat} (rx:Rd B h ⟨qx,0,none⟩ (.pointer (some ⟨q,0,none⟩))) {s:Nat} (hs:s<2^(jad b).length):FnC m 105 #[.int .u64 (s:Int),.pointer (some ⟨qx,0,none⟩)] h fun v h'=>h'=h∧IsB (¬jb7 (jaQ (patN s (jad b).length) (cdT b))=true) v:=by
 have h12:=sh.twelve
 obtain ⟨pc,cc,hcv,hcc,hcr⟩:=sh.cells
 have hs2:2^(jad b).length-1-s<4096:=by
  have:=Nat.pow_le_pow_right (show 0<2 by omega) h12
  omega
 refine jae Tryz.func105 rfl rfl (l:=(.int .u64 (s:Int))::(.pointer (some ⟨qx,0,none⟩))::uu13) rfl ?_
 intro cf cs K hK
 refine D139 ?_;refine jaz [(7,.pure),(0,.read),(1,.read),(2,.pure),(3,.pure),(4,.read),(5,.pure),(6,.keep),(8,.pure),(9,.keep),(10,.pure),(11,.pure)] zK zK (List.Sublist.refl _) ?_;refine Zs ?_;refine D113 ?_;refine D113 ?_
 refine jai rfl zq ?_;refine Zs ?_;refine D73 ?_;refine Zs ?_;refine jak (Post:=fun v=>v= .int .u64 ((2^(jad b).length-1:Nat):Int)) rfl zq zK (fun H' hH=>f106_c m H' _ h12) ?_
 rintro v rfl;refine D7 ?_;refine jni ((2^(jad b).length-1-s:Nat):Int) rfl zq (clr_all h12 hs) ?_;refine jak (Post:=fun v=>IsB _ v) rfl zq zK (fun H' hH=>f104_c m H' (sh.keeps (sq hH)) hs2) ?_
 rintro v (⟨hc,rfl⟩|⟨hc,rfl⟩);refine D7 ?_;refine D63 ?_
 rotate_left
 refine D7 ?_;refine D64 ?_
 all_goals
  refine D117 ?_;refine jac (h) rfl Tryz.func105 rfl jaa ?_;refine D5 ?_
  first|exact ⟨rfl,IsB.no fun e=>e ((jjm hs).1 hc)⟩|exact ⟨rfl,IsB.yes fun e=>hc ((jjm hs).2 e)⟩
end Go.Proofs
