/- A part of the proof of a law. Condition of each theorem: as its statement says. -/
import Derived.Test.YtggpepeiedkbbaaGreatDoorVK9
import Derived.Sort.Walk0
set_option linter.all false
variable {P:Go.Program} {B:Array Go.Obj} {S h H h' X Y Z:Go.Lo.Hp} {ops:Array Go.Oper} {r:List (Nat×Go.Lo.Kd)} {kd:Go.Lo.Kd} {l p xs ys wr ms o:List Int} {l' l'' jx:List Go.Value} {C:List Go.Value→Go.Lo.Hp→Prop} {i n k j ns ks nw cw nb cb most:Nat} {d:Option Go.Tmp} {ty t u:Go.TypeId} {pos:String} {af:Array Go.Edge} {y:Go.Operand} {ls:List Go.Lo.Ln} {f s:Go.Lo.Str} {p2 ps pw pb pw' pb' wp pl p1 ps2 pw2 pb2:Option Go.Addr} {v ma mc:Int} {L M:List (List Int×List Int)}
set_option maxHeartbeats 4000000
set_option maxRecDepth 100000
set_option synthInstance.maxHeartbeats 1000000
set_option synthInstance.maxSize 100000
namespace Go.Lo
open Go.Conc
theorem str_app (s t:List UInt8):(⟨s.toArray⟩:ByteArray)++⟨t.toArray⟩=⟨(s++t).toArray⟩:=by
 apply ByteArray.ext
 simp
section
variable {m:Md P B} {l l' l'':List Value} {g:Option (Nat×Bool)}
theorem joi {x:Operand} {a b:ByteArray} {p q:List UInt8} (ho:ops[i]?=some ⟨d,.binOp .add t x y u,ty,pos,af,g⟩) (hw:Wt ops l g) [KHeap kd S h H] [ex:OpV l x (.string a)] [ey:OpV l y (.string b)] [pa:SV a p] [pb:SV b q] (hr:p.length+q.length≤9223372036854775807) [PutV l d (str (p++q)) l']
  (n:RegK m S ops r l' h C):RegK m S ops ((i,kd)::r) l h C:=
 RegK.rd (v:=str (p++q)) ho hw (jir ex.eq ey.eq zS (by
  rw [pa.eq,pb.eq];show Op.stringOp .add _ _=_
  unfold Op.stringOp
  have: ¬(((⟨p.toArray⟩:ByteArray).size+(⟨q.toArray⟩:ByteArray).size:Nat):Int)>IntKind.i64.max:=by
   rw [show IntKind.i64.max=9223372036854775807 by decide];simp only [ByteArray.size,List.size_toArray]
   omega
  simp only [if_neg this,str_app]
  rfl)) n
end
end Go.Lo
namespace Go.Proofs
open Go.Lo
open Go.Conc (G)
section
variable {m:Md P B} {l l':List Value} {g:Option (Nat×Bool)}
theorem k_neqBF {x:Operand} {a c:Bool} (ho:ops[i]?=some ⟨d,.binOp .neq t x y u,ty,pos,af,g⟩) (hw:Wt ops l g) (hb:P.underlying t=some .bool) [KHeap kd S h H] [ex:OpV l x (.bool a)] [ey:OpV l y (.bool c)] (e:a=c) [PutV l d (.bool false) l'] (q:RegK m S ops r l' h C):RegK m S ops ((i,kd)::r) l h C:=
 RegK.rd (v:= .bool false) ho hw (by
  subst e
  simp only [execOp,ex.eq,ey.eq]
  refine Reads.value (Reads.bind (a:=()) (Reads.pure _) ?_)
  show Reads P B (Op.equal t (.bool a) (.bool a)>>=fun b=>pure (Value.bool !b)) H _
  have:=jeo (P:=P) (B:=B) (H:=H) hb a a
  rw [beq_self_eq_true] at this
  exact Reads.bind this (Reads.pure _)) q
end
end Go.Proofs
namespace Go.Lo
open Go.Conc (G)
section
end
section
variable {m:Md P B} {l l' l'':List Value} {g:Option (Nat×Bool)}
theorem k_eqlC {x:Operand} {a b a' b':Int} {c c':Bool} (ho:ops[i]?=some ⟨d,.binOp .eql t x y u,ty,pos,af,g⟩) (hw:Wt ops l g) [kh:KHeap kd S h H] [ex:OpV l x (.agg [.bool c,.int .i64 a,.int .i64 b].toArray)] [ey:OpV l y (.agg [.bool c',.int .i64 a',.int .i64 b'].toArray)] [KeyCT P t]
  (hg:P.eqGuardType P.depth t=false) [pt:PutV l d (.bool true) l'] [pf:PutV l d (.bool false) l''] (yes:c=c'∧a=a'∧b=b'→RegK m S ops r l' h C) (no: ¬(c=c'∧a=a'∧b=b')→RegK m S ops r l'' h C):RegK m S ops ((i,kd)::r) l h C:=by
 have he:=jgj (P:=P) (B:=B) (h:=H) 9997 (t:=t) c c' a b a' b'
 by_cases hx:c=c'∧a=a'∧b=b'
 ·have e2:(c==c'&&(a==a'&&b==b'))=true:=by simp [hx]
  rw [e2] at he
  exact jjX ho hw hg he (yes hx)
 ·have e2:(c==c'&&(a==a'&&b==b'))=false:=by simpa using hx
  rw [e2] at he
  exact jjX ho hw hg he (no hx)
end
end Go.Lo
namespace Go.Lo
section
variable {b:Tb}
end
theorem jhO {bt:Bool} {c:Ce}:c∈jqv n bt i↔c.butt=bt∧c.line=i∧0≤c.st∧c.st<n:=by
 simp only [jqv,gR,gT]
 constructor
 ·rintro ⟨j,hj,rfl⟩;exact ⟨rfl,rfl,by simp only;omega,by simp only;omega⟩
 ·rintro ⟨h1,h2,h3,h4⟩;obtain ⟨cb,cl,cs⟩:=c
  simp only at h1 h2 h3 h4
  subst h1
  subst h2
  exact ⟨cs.toNat,by omega,by congr 1;omega⟩
theorem jfo (n:Nat) (bt:Bool) (i:Nat):(jqv n bt i).Nodup:=by
 unfold List.Nodup
 rw [jqv,Gi];exact (List.nodup_range (n:=n)).imp fun h e=>h (by have:=congrArg Ce.st e;simp only at this;omega)
theorem jkE (n:Nat):(jdD n).Nodup:=by
 rw [jdD,VB,VB,VB];refine ⟨⟨jfo ..,jfo ..,?_⟩,⟨jfo ..,jfo ..,?_⟩,?_⟩
 ·rintro x hx y hy rfl;rw [jhO] at hx hy
  omega
 ·rintro x hx y hy rfl;rw [jhO] at hx hy
  omega
 ·rintro x hx y hy rfl;rw [gQ,jhO,jhO] at hx hy
  rcases hx with hx|hx<;>rcases hy with hy|hy<;>rw [hx.1] at hy<;>cases hy.1
theorem jmz (b:Tb):(jaa b).Nodup:=by rw [jcc];exact (jkE _).filter _
theorem jrC {b:Tb} (k:TbOk b) {c:Ce} (h:c∈jaa b):ja2 (jbU b c)=true:=by
 obtain ⟨h1,h2⟩:=jbS h
 have:=((k.lines c.butt).ok _ (jdR h1)).fig _ (jrD k h1)
 rw [jbu,GR,decide_eq_true_eq] at this
 exact this.resolve_right h2
theorem jh4 (ls:List Ln) (i k:Nat) (f:Str):(jji ls i k f).length=ls.length:=by simp [jji]
theorem updL_at (hi:i<ls.length) (j:Nat):(jji ls i k f).getD j default=if j=i then {ls.getD i default with figs:=(ls.getD i default).figs.set k f} else ls.getD j default:=by
 rw [jji,gC,vT];by_cases e:i=j
 ·subst e
  simp [hi]
 ·rw [if_neg e,if_neg (fun h=>e h.symm),gC]
theorem jnN (b:Tb) (c:Ce) (f:Str) (bt:Bool):(jaO (jbl b c f) bt).length=(jaO b bt).length:=by
 rw [jcv];split<;>simp [jh4]
theorem jnO (b:Tb) (c:Ce) (f:Str) (d:Ce):jcn (jbl b c f) d=jcn b d:=by
 simp only [jcn,jnN,jdm]
theorem jlC {b:Tb} {c:Ce} (hc:jcn b c=true) (d:Ce) (hd:jcn b d=true):jbg (jbl b c f) d=if d.butt=c.butt∧d.line=c.line then {jbg b c with figs:=(jbg b c).figs.set c.st.toNat f} else jbg b d:=by
 have h1:=jcR.1 hc
 have h2:=jcR.1 hd
 rw [jbg,jcv];by_cases hb:d.butt=c.butt
 ·rw [if_pos hb,hb,updL_at zO];by_cases hl:d.line=c.line
  ·rw [if_pos (by rw [hl]),if_pos ⟨rfl,hl⟩];rfl
  ·rw [if_neg zO,if_neg (fun e=>hl e.2),jbg,hb]
 ·rw [if_neg hb,if_neg (fun e=>hb e.1)];rfl
theorem setF_lat {b:Tb} {c:Ce} (hc:jcn b c=true) {d:Ce} (hd:jcn b d=true):(jbg (jbl b c f) d).lat=(jbg b d).lat:=by
 rw [jlC hc d hd];split
 ·rename_i h
  simp only [jbg,h.1,h.2]
 ·rfl
theorem jnP {b:Tb} (k:TbOk b) {c:Ce} (hc:jcn b c=true) {d:Ce} (hd:jcn b d=true):jbU (jbl b c f) d=if d=c then f else jbU b d:=by
 have h1:=jcR.1 hc
 have h2:=jcR.1 hd
 have hlen:=((k.lines c.butt).ok _ (jdR hc)).len
 rw [jbU,jlC hc d hd];by_cases h:d.butt=c.butt∧d.line=c.line
 ·rw [if_pos h];simp only
  rw [gC,vT];have hlt:jbg b d=jbg b c:=by simp only [jbg,h.1,h.2]
  by_cases e:c.st.toNat=d.st.toNat
  ·rw [if_pos e,if_pos zO];have:d=c:=by cases d;cases c;simp only at h e h1 h2⊢;obtain ⟨rfl,rfl⟩:=h;congr 1;omega
   rw [if_pos this];rfl
  ·have:d≠c:=fun x=>e (by rw [x])
   rw [if_neg e,if_neg this,jbU,hlt,gC]
 ·have:d≠c:=fun x=>h ⟨by rw [x],by rw [x]⟩
  rw [if_neg h,if_neg this,jbU]
theorem joW {b:Tb} (k:TbOk b) {c:Ce} (hc:jcn b c=true):jaa (jbl b c f)=(jdD b.sts.length).filter fun d=>jcn b d&&decide ((if d=c then f else jbU b d)≠jdZ):=by
 rw [jcc,jdm];refine vK fun d _=>?_
 rw [keepC',jnO];cases hd:jcn b d with
 |false=>rfl
 |true=>rw [jnP k hc hd]
theorem jil {b:Tb} (k:TbOk b) {c:Ce} (hc:jcn b c=true):jaa (jbl b c jdZ)=(jaa b).filter fun d=>decide (d≠c):=by
 rw [joW k hc,jcc,VK];refine vK fun d _=>?_
 rw [keepC'];by_cases e:d=c
 ·subst e
  simp
 ·rw [if_neg e];simp [e]
theorem jqn {b:Tb} (k:TbOk b) {c:Ce} (hc:jcn b c=true) {d:Ce} (hd:jcn b d=true) (hne:d≠c):jd2 (jbl b c f) d=jd2 b d:=by
 simp only [jd2,setF_lat hc hd,jnP k hc hd,if_neg hne]
theorem jp2 (l:List Nat) (i:Nat) (x:Nat) (hi:i<l.length):(l.set i x).sum+l.getD i 0=l.sum+x:=by
 induction l generalizing i with
 |nil=>simp at hi
 |cons a l ih=>
  cases i with
  |zero=>simp;omega
  |succ i=>
   have:=ih i (by simpa using hi)
   simp only [List.set_cons_succ,vH,xY]
   omega
theorem updL_smu (hi:i<ls.length) (hk:k<(ls.getD i default).figs.length):jeN (jji ls i k f)+jdM ((ls.getD i default).figs.getD k [])=jeN ls+jdM f:=by
 have e1:jeN (jji ls i k f)=((ls.map jeU).set i (jeU {ls.getD i default with figs:=(ls.getD i default).figs.set k f})).sum:=by
  rw [jeN,jji,vf]
 have e2:=jp2 (ls.map jeU) i (jeU {ls.getD i default with figs:=(ls.getD i default).figs.set k f}) (by simpa using hi)
 have e3:(ls.map jeU).getD i 0=jeU (ls.getD i default):=by
  rw [gC,gX,gD hi,gC,gD hi];rfl
 have e4:jeU {ls.getD i default with figs:=(ls.getD i default).figs.set k f}=(((ls.getD i default).figs.map jdM).set k (jdM f)).sum:=by
  rw [jeU,vf]
 have e5:=jp2 ((ls.getD i default).figs.map jdM) k (jdM f) (by simpa using hk)
 have e6:((ls.getD i default).figs.map jdM).getD k 0=jdM ((ls.getD i default).figs.getD k []):=by
  generalize (ls.getD i default).figs=gg at hk⊢
  rw [gC,gX,gD hk,gC,gD hk];rfl
 have e7:jeU (ls.getD i default)=((ls.getD i default).figs.map jdM).sum:=rfl
 have e8:jeN ls=(ls.map jeU).sum:=rfl
 omega
theorem jpT (k:LsOk n ls) (hi:i<ls.length) (hf:jbu f=true):LsOk n (jji ls i j f):=by
 have hmem:ls.getD i default∈ls:=jaj hi
 have ho:=k.ok _ hmem
 refine ⟨by rw [jh4];exact k.two,fun l hl=>?_,?_⟩
 ·rcases VC hl with hl|rfl
  ·exact k.ok l hl
  ·refine ⟨ho.lat,by simpa using ho.len,fun g hg=>?_⟩
   rcases VC hg with hg|rfl
   ·exact ho.fig g hg
   ·exact hf
 ·have:(jji ls i j f).map (·.lat)=ls.map (·.lat):=by
   rw [jji,vf];refine Ga zS fun a h1 h2=>?_
   rw [xG];split
   ·rename_i e
    subst e
    rw [VF,gC,gD hi];rfl
   ·rfl
  have h1:((jji ls i j f).map (·.lat)).Pairwise (· < ·):=by rw [this,Gi];exact k.up
  rwa [Gi] at h1
theorem jqm {b:Tb} (k:TbOk b) {c:Ce} (hc:jcn b c=true) (hf:jbu f=true) (hs:jeN b.waters+jeN b.butts+jdM f≤2+jdM (jbU b c)):TbOk (jbl b c f):=by
 have h1:=jcR.1 hc
 have hlen:=((k.lines c.butt).ok _ (jdR hc)).len
 have hsm:=updL_smu (ls:=jaO b c.butt) (i:=c.line.toNat) (k:=c.st.toNat) (f:=f) zO (by rw [jbg] at hlen;omega)
 have hfe:jdM (((jaO b c.butt).getD c.line.toNat default).figs.getD c.st.toNat [])=jdM (jbU b c):=rfl
 refine ⟨by simpa using k.wrong,by simpa using k.n1,by simpa using k.n3,by simpa using k.names,?_,?_,?_⟩
 ·have:(jbl b c f).waters=jaO (jbl b c f) false:=rfl
  rw [this,jcv,jdm];split
  ·rename_i e
   exact jpT k.waters (by
   have h3:c.line<((jaO b false).length:Int):=by rw [e];exact h1.2.1
   have h4:(jaO b false).length=b.waters.length:=rfl
   show c.line.toNat<b.waters.length
   omega) hf
  ·exact k.waters
 ·have:(jbl b c f).butts=jaO (jbl b c f) true:=rfl
  rw [this,jcv,jdm];split
  ·rename_i e
   exact jpT k.butts (by
   have h3:c.line<((jaO b true).length:Int):=by rw [e];exact h1.2.1
   have h4:(jaO b true).length=b.butts.length:=rfl
   show c.line.toNat<b.butts.length
   omega) hf
  ·exact k.butts
 ·have e1:(jbl b c f).waters=jaO (jbl b c f) false:=rfl
  have e2:(jbl b c f).butts=jaO (jbl b c f) true:=rfl
  rw [e1,e2,jcv,jcv];cases hb:c.butt with
  |false=>
   rw [hb] at hsm hfe
   rw [if_pos rfl,if_neg zS];have:jeN (jaO b false)=jeN b.waters:=rfl
   have:jeN (jaO b true)=jeN b.butts:=rfl
   omega
  |true=>
   rw [hb] at hsm hfe
   rw [if_neg zS,if_pos rfl];have:jeN (jaO b false)=jeN b.waters:=rfl
   have:jeN (jaO b true)=jeN b.butts:=rfl
   omega
theorem jqd:jdM jdZ=0:=by decide
theorem jpl:jbu jdZ=true:=by decide
theorem jlB {b:Tb} (k:TbOk b) {c:Ce} (hc:jcn b c=true):TbOk (jbl b c jdZ):=jqm k hc jpl (by rw [jqd];have:=k.smu;omega)
end Go.Lo
namespace Go.Proofs
open Go.Lo
open Go.Conc (G)
section
theorem jc4 (xs:List Int) (k:Nat) (h:k<xs.length):xs.drop k=xs.getD k 0::xs.drop (k+1):=by
 rw [vN h,gC,gD h];rfl
theorem f107_c (m:Md Tryz.prog B) (h:Hp) {p:Option Addr} {c n2 c2:Nat} (rd:RdS B h 1 (.slice p n c) n (jav xs)) (hn:n≤1000000) (rd2:RdS B h 1 (.slice p2 n2 c2) n2 (jav ys)):FnC m 107 #[.slice p n c,.slice p2 n2 c2] h fun v h'=>h'=h∧IsB (jbn xs ys=true) v:=by
 have hl:=rd.ilen
 have hl2:=rd2.ilen
 refine jae Tryz.func107 rfl rfl (l:=(.slice p n c)::(.slice p2 n2 c2)::uu39) rfl ?_
 intro cf cs K hK
 refine Z10 ?_
 refine jag (fun nn l h'=> ∃(k:Nat),nn=n-k∧(k≤n)∧(k≤n2)∧(jbn xs ys=jbn (xs.drop k) (ys.drop k))∧(∃U:Nat→Value,l=((.slice p n c)::(.slice p2 n2 c2)::(U 2)::(U 3)::(U 4)::(.int .i64 (k:Int))::(U 6)::vw34 U 7 []))∧h=h') _ ⟨0,rfl,by omega,by omega,rfl,exU rfl,rfl⟩ ?_;rintro nn l h' ⟨k,rfl,hk,hk2,he,⟨U,rfl⟩,rfl⟩ hnext;refine Z6 ?_
 refine jam rfl zq (fun hc=>?_) (fun hc=>?_)
 ·refine Z3 ?_;refine jkO rfl rfl ?_
  refine jam rfl rfl (fun hc=>?_) (fun hc=>?_)
  ·refine Z7 ?_;refine jaq [Zp 0,Zp 1,Zp 2,Zp 4,Zp 5,Zp 6,Zr 3,Zr 7,Zp 8] zK zK (gE _) ?_;refine Z2 ?_
   obtain ⟨rd_b,rd_o,rfl⟩:=rd.ptr zO
   refine D6 ?_;refine Z2 ?_
   obtain ⟨rd2_b,rd2_o,rfl⟩:=rd2.ptr zO
   refine D6 ?_;refine jaN rfl zq (rd.iat k zO zO) ?_;refine jaN rfl zq (rd2.iat k zO zO) ?_
   refine jaI rfl zq (fun hc=>?_) (fun hc=>?_)
   ·refine Z3 ?_;refine jaq [Zp 0,Zp 1,Zp 2,Zp 4,Zp 5,Zp 6,Zr 3,Zr 7,Zp 8,Zp 9] zK zK (gE _) ?_;refine Z2 ?_;refine D6 ?_;refine Z2 ?_;refine D6 ?_;refine jaN rfl zq (rd.iat k zO zO) ?_;refine jaN rfl zq (rd2.iat k zO zO) ?_
    refine jam rfl zq (fun hc=>?_) (fun hc=>?_)
    ·refine Z3 ?_;refine jac (h) rfl Tryz.func107 rfl jab ?_;refine Zs ?_
     exact ⟨rfl,IsB.yes (by rw [he,jc4 xs k zO,jc4 ys k zO,jbn,if_neg zD];exact decide_eq_true zD)⟩
    ·refine Z3 ?_;refine jac (h) rfl Tryz.func107 rfl jab ?_;refine Zs ?_
     exact ⟨rfl,IsB.no (by rw [he,jc4 xs k zO,jc4 ys k zO,jbn,if_neg zD];rw [decide_eq_true_iff];omega)⟩
   ·refine Z9 ?_
    exact m.weak jab (hnext _ _ _ zO ⟨k+1,rfl,by omega,by omega,by
     rw [he,jc4 xs k zO,jc4 ys k zO,jbn,if_pos zD],exU rfl,rfl⟩)
  ·refine Z10 ?_
   refine jam rfl zq (fun hc=>?_) (fun hc=>?_);all_goals
    refine Z3 ?_;refine jac (h) rfl Tryz.func107 rfl jab ?_;refine Zs ?_
    exact E83
 ·refine Z15 ?_
  refine jam rfl zq (fun hc=>?_) (fun hc=>?_);all_goals
   refine Z3 ?_;refine jac (h) rfl Tryz.func107 rfl jab ?_;refine Zs ?_
   exact E83
theorem f48_c (m:Md Tryz.prog B) (h:Hp) {p:Option Addr} {c n2 c2:Nat} (rd:RdS B h 1 (.slice p n c) n (jav xs)) (hn:n≤1000000) (rd2:RdS B h 1 (.slice p2 n2 c2) n2 (jav ys)):FnC m 48 #[.slice p n c,.slice p2 n2 c2] h fun v h'=>h'=h∧IsB (jdh xs ys) v:=by
 have hl:=rd.ilen
 have hl2:=rd2.ilen
 refine jae Tryz.func48 rfl rfl (l:=[.slice p n c,.slice p2 n2 c2,undef,undef,undef,undef,undef,undef,undef,undef,undef,undef,undef,undef,undef,undef,undef,undef,undef,undef,undef,undef]) rfl ?_
 intro cf cs K hK
 refine Z5 ?_;refine jbm [Zf 0,Zf 1,Zf 2,Zf 3,Zf 4,Zf 5,Zf 6,Zf 7,Zf 8,Zf 9,Zf 10,Zf 11,Zf 12,Zf 13,Zf 14,Zf 15,Zf 16,Zf 17] zK zK ?_;refine Z4 ?_
 refine jam rfl zq (fun hc=>?_) (fun hc=>?_)
 ·refine Z15 ?_;refine jac (h) rfl Tryz.func48 rfl jab ?_;refine Zs ?_
  unfold jdh
  rw [hl,hl2];exact E85
 ·refine Z2 ?_;refine jkO rfl rfl ?_;refine Zs ?_;refine jkO rfl rfl ?_
  refine jaE rfl rfl (fun hc=>?_) (fun hc=>?_)
  ·refine Z3 ?_;refine jaf (Post:=fun v=>IsB _ v) rfl rfl zK (fun H' hH=>f107_c m H' (rd.keeps hH) hn (rd2.keeps hH)) ?_
   rintro v (⟨hc,rfl⟩|⟨hc,rfl⟩);all_goals
    refine Z6 ?_;refine jac (h) rfl Tryz.func48 rfl jab ?_;refine Zs ?_
    unfold jdh
    rw [hl,hl2];exact E85
  ·refine Z9 ?_;refine jac (h) rfl Tryz.func48 rfl jab ?_;refine Zs ?_
   unfold jdh
   rw [hl,hl2];exact E85
end
section
variable [LaidO B]
def idxC (l:List Ce) (c:Ce):Int:=if l.findIdx (fun x=>decide (x=c))<l.length then (l.findIdx (fun x=>decide (x=c)):Int) else-1
theorem idx_hit {l:List Ce} {c:Ce} (hi:i<l.length) (h:l.getD i default=c) (hn: ∀j,j<i→l.getD j default≠c):idxC l c=(i:Int):=by
 have e:l.findIdx (fun x=>decide (x=c))=i:=by
  rw [List.findIdx_eq hi];refine ⟨?_,fun j hj=>?_⟩
  ·rw [gC,gD hi] at h
   simpa using h
  ·have:=hn j hj
   rw [gC,gD zO] at this
   simpa using this
 rw [idxC,e,if_pos hi]
theorem idx_none {l:List Ce} {c:Ce} (hn: ∀j,j<l.length→l.getD j default≠c):idxC l c= -1:=by
 rw [idxC,if_neg];intro h
 have h1:=List.findIdx_getElem (w:=h)
 have h2:=hn _ h
 rw [gC,gD h] at h2
 exact h2 (of_decide_eq_true h1)
theorem cells_le {b:Tb} (rd:RdTb B h b ps ns ks pw nw cw pb nb cb):(jaa b).length≤21:=by
 rw [←jh0];exact jr6 b zO zO (by rw [rd.sl];exact rd.n3) zO
theorem f51_c (m:Md Tryz.prog B) (h:Hp) {b:Tb} (rd:RdTb B h b ps ns ks pw nw cw pb nb cb) (c:Ce):FnC m 51 #[tbV b ps ns ks pw nw cw pb nb cb,cV c.butt c.line c.st] h fun v h'=>h'=h∧v= .int .i64 (idxC (jaa b) c):=by
 refine jae Tryz.func51 rfl rfl (l:=[tbV b ps ns ks pw nw cw pb nb cb,cV c.butt c.line c.st,undef,undef,undef,undef,undef,undef,undef,undef,undef,undef,undef,undef,undef,undef,undef,undef,undef,undef,undef,undef]) rfl ?_
 intro cf cs K hK
 refine Z2 ?_
 refine jaA rfl zq (fun q1=>jao (jad ?_));refine jaA rfl zq (fun q3=>jao (jad ?_));refine Z5 ?_;refine jax rfl zq zK (Post:=fun w new=>OwnS 37 3 w (jaa b).length (jaC (jaa b)) new) (fun H' hH=>f26_c m H' (rd.keeps (sq hH))) ?_
 rintro w n5 o5;refine jaz (jad ?_);obtain ⟨p5,c5,rfl,hc5,r5⟩:=jas (B:=B) o5
 have hcl:=cells_le rd
 refine Z8 ?_
 refine jag (fun nn l h'=> ∃(i:Nat),nn=(jaa b).length-i∧(i≤(jaa b).length)∧(∀j,j<i→(jaa b).getD j default≠c)∧(∃U:Nat→Value,l=((tbV b ps ns ks pw nw cw pb nb cb)::(cV c.butt c.line c.st)::(U 2)::(.pointer (some ⟨q3,0,none⟩))::(U 4)::(.slice p5 (jaa b).length c5)::(.int .i64 (i:Int))::vw15 U 7 []))∧h++[⟨true,q1,.cells (tbL b ps ns ks pw nw cw pb nb cb).toArray 25 (0,0)⟩,⟨true,q3,.cells [.bool c.butt,.int .i64 c.line,.int .i64 c.st].toArray 37 (0,0)⟩]++n5=h') _ ⟨0,rfl,by omega,fun j hj=>absurd hj zO,exU rfl,rfl⟩ ?_;rintro nn l h' ⟨i,rfl,hi,hno,⟨U,rfl⟩,rfl⟩ hnext;refine Z6 ?_
 refine jam rfl zq (fun hc=>?_) (fun hc=>?_)
 ·refine Z6 ?_
  obtain ⟨b5,o5_,rfl⟩:=r5.ptr zO
  refine jaq [Zp 0,Zp 1,Zp 2,Zr 3,Zr 4,Zp 5] zK zK (gE _) ?_;refine Z2 ?_;refine D8 ?_;refine jb4 (vs:=[.bool ((jaa b).getD i default).butt,.int .i64 ((jaa b).getD i default).line,.int .i64 ((jaa b).getD i default).st]) rfl zq rfl (r5.eat i zO zO) ?_;refine Zs ?_;refine k_eqlC rfl zq zK (fun hc=>?_) (fun hc=>?_)
  ·refine Z8 ?_;refine jac (h) rfl Tryz.func51 rfl jab ?_;refine Zs ?_
   exact ⟨rfl,by rw [idx_hit (i:=i) zO (by obtain ⟨e1,e2,e3⟩:=hc;cases hx:(jaa b).getD i default;cases c;simp_all) hno]⟩
  ·refine Z9 ?_
   exact m.weak jab (hnext _ _ _ zO ⟨i+1,rfl,by omega,fun j hj=>by
    by_cases e:j<i
    ·exact hno j e
    ·obtain rfl:j=i:=by omega
     exact fun e2=>hc (by rw [e2];exact ⟨rfl,rfl,rfl⟩),exU rfl,rfl⟩)
 ·refine Z8 ?_;refine jac (h) rfl Tryz.func51 rfl jab ?_;refine Zs ?_
  exact ⟨rfl,by rw [idx_none fun j hj=>hno j zO]⟩
end
section
variable [LaidO B]
def jfA (b:Tb) (c:Ce):Int:=if tbS b≠0 then tbS b else if c∉jaa b then 6 else 0
end
section
variable [LaidO B]
theorem jcu {s:Int} {b:Tb} {new new':Hp} {v:Value} (t:jmE B s b new v) (k:new.Sublist new'):jmE B s b new' v:=by
 obtain ⟨x0,y1,z1,w1,y2,z2,w2,y3,z3,w3,rfl,h1,h2⟩:=t
 refine ⟨x0,y1,z1,w1,y2,z2,w2,y3,z3,w3,rfl,h1,fun e=>?_⟩
 obtain ⟨ps,ns,ks,pw,nw,cw,pb,nb,cb,e1,e2⟩:=h2 e
 exact ⟨ps,ns,ks,pw,nw,cw,pb,nb,cb,e1,e2.keeps k⟩
theorem f75_c (m:Md Tryz.prog B) (h:Hp) {b:Tb} (ra:RawTb B h b ps ns ks pw nw cw pb nb cb) (c:Ce):FnC m 75 #[tbV b ps ns ks pw nw cw pb nb cb,cV c.butt c.line c.st] h fun v h'=> ∃new,h'=h++new∧jmE B (jfA b c) (jbl b c jdZ) new v:=by
 refine jae Tryz.func75 rfl rfl (l:=(tbV b ps ns ks pw nw cw pb nb cb)::(cV c.butt c.line c.st)::uu24) rfl ?_
 intro cf cs K hK
 refine Z2 ?_
 refine jaA rfl zq (fun q2=>jao (jad ?_));refine jaA rfl zq (fun q3=>jao (jad ?_));refine jay rfl zq (fun q4=>jao (jad ?_));refine Z6 ?_;refine D44 ?_
 rintro v rfl;refine Z6 ?_
 refine jaI rfl zq (fun hc=>?_) (fun hc=>?_)
 ·refine Z4 ?_;refine D30 ?_;refine Zs ?_;refine jdP ?_;refine jac (h) rfl Tryz.func75 rfl jab ?_;refine Zs ?_
  have e1:jfA b c=tbS b:=by rw [jfA,if_pos hc]
  exact ⟨[],by simp,by rw [e1];exact jcP hc⟩
 ·refine Z5 ?_
  have hz0:tbS b=0:=by omega
  have hk:=jbf.1 hz0
  refine jbi [0,1,2,3,4,5] zK zK (gE _) ?_;refine DrawT.leaf [Zr 0,Zr 2,Zk 1,Zk 3,Zk 4,Zp 5] zK ?_;refine Z2 ?_;refine D5 ?_;rintro v nz ⟨qs,rfl,rfl⟩;refine jaz (jad ?_);refine D13 ?_
  rintro v n9 ⟨q9,rfl,sh⟩;refine jaz (jad ?_);refine jfF (Post:=fun v=>v= .int .i64 (jgX b c)) rfl zq jk5 (fun H' hH=>by
   have hs9:n9.Sublist H':=Gb zW hH
   simpa [jgX] using f149_c m H' (sh.keeps hs9) (c:=c) (RdN.keepsN (jkA (q:=qs)) hH)) ?_
  rintro v rfl;refine Z6 ?_
  refine jaI rfl zq (fun hc=>?_) (fun hc=>?_)
  ·refine Z4 ?_;refine D30 ?_;refine Zs ?_;refine jdP ?_;refine jac (h) rfl Tryz.func75 rfl jab ?_;refine Zs ?_
   have hno:c∉jaa b:=fun e=>by
    have hcc:=hc
    rw [jgX,if_pos e] at hcc
    exact hcc rfl
   have e1:jfA b c=6:=by rw [jfA,if_neg (fun e=>e hz0),if_pos hno]
   exact ⟨[],by simp,by rw [e1,jgX,if_neg hno];exact jcP zA⟩
  ·refine Z4 ?_
   have hin:c∈jaa b:=gt fun e=>by
    have hcc:=hc
    rw [jgX,if_neg e] at hcc
    omega
   have hht:=(jbS hin).1
   have rd:=ra.rd hk
   have e0:jfA b c=0:=by rw [jfA,if_neg (fun e=>e hz0),if_neg (fun e=>e hin)]
   refine Z3 ?_;refine jax rfl zq zK (Post:=fun v nz=> ∃ps' ks' pw' cw' pb' cb',v=tbV (jbl b c jdZ) ps' ns ks' pw' nw cw' pb' nb cb'∧RawTb B nz (jbl b c jdZ) ps' ns ks' pw' nw cw' pb' nb cb') (fun H' hH=>CallF.mono (f112_c m H' (rd.keeps (sq hH)) hht jdZ zA) fun v h' ⟨nz,p1,k1,p2,k2,p3,k3,e1,e2,e3⟩=>⟨nz,e1,p1,k1,p2,k2,p3,k3,e2,e3⟩) ?_
   rintro v n37 ⟨p1,k1,p2,k2,p3,k3,rfl,ra2⟩;refine jaz (jad ?_);refine jdP ?_;refine jac (h++n37) rfl Tryz.func75 rfl jab ?_;refine Zs ?_
   exact ⟨n37,rfl,_,_,_,_,_,_,_,_,_,_,by rw [e0],fun e=>absurd e0 e,fun _=>⟨_,_,_,_,_,_,_,_,_,rfl,ra2⟩⟩
end
end Go.Proofs
namespace Go.Proofs
open Go.Lo
section
variable {b:Tb}
theorem jrY (hi:i<(jaa b).length) (hj:j<(jaa b).length) (e:(jaa b).getD i default=(jaa b).getD j default):i=j:=by
 rw [gC,gD hi,gC,gD hj] at e
 simp only [gu] at e
 have u:=List.pairwise_iff_getElem.1 (jmz b)
 rcases vR i j with h|h|h
 ·exact absurd e (u i j hi hj h)
 ·exact h
 ·exact absurd e.symm (u j i hj hi h)
end
def jda (b:Tb) (l:List Int):Nat→Tb
 |0=>b
 |k+1=>if (k:Int)∈l then jda b l k else jbl (jda b l k) ((jaa b).getD k default) jdZ
def jkG (b:Tb) (l:List Int):Tb:=jda b l (jaa b).length
def jjt (b:Tb) (l:List Int) (k:Nat) (d:Ce):Bool:=(List.range k).all fun (i:Nat)=>decide ((i:Int)∈l)||decide (d≠(jaa b).getD i default)
theorem jq2 {b:Tb} {d:Ce}:jjt b l k d=true↔ ∀i,i<k→(i:Int)∈l∨d≠(jaa b).getD i default:=by
 unfold jjt
 rw [gZ];constructor
 ·intro h i hi
  have:=h i (gT.2 hi)
  simpa using this
 ·intro h i hi
  simpa using h i (gT.1 hi)
theorem jeu {b:Tb} (ok:TbOk b) (l:List Int): ∀k,k≤(jaa b).length→TbOk (jda b l k)∧(∀d,jcn (jda b l k) d=jcn b d)∧(jda b l k).sts=b.sts∧(jda b l k).wrong=b.wrong∧(jaa (jda b l k)=(jaa b).filter (jjt b l k))∧(∀d,jcn b d=true→jjt b l k d=true→jd2 (jda b l k) d=jd2 b d)∧(∀bt,(jaO (jda b l k) bt).length=(jaO b bt).length)
 |0,_=>⟨ok,fun _=>rfl,rfl,rfl,by
   rw [Va.2 fun d _=>by simp [jjt]];rfl,fun _ _ _=>rfl,fun _=>rfl⟩
 |k+1,hk=>by
  obtain ⟨h1,h2,h3,h4,h5,h6,h7⟩:=jeu ok l k zO
  have hc:=(jeF (b:=b) (i:=k) zO).1
  have hsucc: ∀d,jjt b l (k+1) d=(jjt b l k d&&(decide ((k:Int)∈l)||decide (d≠(jaa b).getD k default))):=fun d=>by
   unfold jjt
   rw [GV,List.all_append];simp
  unfold jda
  by_cases e:(k:Int)∈l
  ·rw [if_pos e];refine ⟨h1,h2,h3,h4,?_,?_,h7⟩
   ·rw [h5];exact vK fun d _=>by rw [hsucc];simp [e]
   ·intro d hd hl
    refine h6 d hd ?_
    rw [hsucc] at hl
    simp only [gL] at hl
    exact hl.1
  ·rw [if_neg e];have hc':jcn (jda b l k) ((jaa b).getD k default)=true:=by rw [h2];exact hc
   refine ⟨jlB h1 hc',fun d=>by rw [jnO,h2],(jdm _ _ _).1.trans h3,(jdm _ _ _).2.trans h4,?_,?_,fun bt=>(jnN _ _ _ _).trans (h7 bt)⟩
   ·rw [jil h1 hc',h5,VK];refine vK fun d _=>?_
    rw [hsucc];simp [e,Bool.and_comm]
   ·intro d hd hl
    rw [hsucc] at hl
    simp only [gL,GR,decide_eq_true_eq] at hl
    have hne:d≠(jaa b).getD k default:=by
     rcases hl.2 with h|h
     ·exact absurd h e
     ·exact h
    rw [jqn h1 hc' (by rw [h2];exact hd) hne];exact h6 d hd hl.1
theorem jeB {α:Type} (q:α→Bool): ∀L:List α,L.filter q=jbe (L.map q) L
 |[]=>rfl
 |a::L=>by
  rw [Gt,gx];cases h:q a with
  |true=>simp [jbe,jeB q L]
  |false=>simp [jbe,jeB q L]
theorem jiw {α β:Type} (f:α→β): ∀(p:List Bool) (L:List α),(jbe p L).map f=jbe p (L.map f)
 |[],L=>by cases L<;>rfl
 |b::p,[]=>by cases b<;>rfl
 |true::p,a::L=>by simp [jbe,jiw f p L]
 |false::p,a::L=>by simp [jbe,jiw f p L]
theorem jqW {α β:Type} [Inhabited α] (f:α→β) (L:List α):L.map f=(List.range L.length).map fun i=>f (L.getD i default):=by
 apply Ga
 ·simp
 ·intro i h1 h2
  have hi:i<L.length:=by simpa using h1
  simp [gC,gD hi]
theorem cdT_only {b:Tb} (ok:TbOk b) (hl: ∀z∈l,0≤z):cdT (jkG b l)=jbe (jdw (jbN l) (jaa b).length) (cdT b):=by
 obtain ⟨_,_,_,_,h5,h6,_⟩:=jeu ok l _ (gM _)
 have e1:(jaa b).map (jjt b l (jaa b).length)=jdw (jbN l) (jaa b).length:=by
  rw [jqW,jdw];refine GP fun i hi=>?_
  have hi':=gT.1 hi
  rw [jbQ hl,Vd,jq2,decide_eq_true_eq];constructor
  ·intro h
   rcases h i hi' with h|h
   ·exact h
   ·exact absurd rfl h
  ·intro h j hj
   by_cases e:j=i
   ·subst e
    exact .inl h
   ·exact .inr fun g=>e (jrY hj hi' g.symm)
 unfold jkG
 rw [cdT,h5,jeB,e1,cdT,←jiw];refine GP fun d hd=>?_
 have hm:d∈(jaa b).filter (jjt b l (jaa b).length):=by rw [jeB,e1];exact hd
 rw [ga] at hm
 exact h6 d (jbS hm.1).1 hm.2
theorem only_ok {b:Tb} (ok:TbOk b) (l:List Int):TbOk (jkG b l):=(jeu ok l _ (gM _)).1
theorem joU {b:Tb} (ok:TbOk b) (hl: ∀z∈l,0≤z):jbt (cdT (jkG b l))=jbt (jbe (jdw (jbN l) (jaa b).length) (cdT b)):=by rw [cdT_only ok hl]
end Go.Proofs
namespace Go.Proofs
open Go.Lo
open Go.Conc (G)
section
variable [LaidO B]
section
variable {m:Md P B} {l l' l'':List Value} {g:Option (Nat×Bool)}
theorem k_neqC {x:Operand} {a b a' b':Int} {c c':Bool} (ho:ops[i]?=some ⟨d,.binOp .neq t x y u,ty,pos,af,g⟩) (hw:Wt ops l g) [kh:KHeap kd S h H] [ex:OpV l x (.agg [.bool c,.int .i64 a,.int .i64 b].toArray)] [ey:OpV l y (.agg [.bool c',.int .i64 a',.int .i64 b'].toArray)] [KeyCT P t]
  (hg:P.eqGuardType P.depth t=false) [pt:PutV l d (.bool true) l'] [pf:PutV l d (.bool false) l''] (yes: ¬(c=c'∧a=a'∧b=b')→RegK m S ops r l' h C) (no:(c=c'∧a=a'∧b=b')→RegK m S ops r l'' h C):RegK m S ops ((i,kd)::r) l h C:=by
 have he:=jgj (P:=P) (B:=B) (h:=H) 9997 (t:=t) c c' a b a' b'
 by_cases hx:c=c'∧a=a'∧b=b'
 ·have e2:(c==c'&&(a==a'&&b==b'))=true:=by simp [hx]
  rw [e2] at he
  haveI:PutV l d (.bool !true) l'':=pf
  exact jl7 ho hw hg he (no hx)
 ·have e2:(c==c'&&(a==a'&&b==b'))=false:=by simpa using hx
  rw [e2] at he
  haveI:PutV l d (.bool !false) l':=pt
  exact jl7 ho hw hg he (yes hx)
end
section
variable {b:Tb}
theorem jrB {lps:List Lp} (hn:1≤n) (k:LsOk n ls) (e:lps.map (·.ln)=ls) (hf: ∀x∈lps,x.ln.figs.length≤x.c∧(0<x.ln.figs.length→RdS B h 1 (.slice x.p x.ln.figs.length x.c) x.ln.figs.length (jaC x.ln.figs))): ∀x∈lps,x.ln.figs.length≤x.c∧RdS B h 1 (.slice x.p x.ln.figs.length x.c) x.ln.figs.length (jaC x.ln.figs):=fun x hx=>by
 have hm:x.ln∈ls:=e▸gR.2 ⟨x,hx,rfl⟩
 have:=(k.ok _ hm).len
 exact ⟨(hf x hx).1,(hf x hx).2 zO⟩
theorem f33_r (m:Md Tryz.prog B) (h:Hp) (ra:RawTb B h b ps ns ks pw nw cw pb nb cb) (k:TbOk b) {c:Ce} (hc:jcn b c=true) (f:Str) (hf:f.length≤100000):FnC m 33 #[tbV b ps ns ks pw nw cw pb nb cb,cV c.butt c.line c.st,str f] h fun v h'=> ∃nz,h'=h++nz∧ ∃pw' cw' pb' cb',v=tbV (jbl b c f) ps ns ks pw' nw cw' pb' nb cb'∧RdLn B nz (.slice pw' nw cw') nw (jbl b c f).waters∧RdLn B nz (.slice pb' nb cb') nb (jbl b c f).butts:=by
 obtain ⟨lw,hlw,rlw,hfw⟩:=ra.w
 obtain ⟨lb,hlb,rlb,hfb⟩:=ra.u
 have hn1:=k.n1
 have hsl:=ra.s.elen zA
 have hfw':=jrB hn1 k.waters hlw hfw
 have hfb':=jrB hn1 k.butts hlb hfb
 have hh:=jcR.1 hc
 have hll:jaO b c.butt=(if c.butt then lb else lw).map (·.ln):=by unfold jaO;split;exact hlb.symm;exact hlw.symm
 have hlen:((if c.butt then lb else lw).length:Int)=((jaO b c.butt).length:Int):=by rw [hll,gN]
 have hfl:((if c.butt then lb else lw).getD c.line.toNat default).ln.figs.length=b.sts.length:=by
  have e1:(jbg b c)=((if c.butt then lb else lw).getD c.line.toNat default).ln:=by
   rw [jbg,hll,ja5 _ _ zO]
  rw [←e1];exact ((k.lines c.butt).ok _ (jdR hc)).len
 refine CallF.mono (f33_c m h (b:=b) rlw rlb ra.wn ra.un hfw' hfb' (by rw [hlw];exact fun l hl=>(ra.sm.wat l hl).1) (by rw [hlb];exact fun l hl=>(ra.sm.but l hl).1) c.butt c.line c.st f hh.1 (by rw [hlen];exact hh.2.1) hh.2.2.1 (by rw [hfl];exact hh.2.2.2)) ?_
 rintro v h' ⟨nz,pw',cw',pb',cb',e1,e2,e3,e4⟩;refine ⟨nz,e1,pw',cw',pb',cb',by rw [e2,tbV,tbV,tbL,tbL,setF_wrong],?_,?_⟩
 ·rw [hlw] at e3
  unfold jbl
  cases hb:c.butt
  ·rw [hb] at e3
   exact e3
  ·rw [hb] at e3
   exact e3
 ·rw [hlb] at e4
  unfold jbl
  cases hb:c.butt
  ·rw [hb] at e4
   exact e4
  ·rw [hb] at e4
   exact e4
theorem jer {nz:Hp} {cw':Nat} {cb':Nat} (ra:RawTb B h b ps ns ks pw nw cw pb nb cb) (sm:TbSm b) {c:Ce} (hf:f.length≤100000) (e1:RdLn B nz (.slice pw' nw cw') nw (jbl b c f).waters) (e2:RdLn B nz (.slice pb' nb cb') nb (jbl b c f).butts) (s1:h.Sublist H) (s2:nz.Sublist H):RawTb B H (jbl b c f) ps ns ks pw' nw cw' pb' nb cb':=
 ⟨by rw [(jdm b c f).1];exact ra.s.keeps s1,ra.sc,ra.sn,e1.keeps s2,ra.wn,e2.keeps s2,ra.un,jql sm hf⟩
end
end
section
variable [LaidO B]
theorem has_in {b:Tb} {c:Ce} (h:jcn b c=true):0≤c.line∧c.line<(jaO b c.butt).length:=by
 have:=(jgw (b:=b) (bt:=c.butt) (li:=c.line) (st:=c.st)).1 h
 omega
theorem risesL_iff {la lc:Int}:jlL la lc ma mc=true↔la=lc∨(ma≤mc↔la<lc)∨ma=mc:=by
 unfold jlL
 by_cases h1:la=lc<;>by_cases h2:ma≤mc<;>by_cases h3:la<lc<;>by_cases h4:ma=mc<;>simp [h1,h2,h3,h4]<;>omega
theorem risesX_iff {la lc:Int}:jjN la lc ma mc=true↔(mc<la∧ma≥lc)∨(¬mc<la∧(mc=la∨ma≤lc)):=by
 unfold jjN
 split
 ·simp
  omega
 ·simp
  omega
theorem f177n_c (m:Md Tryz.prog B) (h:Hp) {b:Tb} (rd:RdTb B h b ps ns ks pw nw cw pb nb cb) {a c:Ce} (ha:jcn b a=true) (hcc:jcn b c=true) (hn:a.butt=c.butt∨a.butt=false) (ma mc:Int):FnC m 177 #[tbV b ps ns ks pw nw cw pb nb cb,cV a.butt a.line a.st,cV c.butt c.line c.st,.int .i64 ma,.int .i64 mc] h fun v h'=>h'=h∧v= .bool (jaw b a c ma mc):=by
 have ha0:=has_in ha
 have hc0:=has_in hcc
 refine jae Tryz.func177 rfl rfl (l:=[tbV b ps ns ks pw nw cw pb nb cb,cV a.butt a.line a.st,cV c.butt c.line c.st,.int .i64 ma,.int .i64 mc,undef,undef,undef,undef,undef,undef,undef,undef,undef,undef,undef,undef,undef,undef,undef,undef,undef,undef,undef,undef,undef,undef,undef,undef,undef,undef,undef,undef,undef,undef,undef,undef,undef,undef,undef,undef,undef,undef,undef,undef,undef,undef,undef,undef,undef,undef,undef,undef,undef,undef,undef,undef,undef,undef,undef,undef,undef,undef,undef,undef,undef,undef,undef,undef,undef]) rfl ?_
 intro cf cs K hK
 refine Z2 ?_
 refine jaA rfl zq (fun q5=>jao (jad ?_));refine jaA rfl zq (fun q6=>jao (jad ?_));refine jaA rfl zq (fun q7=>jao (jad ?_));refine Z9 ?_
 refine jaI rfl zq (fun hc=>?_) (fun hc=>?_)
 ·refine Z7 ?_;refine jac (h) rfl Tryz.func177 rfl jab ?_;refine Zs ?_
  refine ⟨rfl,congrArg Value.bool ?_⟩
  first
   |exact absurd hbb zA
   |(rw [jaw,if_pos zD];done)
   |(rw [jaw,if_neg (fun e=>e zD)]
     first
      |(rw [if_pos (show a.butt=c.butt from hbt),←hx1,←hx2];exact E58)
      |(rw [if_neg (show¬a.butt=c.butt from hbt),if_neg (gY.1 zD),←hx1,←hx2];exact E60))
 ·refine Z4 ?_;refine jaq [Zr 0,Zr 1,Zr 4,Zr 5,Zk 2,Zp 3,Zk 6,Zp 7,Zp 8,Zp 9] zK zK (gE _) ?_;refine Z4 ?_;refine jaf (Post:=fun v=> ∃x:Lp,v=lpV x∧x.ln=jbg b a) rfl zq zK (fun H' hH=>CallF.mono (f94_c m (sq hH) rd (st:=a.st) (has_in ha).1 (has_in ha).2) fun v h' ⟨e,x,e1,e2,_⟩=>⟨e,x,e1,e2⟩) ?_
  rintro v ⟨x1,rfl,hx1⟩;refine Zs ?_;refine jhK rfl zq ?_;refine jaf (Post:=fun v=> ∃x:Lp,v=lpV x∧x.ln=jbg b c) rfl zq zK (fun H' hH=>CallF.mono (f94_c m (sq hH) rd (st:=c.st) (has_in hcc).1 (has_in hcc).2) fun v h' ⟨e,x,e1,e2,_⟩=>⟨e,x,e1,e2⟩) ?_
  rintro v ⟨x2,rfl,hx2⟩;refine Zs ?_;refine jhK rfl zq ?_;refine Z10 ?_
  refine jdS rfl zq zK (fun hbt=>?_) (fun hbt=>?_)
  ·refine Z3 ?_;refine jbm [Zf 0,Zf 1,Zf 2,Zf 3,Zf 4,Zf 5,Zf 6,Zf 7,Zf 8,Zf 9,Zf 10,Zf 11,Zf 12,Zf 13,Zf 14,Zf 15,Zf 16,Zf 17] zK zK ?_;refine Z2 ?_
   refine jaE rfl zq (fun hc=>?_) (fun hc=>?_)
   ·refine Z17 ?_;refine jac (h) rfl Tryz.func177 rfl jab ?_;refine Zs ?_
    refine ⟨rfl,congrArg Value.bool ?_⟩
    first
     |exact absurd hbb zA
     |(rw [jaw,if_pos zD];done)
     |(rw [jaw,if_neg (fun e=>e zD)]
       first
        |(rw [if_pos (show a.butt=c.butt from hbt),←hx1,←hx2];exact E58)
        |(rw [if_neg (show¬a.butt=c.butt from hbt),if_neg (gY.1 zD),←hx1,←hx2];exact E60))
   ·refine Z3 ?_
    refine jcB rfl rfl (fun hc=>?_) (fun hc=>?_);all_goals
     refine Z2 ?_
     refine jam rfl rfl (fun hc=>?_) (fun hc=>?_);all_goals
      refine jdS rfl rfl zK (fun hbb=>?_) (fun hbb=>?_)
      ·refine Z9 ?_;refine jac (h) rfl Tryz.func177 rfl jab ?_;refine Zs ?_
       refine ⟨rfl,congrArg Value.bool ?_⟩
       first
        |exact absurd hbb zA
        |(rw [jaw,if_pos zD];done)
        |(rw [jaw,if_neg (fun e=>e zD)]
          first
           |(rw [if_pos (show a.butt=c.butt from hbt),←hx1,←hx2];exact E58)
           |(rw [if_neg (show¬a.butt=c.butt from hbt),if_neg (gY.1 zD),←hx1,←hx2];exact E60))
      ·refine Z4 ?_
       refine jaE rfl rfl (fun hc=>?_) (fun hc=>?_);all_goals
        refine Z4 ?_;refine jac (h) rfl Tryz.func177 rfl jab ?_;refine Zs ?_
        refine ⟨rfl,congrArg Value.bool ?_⟩
        first
         |exact absurd hbb zA
         |(rw [jaw,if_pos zD];done)
         |(rw [jaw,if_neg (fun e=>e zD)]
           first
            |(rw [if_pos (show a.butt=c.butt from hbt),←hx1,←hx2];exact E58)
            |(rw [if_neg (show¬a.butt=c.butt from hbt),if_neg (gY.1 zD),←hx1,←hx2];exact E60))
  ·refine Z9 ?_
   refine jcl (fun hc=>?_) (fun hc=>?_)
   ·first|replace hc:=of_decide_eq_true hc|replace hc:=of_decide_eq_false hc|skip
    refine Zs ?_
    exact E37
   ·first|replace hc:=of_decide_eq_true hc|replace hc:=of_decide_eq_false hc|skip
    refine Z6 ?_
    refine jam rfl zq (fun hc=>?_) (fun hc=>?_)
    ·refine Z6 ?_
     refine jdH rfl zq (fun hc=>?_) (fun hc=>?_);all_goals
      refine Z3 ?_;refine jac (h) rfl Tryz.func177 rfl jab ?_;refine Zs ?_
      refine ⟨rfl,congrArg Value.bool ?_⟩
      first
       |exact absurd hbb zA
       |(rw [jaw,if_pos zD];done)
       |(rw [jaw,if_neg (fun e=>e zD)]
         first
          |(rw [if_pos (show a.butt=c.butt from hbt),←hx1,←hx2];exact E58)
          |(rw [if_neg (show¬a.butt=c.butt from hbt),if_neg (gY.1 zD),←hx1,←hx2];exact E60))
    ·refine Z7 ?_
     refine jaE rfl zq (fun hc=>?_) (fun hc=>?_)
     ·refine Z8 ?_;refine jac (h) rfl Tryz.func177 rfl jab ?_;refine Zs ?_
      refine ⟨rfl,congrArg Value.bool ?_⟩
      first
       |exact absurd hbb zA
       |(rw [jaw,if_pos zD];done)
       |(rw [jaw,if_neg (fun e=>e zD)]
         first
          |(rw [if_pos (show a.butt=c.butt from hbt),←hx1,←hx2];exact E58)
          |(rw [if_neg (show¬a.butt=c.butt from hbt),if_neg (gY.1 zD),←hx1,←hx2];exact E60))
     ·refine Z3 ?_
      refine jcB rfl rfl (fun hc=>?_) (fun hc=>?_);all_goals
       refine Z4 ?_;refine jac (h) rfl Tryz.func177 rfl jab ?_;refine Zs ?_
       refine ⟨rfl,congrArg Value.bool ?_⟩
       first
        |exact absurd hbb zA
        |(rw [jaw,if_pos zD];done)
        |(rw [jaw,if_neg (fun e=>e zD)]
          first
           |(rw [if_pos (show a.butt=c.butt from hbt),←hx1,←hx2];exact E58)
           |(rw [if_neg (show¬a.butt=c.butt from hbt),if_neg (gY.1 zD),←hx1,←hx2];exact E60))
theorem rises_turn {b:Tb} {a c:Ce} (hst:a.st=c.st) (hbt:a.butt≠c.butt) (ha:a.butt=true):jaw b c a mc ma=jaw b a c ma mc:=by
 have hc:c.butt=false:=by cases e:c.butt;rfl;rw [ha,e] at hbt;exact absurd rfl hbt
 simp [jaw,hst,ha,hc]
theorem f177_c (m:Md Tryz.prog B) (h:Hp) {b:Tb} (rd:RdTb B h b ps ns ks pw nw cw pb nb cb) {a c:Ce} (ha:jcn b a=true) (hcc:jcn b c=true) (ma mc:Int):FnC m 177 #[tbV b ps ns ks pw nw cw pb nb cb,cV a.butt a.line a.st,cV c.butt c.line c.st,.int .i64 ma,.int .i64 mc] h fun v h'=>h'=h∧v= .bool (jaw b a c ma mc):=by
 have ha0:=has_in ha
 have hc0:=has_in hcc
 refine jae Tryz.func177 rfl rfl (l:=[tbV b ps ns ks pw nw cw pb nb cb,cV a.butt a.line a.st,cV c.butt c.line c.st,.int .i64 ma,.int .i64 mc,undef,undef,undef,undef,undef,undef,undef,undef,undef,undef,undef,undef,undef,undef,undef,undef,undef,undef,undef,undef,undef,undef,undef,undef,undef,undef,undef,undef,undef,undef,undef,undef,undef,undef,undef,undef,undef,undef,undef,undef,undef,undef,undef,undef,undef,undef,undef,undef,undef,undef,undef,undef,undef,undef,undef,undef,undef,undef,undef,undef,undef,undef,undef,undef,undef]) rfl ?_
 intro cf cs K hK
 refine Z2 ?_
 refine jaA rfl zq (fun q5=>jao (jad ?_));refine jaA rfl zq (fun q6=>jao (jad ?_));refine jaA rfl zq (fun q7=>jao (jad ?_));refine Z9 ?_
 refine jaI rfl zq (fun hc=>?_) (fun hc=>?_)
 ·refine Z7 ?_;refine jac (h) rfl Tryz.func177 rfl jab ?_;refine Zs ?_
  first
   |exact E62
   |(refine ⟨rfl,congrArg Value.bool ?_⟩
     first
      |exact absurd hbb zA
      |(rw [jaw,if_pos zD];done)
      |(rw [jaw,if_neg (fun e=>e zD)]
        first
         |(rw [if_pos (show a.butt=c.butt from hbt),←hx1,←hx2];exact E58)
         |(rw [if_neg (show¬a.butt=c.butt from hbt),if_neg (gY.1 zD),←hx1,←hx2];exact E60)))
 ·refine Z4 ?_;refine jaq [Zr 0,Zr 1,Zr 4,Zr 5,Zk 2,Zp 3,Zk 6,Zp 7,Zp 8,Zp 9] zK zK (gE _) ?_;refine Z4 ?_;refine jaf (Post:=fun v=> ∃x:Lp,v=lpV x∧x.ln=jbg b a) rfl zq zK (fun H' hH=>CallF.mono (f94_c m (sq hH) rd (st:=a.st) (has_in ha).1 (has_in ha).2) fun v h' ⟨e,x,e1,e2,_⟩=>⟨e,x,e1,e2⟩) ?_
  rintro v ⟨x1,rfl,hx1⟩;refine Zs ?_;refine jhK rfl zq ?_;refine jaf (Post:=fun v=> ∃x:Lp,v=lpV x∧x.ln=jbg b c) rfl zq zK (fun H' hH=>CallF.mono (f94_c m (sq hH) rd (st:=c.st) (has_in hcc).1 (has_in hcc).2) fun v h' ⟨e,x,e1,e2,_⟩=>⟨e,x,e1,e2⟩) ?_
  rintro v ⟨x2,rfl,hx2⟩;refine Zs ?_;refine jhK rfl zq ?_;refine Z10 ?_
  refine jdS rfl zq zK (fun hbt=>?_) (fun hbt=>?_)
  ·refine Z3 ?_;refine jbm [Zf 0,Zf 1,Zf 2,Zf 3,Zf 4,Zf 5,Zf 6,Zf 7,Zf 8,Zf 9,Zf 10,Zf 11,Zf 12,Zf 13,Zf 14,Zf 15,Zf 16,Zf 17] zK zK ?_;refine Z2 ?_
   refine jaE rfl zq (fun hc=>?_) (fun hc=>?_)
   ·refine Z17 ?_;refine jac (h) rfl Tryz.func177 rfl jab ?_;refine Zs ?_
    first
     |exact E62
     |(refine ⟨rfl,congrArg Value.bool ?_⟩
       first
        |exact absurd hbb zA
        |(rw [jaw,if_pos zD];done)
        |(rw [jaw,if_neg (fun e=>e zD)]
          first
           |(rw [if_pos (show a.butt=c.butt from hbt),←hx1,←hx2];exact E58)
           |(rw [if_neg (show¬a.butt=c.butt from hbt),if_neg (gY.1 zD),←hx1,←hx2];exact E60)))
   ·refine Z3 ?_
    refine jcB rfl rfl (fun hc=>?_) (fun hc=>?_);all_goals
     refine Z2 ?_
     refine jam rfl rfl (fun hc=>?_) (fun hc=>?_);all_goals
      refine jdS rfl rfl zK (fun hbb=>?_) (fun hbb=>?_)
      ·refine Z9 ?_;refine jac (h) rfl Tryz.func177 rfl jab ?_;refine Zs ?_
       first
        |exact E62
        |(refine ⟨rfl,congrArg Value.bool ?_⟩
          first
           |exact absurd hbb zA
           |(rw [jaw,if_pos zD];done)
           |(rw [jaw,if_neg (fun e=>e zD)]
             first
              |(rw [if_pos (show a.butt=c.butt from hbt),←hx1,←hx2];exact E58)
              |(rw [if_neg (show¬a.butt=c.butt from hbt),if_neg (gY.1 zD),←hx1,←hx2];exact E60)))
      ·refine Z4 ?_
       refine jaE rfl rfl (fun hc=>?_) (fun hc=>?_);all_goals
        refine Z4 ?_;refine jac (h) rfl Tryz.func177 rfl jab ?_;refine Zs ?_
        first
         |exact E62
         |(refine ⟨rfl,congrArg Value.bool ?_⟩
           first
            |exact absurd hbb zA
            |(rw [jaw,if_pos zD];done)
            |(rw [jaw,if_neg (fun e=>e zD)]
              first
               |(rw [if_pos (show a.butt=c.butt from hbt),←hx1,←hx2];exact E58)
               |(rw [if_neg (show¬a.butt=c.butt from hbt),if_neg (gY.1 zD),←hx1,←hx2];exact E60)))
  ·refine Z9 ?_
   refine jcl (fun hc=>?_) (fun hc=>?_)
   ·first|replace hc:=of_decide_eq_true hc|replace hc:=of_decide_eq_false hc|skip
    refine Zs ?_
    have hab:=hc
    refine Z6 ?_;refine jaf (Post:=fun v=>v= .bool (jaw b c a mc ma)) rfl zq zK (fun H' hH=>f177n_c m H' (rd.keeps (sq hH)) hcc ha (.inr (by cases e:c.butt;rfl;rw [hab,e] at hbt;exact absurd rfl hbt)) mc ma) ?_
    rintro v rfl;refine Z4 ?_;refine jac (h) rfl Tryz.func177 rfl jab ?_;refine Zs ?_
    first
     |exact E62
     |(refine ⟨rfl,congrArg Value.bool ?_⟩
       first
        |exact absurd hbb zA
        |(rw [jaw,if_pos zD];done)
        |(rw [jaw,if_neg (fun e=>e zD)]
          first
           |(rw [if_pos (show a.butt=c.butt from hbt),←hx1,←hx2];exact E58)
           |(rw [if_neg (show¬a.butt=c.butt from hbt),if_neg (gY.1 zD),←hx1,←hx2];exact E60)))
   ·first|replace hc:=of_decide_eq_true hc|replace hc:=of_decide_eq_false hc|skip
    refine Z6 ?_
    refine jam rfl zq (fun hc=>?_) (fun hc=>?_)
    ·refine Z6 ?_
     refine jdH rfl zq (fun hc=>?_) (fun hc=>?_);all_goals
      refine Z3 ?_;refine jac (h) rfl Tryz.func177 rfl jab ?_;refine Zs ?_
      first
       |exact E62
       |(refine ⟨rfl,congrArg Value.bool ?_⟩
         first
          |exact absurd hbb zA
          |(rw [jaw,if_pos zD];done)
          |(rw [jaw,if_neg (fun e=>e zD)]
            first
             |(rw [if_pos (show a.butt=c.butt from hbt),←hx1,←hx2];exact E58)
             |(rw [if_neg (show¬a.butt=c.butt from hbt),if_neg (gY.1 zD),←hx1,←hx2];exact E60)))
    ·refine Z7 ?_
     refine jaE rfl zq (fun hc=>?_) (fun hc=>?_)
     ·refine Z8 ?_;refine jac (h) rfl Tryz.func177 rfl jab ?_;refine Zs ?_
      first
       |exact E62
       |(refine ⟨rfl,congrArg Value.bool ?_⟩
         first
          |exact absurd hbb zA
          |(rw [jaw,if_pos zD];done)
          |(rw [jaw,if_neg (fun e=>e zD)]
            first
             |(rw [if_pos (show a.butt=c.butt from hbt),←hx1,←hx2];exact E58)
             |(rw [if_neg (show¬a.butt=c.butt from hbt),if_neg (gY.1 zD),←hx1,←hx2];exact E60)))
     ·refine Z3 ?_
      refine jcB rfl rfl (fun hc=>?_) (fun hc=>?_);all_goals
       refine Z4 ?_;refine jac (h) rfl Tryz.func177 rfl jab ?_;refine Zs ?_
       first
        |exact E62
        |(refine ⟨rfl,congrArg Value.bool ?_⟩
          first
           |exact absurd hbb zA
           |(rw [jaw,if_pos zD];done)
           |(rw [jaw,if_neg (fun e=>e zD)]
             first
              |(rw [if_pos (show a.butt=c.butt from hbt),←hx1,←hx2];exact E58)
              |(rw [if_neg (show¬a.butt=c.butt from hbt),if_neg (gY.1 zD),←hx1,←hx2];exact E60)))
end
end Go.Proofs
namespace Go.Lo
open Go.Proofs
def gp (n b i:Nat):Str:=if b.testBit i then [63] else (jf2 (figN n) 45).getD i []
theorem meaS_in {z:Int} (h:z∈jdN s):0≤z∧z≤959:=by
 unfold jdN at h
 split at h
 ·rw [jjV] at h
  obtain ⟨k,hk,rfl⟩:=gR.1 h
  have:=gT.1 (ga.1 hk).1
  omega
 ·cases h
end Go.Lo
namespace Go.Proofs
open Go.Lo
open Go.Conc (G)
section
variable [LaidO B]
theorem only_yes {b:Tb} (h:(k:Int)∈l):jda b l (k+1)=jda b l k:=by rw [jda,if_pos h]
theorem only_no {b:Tb} (h:(k:Int)∉l):jda b l (k+1)=jbl (jda b l k) ((jaa b).getD k default) jdZ:=by rw [jda,if_neg h]
theorem f46_k (m:Md Tryz.prog B) (H:Hp) {b:Tb} (ra:RawTb B h b ps ns ks pw nw cw pb nb cb) (hs:h.Sublist H) (ok:TbOk b) {p:Option Addr} {c:Nat} (rl:RdS B H 1 (.slice p n c) n (jav xs)) (hn:n≤1000):FnC m 46 #[tbV b ps ns ks pw nw cw pb nb cb,.slice p n c] H fun v h'=> ∃new,h'=H++new∧ ∃pw1 cw1 pb1 cb1,v=tbV (jkG b xs) ps ns ks pw1 nw cw1 pb1 nb cb1∧ ∀H2,h.Sublist H2→new.Sublist H2→RawTb B H2 (jkG b xs) ps ns ks pw1 nw cw1 pb1 nb cb1:=by
 have rd:=(ra.keeps hs).rd ok
 have h12:=ja3 ok
 refine jae Tryz.func46 rfl rfl (l:=(tbV b ps ns ks pw nw cw pb nb cb)::(.slice p n c)::uu26) rfl ?_
 intro cf cs K hK
 refine Z2 ?_
 refine jaA rfl zq (fun q1=>jao (jad ?_));refine jay rfl zq (fun q4=>jao (jad ?_));refine Z2 ?_;refine jaq [Zr 0,Zr 2,Zc 1,Za 3,Zp 4,Zf 5] zK zK (gE _) ?_;refine Z2 ?_;refine jax rfl zq zK (Post:=fun w new=>OwnS 37 3 w (jaa b).length (jaC (jaa b)) new) (fun H' hH=>f26_c _ H' (rd.keeps (sq hH))) ?_
 rintro w n9 o9;refine jaz (jad ?_);obtain ⟨p9,c9,rfl,hc9,r9⟩:=jas (B:=B) o9
 refine jay rfl zq (fun q6=>jao (jad ?_));refine Zs ?_;refine D4 ?_;refine Z7 ?_;refine m.weak (h':=H++[⟨true,q4,.cells [.int .i64 0,.slice none 0 0,.slice none 0 0,.slice none 0 0].toArray 25 (0,0)⟩]++n9++[⟨true,q6,.cells (tbL b ps ns ks pw nw cw pb nb cb).toArray 25 (0,0)⟩]) jab ?_
 refine jag (fun nn l h'=> ∃(k:Nat) (pw1:Option Addr) (cw1:Nat) (pb1:Option Addr) (cb1:Nat) (M:Hp),nn=(jaa b).length-k∧(k≤(jaa b).length)∧(∀H2,h.Sublist H2→M.Sublist H2→RawTb B H2 (jda b xs k) ps ns ks pw1 nw cw1 pb1 nb cb1)∧(∃U:Nat→Value,l=((tbV b ps ns ks pw nw cw pb nb cb)::(.slice p n c)::(U 2)::(U 3)::(.pointer (some ⟨q4,0,none⟩))::(.slice p9 (jaa b).length c9)::(.pointer (some ⟨q6,0,none⟩))::(.int .i64 (k:Int))::vw20 U 8 []))∧H++[⟨true,q4,.cells [.int .i64 0,.slice none 0 0,.slice none 0 0,.slice none 0 0].toArray 25 (0,0)⟩]++n9++[⟨true,q6,.cells (tbL (jda b xs k) ps ns ks pw1 nw cw1 pb1 nb cb1).toArray 25 (0,0)⟩]++M=h') _ ⟨0,pw,cw,pb,cb,[],rfl,by omega,fun H2 e1 _=>ra.keeps e1,exU rfl,(by rw [ge];rfl)⟩ ?_;rintro nn l h' ⟨k,pw1,cw1,pb1,cb1,M,rfl,hk,rk,⟨U,rfl⟩,rfl⟩ hnext;obtain ⟨okk,hhk,hsk,hwk,_,_,_⟩:=jeu ok xs k hk
 refine Z6 ?_
 refine jam rfl zq (fun hc=>?_) (fun hc=>?_)
 ·refine Z9 ?_;refine jaf (Post:=fun v=>IsB _ v) rfl zq zK (fun H' hH=>f35_c m H' _ (rl.keeps (sq hH)) zO) ?_
  rintro v (⟨hc,rfl⟩|⟨hc,rfl⟩);refine Z5 ?_
  rotate_left
  refine Z4 ?_
  have hkl:k<(jaa b).length:=by omega
  obtain ⟨c0,hcx⟩: ∃c0,c0=(jaa b).getD k default:=⟨_,rfl⟩
  have hht:jcn (jda b xs k) c0=true:=by rw [hhk,hcx];exact (jeF hkl).1
  obtain ⟨b9,o9_,rfl⟩:=r9.ptr zO
  refine jaq [Zp 1,Zp 2,Zp 3,Zr 0,Zr 4,Zk 5,Zf 6] zK zK (gE _) ?_;refine Z2 ?_;refine D8 ?_;refine Zs ?_;refine jb4 (vs:=[.bool ((jaa b).getD k default).butt,.int .i64 ((jaa b).getD k default).line,.int .i64 ((jaa b).getD k default).st]) rfl zq rfl (r9.eat k zO zO) ?_;rw [←hcx];refine jax rfl zq zK (Post:=fun v nz=> ∃pw' cw' pb' cb',v=tbV (jbl (jda b xs k) c0 jdZ) ps ns ks pw' nw cw' pb' nb cb'∧RdLn B nz (.slice pw' nw cw') nw (jbl (jda b xs k) c0 jdZ).waters∧RdLn B nz (.slice pb' nb cb') nb (jbl (jda b xs k) c0 jdZ).butts) (fun H' hH=>f33_r m H' (rk H' (hs.trans (sq hH)) (sq hH)) okk hht jdZ zA) ?_;rintro v nzW ⟨pwW,cwW,pbW,cbW,rfl,ewW,ebW⟩;refine jaz (jad ?_);rw [hcx] at ewW ebW
  rw [hcx];refine D4 ?_;refine Zs ?_
  all_goals
   refine Z6 ?_
  ·have hks:=only_no (b:=b) (l:=xs) (k:=k) hc
   rw [←hks];refine m.weak (h':=H++[⟨true,q4,.cells [.int .i64 0,.slice none 0 0,.slice none 0 0,.slice none 0 0].toArray 25 (0,0)⟩]++n9++[⟨true,q6,.cells (tbL (jda b xs (k+1)) ps ns ks pwW nw cwW pbW nb cbW).toArray 25 (0,0)⟩]++(M++nzW)) (by rw [←gI];exact jab) ?_
   exact hnext _ _ _ zO ⟨k+1,pwW,cwW,pbW,cbW,M++nzW,rfl,by omega,by rw [hks];exact fun H2 e1 e2=>jer (rk H2 e1 ((gG _ _).trans e2)) (rk H2 e1 ((gG _ _).trans e2)).sm zA ewW ebW (gE _) ((gK _ _).trans e2),exU rfl,rfl⟩
  ·have hks:=only_yes (b:=b) (l:=xs) (k:=k) hc
   rw [←hks];exact m.weak jab (hnext _ _ _ zO ⟨k+1,pw1,cw1,pb1,cb1,M,rfl,by omega,by rw [hks];exact rk,exU rfl,rfl⟩)
 ·refine Z4 ?_
  obtain rfl:k=(jaa b).length:=by omega
  refine Z2 ?_;refine D4 ?_;refine Z2 ?_;refine jac (H++M) rfl Tryz.func46 rfl jab ?_;refine Zs ?_
  exact ⟨M,rfl,pw1,cw1,pb1,cb1,rfl,rk⟩
end
end Go.Proofs
namespace Go.Proofs
open Go.Lo
theorem jo9 {b:Tb} (ok:TbOk b) (hl: ∀z∈l,0≤z):jbt (cdT (jkG b l))=true↔jcK b (jbN l)=false:=by
 rw [joU ok hl,jcK];cases jbt (jbe (jdw (jbN l) (jaa b).length) (cdT b))<;>simp
section
variable {b:Tb} {g:List Int} (hl:jdU (fun l=>jcK b (jbN l)=true) (jaa b).length g)
include hl
end
def boOf (n:Nat) (wr ms:List Int):Bo:=(List.range n).map fun (i:Nat)=>if (i:Int)∈wr then none else some (ms.getD i 0)
theorem boOf_len (n:Nat) (wr ms:List Int):(boOf n wr ms).length=n:=by simp [boOf]
theorem xA_boOf (h:i<n):xA (boOf n wr ms) i=if (i:Int)∈wr then none else some (ms.getD i 0):=by
 rw [xA,boOf,gC,gX,Gg h];rfl
def liesB (b:Tb) (wr ms:List Int):Prop:=(∀i:Nat,i<(jaa b).length→(i:Int)∉wr→ms.getD i 0∈jdN (jbU b ((jaa b).getD i default)))∧ ∀i j:Nat,i<j→j<(jaa b).length→(i:Int)∉wr→(j:Int)∉wr→jaw b ((jaa b).getD i default) ((jaa b).getD j default) (ms.getD i 0) (ms.getD j 0)=true
section
variable {b:Tb} (ok:TbOk b) (ha:Asc wr) (hr: ∀x∈wr,0≤x∧x<((jaa b).length:Int)) (hw:(wr.length:Int)≤b.wrong) (hl:liesB b wr ms)
include ha hr hw hl
include ok in
end
theorem dig_all:((List.range 12).all fun n=>decide (jeZ (jjv n))&&decide (jpH (jjv n)=(n:Int))&&decide (jjv n≠[63])&&(jjv n).all fun c=>decide (c≠45))=true:=by kernel_rfl
theorem dig_is (h:n<12):jeZ (jjv n)∧jpH (jjv n)=(n:Int)∧jjv n≠[63]∧ ∀c∈jjv n,c≠45:=by
 have:=gZ.1 dig_all n (gT.2 h)
 simp only [gL,decide_eq_true_eq,gZ] at this
 exact ⟨this.1.1.1,this.1.1.2,this.1.2,this.2⟩
theorem jk6 {c:UInt8} (h:jft c):UInt8.ofNat (48+(c.toNat-48))=c:=by
 unfold jft at h
 rw [show 48+(c.toNat-48)=c.toNat by omega];exact UInt8.ofNat_toNat
theorem jrP {p:Str} (h: ∀c∈p,c≠45) (ok:jeZ p) (h11:jpH p≤11):jjv (jpH p).toNat=p:=by
 rw [jiD h ok] at h11⊢
 obtain ⟨h1,h2,h3⟩:=(jkI h).1 ok
 rcases p with _|⟨c,q⟩
 ·simp at h1
 ·have hc:=h3 c zS
  have hcp:=hc
  unfold jft at hcp
  rw [gm];rcases q with _|⟨d,q⟩
  ·have e:jcO 0 [c]=c.toNat-48:=by simp [jcO]
   rw [e] at h11⊢
   have hb:=jk6 hc
   rw [jjv,if_pos zO,hb]
  ·have hd:=h3 d zS
   have hdp:=hd
   unfold jft at hdp
   have h48:c.toNat≠48:=fun e=>h2 ⟨by show c=48;exact vV.1 (by rw [e];rfl),by simp⟩
   rcases q with _|⟨x,q⟩
   ·have e:jcO 0 [c,d]=10*(c.toNat-48)+(d.toNat-48):=by simp [jcO]
    rw [e] at h11⊢
    have hb:=jk6 hc
    have hb2:=jk6 hd
    rw [jjv,if_neg zO,show (10*(c.toNat-48)+(d.toNat-48))/10=c.toNat-48 by omega,show (10*(c.toNat-48)+(d.toNat-48))%10=d.toNat-48 by omega,hb,hb2]
   ·have:=jiT (d::x::q) (10*0+(c.toNat-48)) zO
    have e:jcO 0 (c::d::x::q)=jcO (10*0+(c.toNat-48)) (d::x::q):=rfl
    rw [e] at h11
    simp only [gV] at this
    omega
theorem jo7 {p:Str} (hk:k<3) (h: ∀c∈p,c≠45) (ok:jeK p k):jaD (jbx p)=p:=by
 rcases ok with e|⟨h1,h2,h3⟩
 ·rw [e];rfl
 ·have hm:=(jdo hk).2
  by_cases e:p=[63]
  ·rw [e];rfl
  ·rw [jbx,if_neg e,jaD,if_neg zO];exact jrP h h1 zO
theorem jd7 {x:Int} (hk:k<3) (h1: -1≤x) (h2:x≤mosts.getD k 0):jeK (jaD x) k∧jbx (jaD x)=x∧ ∀c∈jaD x,c≠45:=by
 have hm:=(jdo hk).2
 by_cases e:x= -1
 ·subst e
  exact ⟨.inl rfl,rfl,by decide⟩
 ·obtain ⟨d1,d2,d3,d4⟩:=dig_is (n:=x.toNat) zO
  rw [jaD,if_neg e,jbx,if_neg d3,d2];exact ⟨.inr ⟨d1,by omega,by omega⟩,by omega,d4⟩
theorem jgF (h:ja2 s=true):(jf2 s 45).length=3∧jf2 s 45=(jan s).map jaD∧PtOk (jan s):=by
 have ok:=(jfV s).2 h
 have e:=jhS s
 rw [jhG,if_pos ok,if_pos h,jlf,gq (by rw [ok.1];exact gM _)] at e
 have hp: ∀k,k<3→jaD (jbx ((jf2 s 45).getD k []))=(jf2 s 45).getD k []:=fun k hk=>by
  refine jo7 hk ?_ (ok.2 k hk)
  have:=jgf s
  rw [←ji2] at this
  exact this _ (jaj (l:=jf2 s 45) (by rw [ok.1];exact hk))
 refine ⟨ok.1,?_,?_⟩
 ·rw [←e,vu];refine Ga zS fun i h1 h2=>?_
  rw [ok.1] at h1
  have:=hp i h1
  rw [gC,gD (by rw [ok.1];exact h1),gu] at this
  rw [VF];exact this.symm
 ·have hv: ∀k,k<3→(jan s).getD k 0=jbx ((jf2 s 45).getD k []):=fun k hk=>by
   rw [←e,gC,gX,gD (by rw [ok.1];exact hk),gC,gD (by rw [ok.1];exact hk)];rfl
  have hb: ∀k,k<3→ -1≤jbx ((jf2 s 45).getD k [])∧jbx ((jf2 s 45).getD k [])≤mosts.getD k 0:=fun k hk=>by
   have hm:=(jdo hk).1
   rcases ok.2 k hk with e|⟨h1,h2,h3⟩
   ·rw [e,jbx,if_pos rfl];omega
   ·unfold jbx
    split<;>omega
  have hl:(jan s).length=3:=by rw [←e,gN,ok.1]
  refine ⟨hl,fun j=>?_,fun j hj=>by rw [hv j hj];exact (hb j hj).2⟩
  by_cases hj:j<3
  ·rw [hv j hj];exact (hb j hj).1
  ·rw [gC,gh zO];decide
theorem jp6 {c:UInt8}: ∀{a:Str},(∀x∈a,x≠c)→spl c a=[a]
 |[],_=>rfl
 |x::a,h=>by rw [spl,if_neg (h x zS),jp6 fun y hy=>h y (by simp [hy])]
theorem jkr {c:UInt8} {r:Str}: ∀{a:Str},(∀x∈a,x≠c)→spl c (a++c::r)=a::spl c r
 |[],_=>by rw [GJ,spl,if_pos rfl]
 |x::a,h=>by rw [gr,spl,if_neg (h x zS),jkr fun y hy=>h y (by simp [hy])]
theorem joN {v:List Int} (h:PtOk v):ja2 (jbM v)=true∧jan (jbM v)=v:=by
 obtain ⟨hl,h1,h2⟩:=h
 rcases v with _|⟨a,_|⟨b,_|⟨c,_|⟨d,r⟩⟩⟩⟩<;>simp at hl
 obtain ⟨a1,a2,a3⟩:=jd7 (k:=0) zA (h1 0) (h2 0 zA)
 obtain ⟨b1,b2,b3⟩:=jd7 (k:=1) zA (h1 1) (h2 1 zA)
 obtain ⟨c1,c2,c3⟩:=jd7 (k:=2) zA (h1 2) (h2 2 zA)
 replace a2:jbx (jaD a)=a:=a2
 replace b2:jbx (jaD b)=b:=b2
 replace c2:jbx (jaD c)=c:=c2
 replace a3: ∀x∈jaD a,x≠45:=a3
 replace b3: ∀x∈jaD b,x≠45:=b3
 replace c3: ∀x∈jaD c,x≠45:=c3
 have e:jf2 (jbM [a,b,c]) 45=[jaD a,jaD b,jaD c]:=by
  rw [ji2];show spl 45 (jaD a++(45::jaD b++(45::jaD c++[])))=_
  rw [ge,gr,jkr a3,jkr b3,jp6 c3]
 have ok:okR (jbM [a,b,c]):=by
  refine ⟨by rw [e];rfl,fun k hk=>?_⟩
  rw [e];rcases (by omega:k=0∨k=1∨k=2) with rfl|rfl|rfl
  ·exact a1
  ·exact b1
  ·exact c1
 have hf:=(jfV _).1 ok
 refine ⟨hf,?_⟩
 have e2:=jhS (jbM [a,b,c])
 rw [jhG,if_pos ok,if_pos hf,jlf,e] at e2
 rw [←e2];show [jbx (jaD a),jbx (jaD b),jbx (jaD c)]=_
 rw [a2,b2,c2]
theorem jfg (hi:i<3):(jaT p o).getD i 0=if p.getD i 0= -1 then o.getD i 0 else p.getD i 0:=by
 rw [jaT,gC,gX,Gg hi,Gc,gu]
section
variable {b:Tb} (ok:TbOk b) (hk:k<(jaa b).length) {c:Ce} (hcx:c=(jaa b).getD k default) {f g:Str} (hf:ja2 f=true) (hc:jaT (jan f) (jan (jbU b c))=jaT (jan (jbU b c)) (jan f)) (hg:g=jbM (jaT (jan (jbU b c)) (jan f)))
include ok hk hcx hf hc hg
end
end Go.Proofs
namespace Go.Proofs
open Go.Lo
open Go.Conc (G)
section
variable [LaidO B]
theorem weakOff4 {F1 F2 F3 F4 W:Hp} [a:Off h' W F1] [b:Off F1 Z F2] [c:Off F2 Y F3] [d:Off F3 X F4] [s:SubH H F4]:Weak B h' (H++X++Y++Z++W):=
 (Weak.perm a.perm).trans (Weak.apps ((Weak.perm b.perm).trans (Weak.apps ((Weak.perm c.perm).trans (Weak.apps ((Weak.perm d.perm).trans (Weak.apps (Weak.sub s.sub) X)) Y)) Z)) W)
end
section
variable [LaidO B]
theorem rdE_app {vs ws:List Value} {ll mm:List (List Int)} (r:RdE B h vs ll) (s:RdE B h ws mm):RdE B h (vs++ws) (ll++mm):=by
 obtain ⟨⟨l1,c1⟩,r⟩:=r
 obtain ⟨⟨l2,c2⟩,s⟩:=s
 refine ⟨⟨by simp [l1,l2],fun u hu=>(gQ.1 hu).elim (c1 u) (c2 u)⟩,fun i hi=>?_⟩
 by_cases e:i<ll.length
 ·have e1:(ll++mm).getD i []=ll.getD i []:=by rw [gC,gb e,gC]
  have e2:(vs++ws).getD i undef=vs.getD i undef:=by rw [gC,gb zO,gC]
  rw [e1,e2];exact r i e
 ·rw [gH] at hi
  have e1:(ll++mm).getD i []=mm.getD (i-ll.length) []:=by rw [gC,gf zO,gC]
  have e2:(vs++ws).getD i undef=ws.getD (i-ll.length) undef:=by rw [gC,gf zO,gC,l1]
  rw [e1,e2];exact s _ zO
def nextI (b:Tb) (cl:List Ce) (wr ms:List Int) (v:Int) (i:Nat):Bool:=decide ((ms.length:Int)∈wr)||decide ((i:Int)∈wr)||jaw b (cl.getD i default) (cl.getD ms.length default) (ms.getD i 0) v
def nextT (b:Tb) (cl:List Ce) (wr ms:List Int) (v:Int) (i:Nat):Bool:=(List.range i).all (nextI b cl wr ms v)
theorem nextT_succ (b:Tb) (cl:List Ce) (wr ms:List Int) (v:Int) (i:Nat):nextT b cl wr ms v (i+1)=(nextT b cl wr ms v i&&nextI b cl wr ms v i):=by
 rw [nextT,GV,List.all_append];simp [nextT]
theorem nextT_all (b:Tb) (cl:List Ce) (wr ms:List Int) (v:Int):nextT b cl wr ms v ms.length=jd8 b cl wr ms v:=rfl
def goJ (b:Tb) (cl:List Ce) (wr:List Int) (k:Nat) (ms:List Int) (j:Nat):List (List Int):=(((jb5 b cl wr ms.length).take j).filter (jd8 b cl wr ms)).flatMap fun v=>jdO b cl wr k (ms++[v])
theorem goJ_all (b:Tb) (cl:List Ce) (wr:List Int) (k:Nat) (ms:List Int):goJ b cl wr k ms (jb5 b cl wr ms.length).length=jdO b cl wr (k+1) ms:=by rw [goJ,GE];rfl
section
variable {b:Tb} {cl:List Ce} (hj:j<(jb5 b cl wr ms.length).length)
include hj
theorem goJ_yes (h:jd8 b cl wr ms ((jb5 b cl wr ms.length).getD j 0)=true):goJ b cl wr k ms (j+1)=goJ b cl wr k ms j++jdO b cl wr k (ms++[(jb5 b cl wr ms.length).getD j 0]):=by
 rw [goJ,jaV _ j hj,GA,GQ];congr 1
 show List.flatMap _ (List.filter _ [(jb5 b cl wr ms.length).getD j 0])=_
 rw [vk h];simp
theorem goJ_no (h:jd8 b cl wr ms ((jb5 b cl wr ms.length).getD j 0)=false):goJ b cl wr k ms (j+1)=goJ b cl wr k ms j:=by
 rw [goJ,jaV _ j hj,GA,GQ];show _++List.flatMap _ (List.filter _ [(jb5 b cl wr ms.length).getD j 0])=_
 rw [vh (by rw [h];decide)];simp [goJ]
end
def prodF (b:Tb) (cl:List Ce) (wr:List Int):Nat→Nat→Nat
 |0,_=>1
 |k+1,n=>(jb5 b cl wr n).length*prodF b cl wr k (n+1)
theorem goOn_le (b:Tb) (cl:List Ce) (wr:List Int): ∀(k:Nat) (ms:List Int),(jdO b cl wr k ms).length≤prodF b cl wr k ms.length
 |0,ms=>gM _
 |k+1,ms=>by
  have gen: ∀l:List Int,(l.flatMap fun v=>jdO b cl wr k (ms++[v])).length≤l.length*prodF b cl wr k (ms.length+1):=by
   intro l
   induction l with
   |nil=>simp
   |cons v l ih=>
    have:=goOn_le b cl wr k (ms++[v])
    rw [gH,GU] at this
    rw [vL,gH,gV,Nat.succ_mul];omega
  rw [jdO,prodF];exact E63
theorem goJ_le {b:Tb} {cl:List Ce} (hj:j≤(jb5 b cl wr ms.length).length):(goJ b cl wr k ms j).length≤(jdO b cl wr (k+1) ms).length:=by
 rw [←goJ_all,goJ,goJ];obtain ⟨r,hr⟩: ∃r,jb5 b cl wr ms.length=(jb5 b cl wr ms.length).take j++r:=⟨_,(vA j _).symm⟩
 rw [GE];conv=>rhs;rw [hr,GA,GQ,gH]
 exact xH _ _
theorem weakOff4a {F1 F2 F3 F4 W:Hp} [a:Off h' W F1] [b:Off F1 Z F2] [c:Off F2 Y F3] [d:Off F3 X F4] [s:SubH H F4]:Weak B h' (H++X++(Y++Z++W)):=by
 rw [show H++X++(Y++Z++W)=H++X++Y++Z++W by simp only [gI]];exact weakOff4
def RdL (B:Array Obj) (S new:Hp) (v:Value) (L:List (List Int)):Prop:= ∃p c vs,v= .slice p L.length c∧ ∀H2:Hp,S.Sublist H2→new.Sublist H2→RdS B H2 1 (.slice p L.length c) L.length vs∧RdE B H2 vs L
theorem f178_c (m:Md Tryz.prog B) {b:Tb} (ok:TbOk b) (hwr:wr.length≤100): ∀(k:Nat) (h S:Hp) (ms:List Int) (wp mp:Option Addr) (wc mc:Nat),RawTb B h b ps ns ks pw nw cw pb nb cb→S.Sublist h→RdS B h 1 (.slice wp wr.length wc) wr.length (jav wr)→RdS B S 1 (.slice mp ms.length mc) ms.length (jav ms)→ms.length≤mc→ms.length+k=(jaa b).length→prodF b (jaa b) wr k ms.length≤1000000→
  FnC m 178 #[tbV b ps ns ks pw nw cw pb nb cb,.slice wp wr.length wc,.slice mp ms.length mc] h fun v h'=> ∃new,h'=h++new∧RdL B S new v (jdO b (jaa b) wr k ms):=by
 intro k
 induction k using Nat.strongRecOn
 rename_i k IH
 intro h S ms wp mp wc mc ra hS rW rM hmc hmk hpf
 have rd:=ra.rd ok
 have h12:=ja3 ok
 refine jae Tryz.func178 rfl rfl (l:=[tbV b ps ns ks pw nw cw pb nb cb,.slice wp wr.length wc,.slice mp ms.length mc,undef,undef,undef,undef,undef,undef,undef,undef,undef,undef,undef,undef,undef,undef,undef,undef,undef,undef,undef,undef,undef,undef,undef,undef,undef,undef,undef,undef,undef,undef,undef,undef,undef,undef,undef,undef,undef,undef,undef,undef,undef,undef,undef,undef,undef,undef,undef,undef,undef,undef,undef,undef,undef,undef,undef,undef,undef,undef,undef,undef,undef,undef,undef,undef,undef,undef,undef,undef,undef,undef,undef,undef,undef,undef,undef,undef,undef,undef,undef,undef,undef,undef,undef,undef,undef,undef,undef,undef,undef,undef,undef,undef,undef,undef,undef,undef,undef,undef]) rfl ?_
 intro cf cs K hK
 refine Z2 ?_
 refine jaA rfl zq (fun q3=>jao (jad ?_));refine Z5 ?_;refine jax rfl zq zK (Post:=fun w new=>OwnS 37 3 w (jaa b).length (jaC (jaa b)) new) (fun H' hH=>f26_c _ H' (rd.keeps (sq hH))) ?_
 rintro w n7 o7;refine jaz (jad ?_);obtain ⟨p7,c7,rfl,hc7,r7⟩:=jas (B:=B) o7
 refine Z9 ?_
 refine jaE rfl zq (fun hc=>?_) (fun hc=>?_)
 ·obtain rfl:k=0:=by omega
  refine Z5 ?_
  refine jb7 kdq rfl zq zA zA rfl (fun q24=>jao (jad ?_));refine Z3 ?_;refine jac (h++[⟨true,q24,.cells [.slice mp ms.length mc].toArray 42 (0,0)⟩]) rfl Tryz.func178 rfl jab ?_;refine Zs ?_
  exact E64
 ·obtain ⟨k,rfl⟩: ∃k1,k=k1+1:=⟨k-1,by omega⟩
  have hml:ms.length<(jaa b).length:=by omega
  refine Z11 ?_
  refine jb7 kdq rfl zq zA zA rfl (fun q27=>jao (jad ?_));refine Z7 ?_;refine jaf (Post:=fun v=>IsB _ v) rfl zq zK (fun H' hH=>f35_c m H' _ (rW.keeps (sq hH)) zO) ?_
  rintro v (⟨hc,rfl⟩|⟨hc,rfl⟩);refine Zs ?_
  have hct:jb5 b (jaa b) wr ms.length=[0]:=by rw [jb5,if_pos hc]
  obtain ⟨cv,hcv⟩: ∃cv:Value,cv= .slice (some ⟨q27,0,none⟩) 1 1:=⟨_,rfl⟩
  obtain ⟨CC,hCC⟩: ∃CC:Hp,CC=[⟨true,q27,.cells [.int .i64 0].toArray 3 (0,0)⟩]:=⟨_,rfl⟩
  rw [←hcv,←hCC];obtain ⟨cp,cc,rfl,rC⟩: ∃cp cc,cv= .slice cp (jb5 b (jaa b) wr ms.length).length cc∧RdS B CC 1 (.slice cp (jb5 b (jaa b) wr ms.length).length cc) (jb5 b (jaa b) wr ms.length).length (jav (jb5 b (jaa b) wr ms.length)):=⟨some ⟨q27,0,none⟩,1,by rw [hcv,hct];rfl,by rw [hct,hCC];exact (OwnS.full (t:=3) (q:=q27) (cs:=jav [(0:Int)]) rfl).rd (gE _)⟩
  clear hcv hCC
  refine Z4 ?_
  rotate_left
  refine Zs ?_
  obtain ⟨b7,o7_,hp7⟩:=r7.ptr zO
  have r7b:=r7
  rw [hp7] at r7b
  obtain ⟨c,hcx⟩: ∃c,c=(jaa b).getD ms.length default:=⟨_,rfl⟩
  have hht:jcn b c=true:=hcx▸(jeF hml).1
  have hct:jb5 b (jaa b) wr ms.length=jdN (jbU b c):=by rw [jb5,if_neg hc,hcx]
  refine Z4 ?_;refine jaq [Zp 1,Zp 2,Zp 3,Zr 0,Zr 4,Zk 5,Zp 6,Zp 7,Zp 8,Zp 9,Zp 10] zK zK (gE _) ?_;refine Z2 ?_;refine jaL rfl zq hp7 zO zO ?_;refine Zs ?_;refine jb4 (vs:=[.bool ((jaa b).getD ms.length default).butt,.int .i64 ((jaa b).getD ms.length default).line,.int .i64 ((jaa b).getD ms.length default).st]) rfl zq rfl (r7b.eat ms.length zO zO) ?_
  rw [←hcx];refine jaf (Post:=fun v=>v= .tuple [str (jbU b c),.bool true].toArray) rfl zq zK (fun H' hH=>by have:=f27_c m H' (rd.keeps (sq hH)) (bt:=c.butt) (li:=c.line) (st:=c.st);rw [show jcn b ⟨c.butt,c.line,c.st⟩=true from hht,if_pos rfl] at this;exact this) ?_;rintro v rfl;refine Z9 ?_;refine jax rfl zq zK (Post:=fun w new=>OwnS 3 1 w (jb5 b (jaa b) wr ms.length).length (jav (jb5 b (jaa b) wr ms.length)) new) (fun H' hH=>by rw [hct];exact f32_c _ H' (jbU b c) (jos ra.sm ok hht)) ?_
  rintro w CC oL;refine jaz (jad ?_);obtain ⟨cp,cc,rfl,_,rC⟩:=jas (B:=B) oL
  refine Z2 ?_
  all_goals
   refine Z10 ?_;refine m.weak (h':=h++[⟨true,q3,.cells (tbL b ps ns ks pw nw cw pb nb cb).toArray 25 (0,0)⟩]++n7++CC) jab ?_
   have hc960:(jb5 b (jaa b) wr ms.length).length≤960:=by
    unfold jb5
    split<;>first|exact jkL _|decide
   refine jag (fun nn l h'=> ∃(j:Nat) (op:Option Addr) (oc:Nat) (vs:List Value) (Mo Mi:Hp),nn=(jb5 b (jaa b) wr ms.length).length-j∧(j≤(jb5 b (jaa b) wr ms.length).length)∧(OwnS 42 1 (.slice op (goJ b (jaa b) wr k ms j).length oc) (goJ b (jaa b) wr k ms j).length vs Mo)∧(∀H2:Hp,S.Sublist H2→Mi.Sublist H2→RdE B H2 vs (goJ b (jaa b) wr k ms j))∧(∃U:Nat→Value,l=((tbV b ps ns ks pw nw cw pb nb cb)::(.slice wp wr.length wc)::(.slice mp ms.length mc)::(.pointer (some ⟨q3,0,none⟩))::(U 4)::(U 5)::(U 6)::(.slice p7 (jaa b).length c7)::(.int .i64 (ms.length:Int))::(.slice cp (jb5 b (jaa b) wr ms.length).length cc)::(U 10)::(U 11)::(.slice op (goJ b (jaa b) wr k ms j).length oc)::(.int .i64 (j:Int))::(U 14)::(U 15)::vw85 U 16 []))∧h++[⟨true,q3,.cells (tbL b ps ns ks pw nw cw pb nb cb).toArray 25 (0,0)⟩]++n7++CC++Mo++Mi=h') _ ⟨0,none,0,[],[],[],rfl,by omega,OwnS.nil,fun _ _ _=>RdE.nil,exU rfl,zS⟩ ?_;rintro nn l h' ⟨j,op,oc,vs,Mo,Mi,rfl,hj,how,hre,⟨U,rfl⟩,rfl⟩ hnext1;refine Z6 ?_
   refine jam rfl zq (fun hc=>?_) (fun hc=>?_)
   ·refine Z6 ?_
    have hjc:j<(jb5 b (jaa b) wr ms.length).length:=by omega
    obtain ⟨v,hv⟩: ∃v,v=(jb5 b (jaa b) wr ms.length).getD j 0:=⟨_,rfl⟩
    obtain ⟨cb_,co_,hcp⟩:=rC.ptr zO
    have rC2:=rC
    rw [hcp] at rC2
    refine Z9 ?_
    refine jag (fun nn l h'=> ∃(i:Nat) (q:Bool),nn=ms.length-i∧(i≤ms.length)∧(q=nextT b (jaa b) wr ms v i)∧(∃U:Nat→Value,l=((tbV b ps ns ks pw nw cw pb nb cb)::(.slice wp wr.length wc)::(.slice mp ms.length mc)::(.pointer (some ⟨q3,0,none⟩))::(U 4)::(U 5)::(U 6)::(.slice p7 (jaa b).length c7)::(.int .i64 (ms.length:Int))::(.slice cp (jb5 b (jaa b) wr ms.length).length cc)::(U 10)::(U 11)::(.slice op (goJ b (jaa b) wr k ms j).length oc)::(.int .i64 (j:Int))::(.bool q)::(.int .i64 (i:Int))::vw85 U 16 []))∧h++[⟨true,q3,.cells (tbL b ps ns ks pw nw cw pb nb cb).toArray 25 (0,0)⟩]++n7++CC++Mo++Mi=h') _ ⟨0,true,rfl,by omega,rfl,exU rfl,rfl⟩ ?_;rintro nn l h' ⟨i,q,rfl,hi,hq,⟨U,rfl⟩,rfl⟩ hnext2;refine Z5 ?_
    refine jam rfl zq (fun hc=>?_) (fun hc=>?_)
    ·refine Z5 ?_
     cases q
     have hni:(false&&nextI b (jaa b) wr ms v i)=false:=rfl
     all_goals
      refine jaq [Zp 0,Zp 1,Zp 2,Zp 3,Zk 4,Zp 5,Zp 6,Zp 7,Zk 8,Zp 9,Zp 10,Zp 12,Zp 13,Zp 14,Zp 16,Zp 17,Zp 18,Zp 20,Zp 21,Zp 22,Zp 24,Zp 25,Zp 26,Zr 11,Zr 15,Zr 19,Zr 23,Zr 27,Zk 28,Zp 29,Zp 30,Zp 31] zK zK (gE _) ?_;refine Z2 ?_
     ·refine Z37 ?_
      exact E65
     ·refine Z2 ?_;refine jaf (Post:=fun v=>IsB _ v) rfl rfl zK (fun H' hH=>f35_c m H' _ (rW.keeps (sq hH)) zO) ?_
      rintro v (⟨hc,rfl⟩|⟨hc,rfl⟩)
      ·refine Zs ?_
       have hni:nextI b (jaa b) wr ms v i=true:=by rw [nextI,decide_eq_true hc];rfl
       refine Z34 ?_
       exact E66
      ·refine Zs ?_
       have hkn: ¬(ms.length:Int)∈wr:=hc
       refine Z3 ?_;refine jaf (Post:=fun v=>IsB _ v) rfl rfl zK (fun H' hH=>f35_c m H' _ (rW.keeps (sq hH)) zO) ?_
       rintro v (⟨hc,rfl⟩|⟨hc,rfl⟩)
       ·refine Zs ?_
        have hni:nextI b (jaa b) wr ms v i=true:=by rw [nextI,decide_eq_true hc];simp
        refine Z30 ?_
        exact E66
       ·refine Zs ?_
        have hin: ¬(i:Int)∈wr:=hc
        obtain ⟨b7,o7_,hp7⟩:=r7.ptr zO
        have r7b:=r7
        rw [hp7] at r7b
        obtain ⟨mb,mo,hmp⟩:=rM.ptr zO
        have rM2:=rM.keeps hS
        rw [hmp] at rM2
        have hhi:=(jeF (b:=b) (i:=i) zO).1
        have hhm:=(jeF (b:=b) (i:=ms.length) hml).1
        refine Z4 ?_;refine jaL rfl rfl hp7 zO zO ?_;refine Z2 ?_;refine jaL rfl rfl hp7 zO zO ?_;refine Z2 ?_;refine jaL rfl rfl hmp zO zO ?_;refine Z2 ?_;refine jaL rfl rfl hcp zO zO ?_;refine jhI rfl rfl ?_;refine jb4 (vs:=[.bool ((jaa b).getD i default).butt,.int .i64 ((jaa b).getD i default).line,.int .i64 ((jaa b).getD i default).st]) rfl rfl rfl (r7b.eat i zO zO) ?_;refine jb4 (vs:=[.bool ((jaa b).getD ms.length default).butt,.int .i64 ((jaa b).getD ms.length default).line,.int .i64 ((jaa b).getD ms.length default).st]) rfl rfl rfl (r7b.eat ms.length zO zO) ?_;refine jaN rfl rfl (rM2.iat i zO zO) ?_;refine jaN rfl rfl (rC2.iat j zO zO) ?_
        rw [←hv];refine jaf (Post:=fun v=>IsB _ v) rfl rfl zK (fun H' hH=>(f177_c m H' (rd.keeps (sq hH)) hhi hhm (ms.getD i 0) v).mono fun v h' e=>⟨e.1,jrl e.2⟩) ?_;rintro v (⟨hc,rfl⟩|⟨hc,rfl⟩);refine Zs ?_
        have hni:nextI b (jaa b) wr ms v i=true:=by rw [nextI,hc];simp
        rotate_left
        refine Zs ?_
        have hni:nextI b (jaa b) wr ms v i=false:=by rw [nextI,decide_eq_false hkn,decide_eq_false hin];simpa using hc
        all_goals
         refine Z10 ?_
        ·exact E67
        ·exact E66
    ·refine Z4 ?_
     obtain rfl:i=ms.length:=by omega
     rw [nextT_all] at hq
     cases q
     ·have hgj:=goJ_no (k:=k) hjc (by rw [←hv];exact hq.symm)
      refine Z11 ?_
      rw [←hgj];exact E68
     ·have hgj:=goJ_yes (k:=k) hjc (by rw [←hv];exact hq.symm)
      rw [←hv] at hgj
      refine Z4 ?_
      have hgl:=goJ_le (k:=k) (j:=j+1) (show j+1≤(jb5 b (jaa b) wr ms.length).length by omega)
      have hgo:=goOn_le b (jaa b) wr (k+1) ms
      have hgl0:=goJ_le (k:=k) (j:=j) (show j≤(jb5 b (jaa b) wr ms.length).length by omega)
      rw [hgj,gH] at hgl
      refine jbi (S:=h++[⟨true,q3,.cells (tbL b ps ns ks pw nw cw pb nb cb).toArray 25 (0,0)⟩]++n7++CC++Mi) [0,1,2,3,4,5,6,7,8,9,10,11,12,13,14] zK zK SubH.sub ?_;refine DrawT.split 3 10 zA (DrawT.split 5 10 zA ?_ ?_) ?_
      refine DrawT.leaf [Zp 0,Zp 2,Zp 4,Zp 6,Zp 7,Zp 8,Zr 1,Zr 9,Zk 3,Zk 5,Zk 10,Zk 11,Zk 12,Zk 13,Zp 14] zK ?_;refine Z5 ?_;refine jaL rfl zq hcp zO zO ?_;refine Zs ?_;refine jaN rfl zq (rC2.iat j zO zO) ?_
      rw [←hv];refine jcQ kdq rfl zq (fun q89=>jao (jad ?_));refine jbz rfl zq (OwnS.zero (q:=q89)) (rM.keeps hS).up (fun u hu=>jba _ u hu) kdq zO zO (fun w91 n91 o91=>jad ?_);replace o91:OwnS 3 1 w91 ms.length (jav ms) n91:=by simpa using o91
      obtain ⟨p91,c91,rfl,_⟩:=o91.len
      refine jb7 kdq rfl zq zA zA rfl (fun q96=>jao (jad ?_));rotate_left
      refine DrawT.leaf [Zp 0,Zp 2,Zp 4,Zp 6,Zp 7,Zp 8,Zr 1,Zr 9,Zk 3,Zk 10,Zk 5,Zk 11,Zk 12,Zk 13,Zp 14] zK ?_;refine Z5 ?_;refine jaL rfl zq hcp zO zO ?_;refine Zs ?_;refine jaN rfl zq (rC2.iat j zO zO) ?_
      rw [←hv];refine jcQ kdq rfl zq (fun q89=>jao (jad ?_));refine jb7 kdq rfl zq zA zA rfl (fun q96=>jao (jad ?_));refine jbz rfl zq (OwnS.zero (q:=q89)) (rM.keeps hS).up (fun u hu=>jba _ u hu) kdq zO zO (fun w91 n91 o91=>jad ?_);replace o91:OwnS 3 1 w91 ms.length (jav ms) n91:=by simpa using o91
      obtain ⟨p91,c91,rfl,_⟩:=o91.len
      rotate_left
      refine DrawT.leaf [Zp 0,Zp 2,Zp 4,Zp 6,Zp 7,Zp 8,Zr 1,Zr 9,Zk 10,Zk 3,Zk 5,Zk 11,Zk 12,Zk 13,Zp 14] zK ?_;refine Z5 ?_;refine jaL rfl zq hcp zO zO ?_;refine Zs ?_;refine jaN rfl zq (rC2.iat j zO zO) ?_
      rw [←hv];refine jb7 kdq rfl zq zA zA rfl (fun q96=>jao (jad ?_));refine jcQ kdq rfl zq (fun q89=>jao (jad ?_));refine jbz rfl zq (OwnS.zero (q:=q89)) (rM.keeps hS).up (fun u hu=>jba _ u hu) kdq zO zO (fun w91 n91 o91=>jad ?_);replace o91:OwnS 3 1 w91 ms.length (jav ms) n91:=by simpa using o91
      obtain ⟨p91,c91,rfl,_⟩:=o91.len
      all_goals
       refine ja6 rfl zq rfl o91 kdq zO zO (fun w97 n97 o97=>jad ?_);replace o97:OwnS 3 1 w97 (ms++[v]).length (jav (ms++[v])) n97:=by rw [jbo,gH];exact o97
       obtain ⟨p97,c97,rfl,_⟩:=o97.len
       have r97:=o97.rd (B:=B) (gE _)
       refine jax rfl zq zK (Post:=fun v' new=>RdL B n97 new v' (jdO b (jaa b) wr k (ms++[v]))) (fun H' hH=>IH k zO H' n97 (ms++[v]) wp p97 wc c97 (ra.keeps (sq hH)) (sq hH) (rW.keeps (sq hH)) r97 o97.cap (by rw [gH,GU];omega) (by rw [gH,GU];exact GI (Nat.le_mul_of_pos_left _ zO) hpf)) ?_;rintro v' n98 ⟨p98,c98,vs98,rfl,h98⟩;refine jaz (jad ?_);refine jbz rfl zq how (h98 _ SubH.sub SubH.sub).1 (fun u hu=>(h98 (n97++n98) (gG _ _) (gK _ _)).2.ones u hu) kdq zO zO (fun w99 n99 o99=>jad ?_);replace o99:OwnS 42 1 w99 (goJ b (jaa b) wr k ms (j+1)).length (vs++vs98) n99:=by rw [hgj,gH];exact o99
       obtain ⟨p99,c99,rfl,_⟩:=o99.len
       refine Z8 ?_;refine m.weak (h':=h++[⟨true,q3,.cells (tbL b ps ns ks pw nw cw pb nb cb).toArray 25 (0,0)⟩]++n7++CC++n99++(Mi++n97++n98)) weakOff4a ?_
       exact hnext1 _ _ _ zO ⟨j+1,p99,c99,vs++vs98,n99,Mi++n97++n98,rfl,by omega,o99,fun H2 s1 s2=>by
         rw [hgj];have t1:=(gG (Mi++n97) n98).trans s2
         exact E69,exU rfl,rfl⟩
   ·refine Z4 ?_
    have hje:j=(jb5 b (jaa b) wr ms.length).length:=by omega
    subst hje
    rw [goJ_all] at how hre⊢
    refine Z5 ?_;refine jac (h++Mo++Mi) rfl Tryz.func178 rfl jab ?_;refine Zs ?_
    exact E70
end
section
variable [LaidO B]
structure Bp where
 wr:List Int
 ms:List Int
 pw:Option Addr
 pm:Option Addr
 cw:Nat
 cm:Nat
 deriving Inhabited
abbrev bpL (x:Bp):List Value:=[.slice x.pw x.wr.length x.cw,.slice x.pm x.ms.length x.cm]
instance:Enc Bp 2 where
 enc:=bpL
 len:=fun _=>rfl
 one:=fun _=>jcI rfl
def BpE (B:Array Obj) (H:Hp) (bs:List Bp) (L:List (List Int×List Int)):Prop:=(bs.map fun x=>(x.wr,x.ms))=L∧ ∀x∈bs,RdS B H 1 (.slice x.pw x.wr.length x.cw) x.wr.length (jav x.wr)∧RdS B H 1 (.slice x.pm x.ms.length x.cm) x.ms.length (jav x.ms)
theorem BpE.keeps {H':Hp} {bs:List Bp} (e:BpE B H bs L) (s:H.Sublist H'):BpE B H' bs L:=⟨e.1,fun x hx=>⟨(e.2 x hx).1.keeps s,(e.2 x hx).2.keeps s⟩⟩
theorem BpE.nil:BpE B H [] []:=⟨rfl,fun x hx=>by cases hx⟩
theorem BpE.append {bs cs:List Bp} (e:BpE B H bs L) (f:BpE B H cs M):BpE B H (bs++cs) (L++M):=⟨by rw [GC,e.1,f.1],fun x hx=>(gQ.1 hx).elim (e.2 x) (f.2 x)⟩
theorem BpE.len {bs:List Bp} (e:BpE B H bs L):bs.length=L.length:=by rw [←e.1,gN]
def RdB (B:Array Obj) (S new:Hp) (v:Value) (L:List (List Int×List Int)):Prop:= ∃p c bs,v= .slice p L.length c∧ ∀H2:Hp,S.Sublist H2→new.Sublist H2→RdS B H2 2 (.slice p L.length c) L.length (jaC bs)∧BpE B H2 bs L
theorem withT_le {b:Tb}:(jbL b wr).length≤prodF b (jaa b) wr (jaa b).length 0:=goOn_le b (jaa b) wr (jaa b).length []
def pairK (b:Tb) (wr:List Int) (k:Nat):List (List Int×List Int):=((jbL b wr).take k).map fun ms=>(wr,ms)
theorem pairK_succ {b:Tb} (h:k<(jbL b wr).length):pairK b wr (k+1)=pairK b wr k++[(wr,(jbL b wr).getD k [])]:=by
 rw [pairK,jaV _ k h,GC];rfl
theorem f143_c (m:Md Tryz.prog B) (h S:Hp) {b:Tb} (ra:RawTb B h b ps ns ks pw nw cw pb nb cb) (ok:TbOk b) (hwr:wr.length≤100) {wc:Nat} (hS:S.Sublist h) (rW:RdS B S 1 (.slice wp wr.length wc) wr.length (jav wr)) (hpf:prodF b (jaa b) wr (jaa b).length 0≤1000000):FnC m 143 #[tbV b ps ns ks pw nw cw pb nb cb,.slice wp wr.length wc] h fun v h'=> ∃new,h'=h++new∧RdB B S new v ((jbL b wr).map fun ms=>(wr,ms)):=by
 refine jae Tryz.func143 rfl rfl (l:=[tbV b ps ns ks pw nw cw pb nb cb,.slice wp wr.length wc,undef,undef,undef,undef,undef,undef,undef,undef,undef,undef,undef,undef,undef,undef,undef,undef,undef,undef,undef,undef,undef,undef,undef,undef,undef]) rfl ?_
 intro cf cs K hK
 refine Z2 ?_
 refine jaA rfl zq (fun q2=>jao (jad ?_));refine Z10 ?_;refine jax rfl zq zK (Post:=fun v new=>RdL B [] new v (jbL b wr)) (fun H' hH=>f178_c m ok hwr (jaa b).length H' [] [] wp none wc 0 (ra.keeps (sq hH)) (GN _) ((rW.keeps hS).keeps (sq hH)) ⟨none,0,rfl,rfl,.inl ⟨rfl,rfl⟩⟩ (VP _) zS hpf) ?_
 rintro v nL ⟨pL,cL,vsL,rfl,hL⟩;refine jaz (jad ?_);obtain ⟨rLv,rLe⟩:=hL nL (GN _) (gE _)
 have hwl:=withT_le (b:=b) (wr:=wr)
 refine Z8 ?_
 refine jag (fun nn l h'=> ∃(k:Nat) (op:Option Addr) (oc:Nat) (bs:List Bp) (Mo:Hp),nn=(jbL b wr).length-k∧(k≤(jbL b wr).length)∧(OwnS 102 2 (.slice op k oc) k (jaC bs) Mo)∧(∀H2:Hp,S.Sublist H2→nL.Sublist H2→BpE B H2 bs (pairK b wr k))∧(∃U:Nat→Value,l=((tbV b ps ns ks pw nw cw pb nb cb)::(.slice wp wr.length wc)::(U 2)::(U 3)::(U 4)::(.slice op k oc)::(.slice pL (jbL b wr).length cL)::(.int .i64 (k:Int))::(U 8)::vw18 U 9 []))∧h++[⟨true,q2,.cells (tbL b ps ns ks pw nw cw pb nb cb).toArray 25 (0,0)⟩]++nL++Mo=h') _ ⟨0,none,0,[],[],rfl,by omega,OwnS.nil,fun _ _ _=>BpE.nil,exU rfl,zS⟩ ?_;rintro nn l h' ⟨k,op,oc,bs,Mo,rfl,hk,how,hbe,⟨U,rfl⟩,rfl⟩ hnext;refine Z6 ?_
 refine jam rfl zq (fun hc=>?_) (fun hc=>?_)
 ·refine Z5 ?_
  have hkl:k<(jbL b wr).length:=by omega
  obtain ⟨pk,ck,ek,rk⟩:=rLe.2 k hkl
  obtain ⟨bL,oL,hpL⟩:=rLv.ptr zO
  have rL2:=rLv
  rw [hpL] at rL2
  refine Z5 ?_;refine jaL rfl zq hpL zO zO ?_;refine jaN (v:= .slice pk ((jbL b wr).getD k []).length ck) rfl zq (by rw [←ek];exact rL2.vat k zO zO) ?_;refine D30 ?_
  refine jb7 kdq rfl zq zA zA rfl (fun q24=>jao (jad ?_));refine ja6 rfl zq rfl how kdq zO zO (fun w9 n9 o9=>jad ?_);replace o9:OwnS 102 2 w9 (k+1) (jaC (bs++[⟨wr,(jbL b wr).getD k [],wp,pk,wc,ck⟩])) n9:=by rw [ja0];exact o9
  obtain ⟨p9,c9,rfl,_⟩:=o9.len
  refine Z8 ?_;refine m.weak (h':=h++[⟨true,q2,.cells (tbL b ps ns ks pw nw cw pb nb cb).toArray 25 (0,0)⟩]++nL++n9) jf8 ?_
  exact hnext _ _ _ zO ⟨k+1,p9,c9,bs++[⟨wr,(jbL b wr).getD k [],wp,pk,wc,ck⟩],n9,rfl,by omega,o9,fun H2 s1 s2=>by
    rw [pairK_succ hkl];refine (hbe H2 s1 s2).append ⟨rfl,fun x hx=>?_⟩
    obtain rfl:=gw.1 hx
    exact ⟨rW.keeps s1,rk.keeps s2⟩,exU rfl,rfl⟩
 ·refine Z4 ?_
  obtain rfl:k=(jbL b wr).length:=by omega
  refine Z5 ?_;refine jac (h++nL++Mo) rfl Tryz.func143 rfl jab ?_;refine Zs ?_
  exact E71
end
section
variable [LaidO B]
theorem subsM_len (most:Nat): ∀n,(jai most n).length≤2^n
 |0=>gM _
 |n+1=>by
  have h:=subsM_len most n
  rw [jai,gH,gN,xQ];have:=GX (fun l:List Int=>decide (l.length<most)) (jai most n)
  omega
theorem subsM_12 (most:Nat) (h:n≤12):(jai most n).length≤4096:=GI (subsM_len most n) (GY zA h)
theorem weakOff3a {F1 F2 F3:Hp} [a:Off h' Z F1] [b:Off F1 Y F2] [c:Off F2 X F3] [s:SubH H F3]:Weak B h' (H++X++(Y++Z)):=by
 rw [show H++X++(Y++Z)=H++X++Y++Z by simp only [gI]];exact jkh
def subK (most i k:Nat):List (List Int):=jai most i++(((jai most i).take k).filter fun l=>decide (l.length<most)).map (· ++[(i:Int)])
theorem subK_zero (most i:Nat):subK most i 0=jai most i:=by simp [subK]
theorem subK_all (most i:Nat):subK most i (jai most i).length=jai most (i+1):=by rw [subK,GE];rfl
theorem subK_le:(subK most i k).length≤2*(jai most i).length:=by
 rw [subK,gH,gN];have h1:=GX (fun l:List Int=>decide (l.length<most)) ((jai most i).take k)
 have h2:((jai most i).take k).length≤(jai most i).length:=by rw [GO];omega
 omega
theorem subK_at (h:j<(jai most i).length):(subK most i k).getD j []=(jai most i).getD j []:=by
 rw [subK,gC,gb h,gC]
section
variable (hk:k<(jai most i).length)
include hk
theorem subK_yes (h:((jai most i).getD k []).length<most):subK most i (k+1)=subK most i k++[(jai most i).getD k []++[(i:Int)]]:=by
 rw [subK,jaV _ k hk,GA,GC,subK,gI];congr 2
 show List.map _ (List.filter _ [(jai most i).getD k []])=_
 rw [vk (by simpa using h)];rfl
theorem subK_no (h: ¬((jai most i).getD k []).length<most):subK most i (k+1)=subK most i k:=by
 rw [subK,jaV _ k hk,GA,GC,subK];show _++(_++List.map _ (List.filter _ [(jai most i).getD k []]))=_
 rw [vh (by simpa using h)];simp
end
def boatsK (b:Tb) (k:Nat):List (List Int×List Int):=((jai b.wrong.toNat (jaa b).length).take k).flatMap fun wr=>(jbL b wr).map fun ms=>(wr,ms)
theorem boatsK_succ {b:Tb} (h:k<(jai b.wrong.toNat (jaa b).length).length):boatsK b (k+1)=boatsK b k++((jbL b ((jai b.wrong.toNat (jaa b).length).getD k [])).map fun ms=>((jai b.wrong.toNat (jaa b).length).getD k [],ms)):=by
 rw [boatsK,jaV _ k h,GQ];show _++List.flatMap _ [(jai b.wrong.toNat (jaa b).length).getD k []]=_
 rw [vL,List.flatMap_nil,ge];rfl
theorem boatsK_all (b:Tb):boatsK b (jai b.wrong.toNat (jaa b).length).length=jar b:=by rw [boatsK,GE];rfl
theorem boatsR_len {b:Tb} (ok:TbOk b):(jar b).length=(jah b).length:=by
 rw [(jcV b ok.wrong.1).length_eq,gN];rfl
theorem boatsK_le {b:Tb} (k:Nat):(boatsK b k).length≤(jar b).length:=by
 rw [←boatsK_all,boatsK,boatsK,GE];obtain ⟨r,hr⟩: ∃r,jai b.wrong.toNat (jaa b).length=(jai b.wrong.toNat (jaa b).length).take k++r:=⟨_,(vA k _).symm⟩
 conv=>rhs;rw [hr,GQ,gH]
 exact xH _ _
theorem boatsR_nil {b:Tb} (ok:TbOk b):jar b=[]↔jah b=[]:=by rw [←GB,boatsR_len ok,GB]
theorem prodF_le {b:Tb} (wr:List Int): ∀(k n:Nat),n+k=(jaa b).length→prodF b (jaa b) wr k n≤jd6 ((cdT b).drop n)
 |0,n,h=>by rw [prodF,gP (by rw [jau];omega)];exact gM _
 |k+1,n,h=>by
  have hn:n<(cdT b).length:=by rw [jau];omega
  have ih:=prodF_le (b:=b) wr k (n+1) zO
  have e:(cdT b).drop n=dA (cdT b) n::(cdT b).drop (n+1):=by
   rw [dA,gC,gD hn,gu];exact vN hn
  rw [e,prodF];rw [jd6];rw [can_at zO];refine vo ?_ ih
  unfold jb5
  split
  ·exact Vf 1 _
  ·exact VW 1 _
theorem prodF_sm {b:Tb} (ok:TbOk b) (wr:List Int):prodF b (jaa b) wr (jaa b).length 0≤1000000:=by
 have h1:=prodF_le (b:=b) wr (jaa b).length 0 zO
 rw [xf] at h1
 have:=jkD ok
 omega
theorem f129_c (m:Md Tryz.prog B) (h:Hp) {p:Option Addr} {c:Nat} (rd:RdS B h 1 (.slice p n c) n (jav (jbq n))) (hn:n≤12) (most:Nat) (hm:most≤1000):FnC m 129 #[.slice p n c,.int .i64 (most:Int)] h fun v h'=> ∃new,h'=h++new∧RdL B [] new v (jai most n):=by
 refine jae Tryz.func129 rfl rfl (l:=[.slice p n c,.int .i64 (most:Int),undef,undef,undef,undef,undef,undef,undef,undef,undef,undef,undef,undef,undef,undef,undef,undef,undef,undef,undef,undef,undef,undef,undef,undef,undef,undef,undef,undef,undef,undef,undef,undef,undef,undef,undef,undef,undef,undef,undef,undef,undef,undef,undef,undef]) rfl ?_
 intro cf cs K hK
 refine Z6 ?_
 refine jb7 kdq rfl zq zA zA rfl (fun q9=>jao (jad ?_));refine Z8 ?_
 have o9:OwnS 42 1 (.slice (some ⟨q9,0,none⟩) 1 1) 1 [Value.slice none 0 0] [⟨true,q9,.cells [Value.slice none 0 0].toArray 42 (0,0)⟩]:=OwnS.full rfl
 have e9:RdE B [] [Value.slice none 0 0] [[]]:=RdE.snoc RdE.nil rfl ⟨none,0,rfl,rfl,.inl ⟨rfl,rfl⟩⟩ (gM 0)
 refine jag (fun nn l h'=> ∃(i:Nat) (op:Option Addr) (oc:Nat) (vs:List Value) (Mo Mi:Hp),nn=n-i∧(i≤n)∧(OwnS 42 1 (.slice op (jai most i).length oc) (jai most i).length vs Mo)∧(RdE B Mi vs (jai most i))∧(∃U:Nat→Value,l=((.slice p n c)::(.int .i64 (most:Int))::(U 2)::(U 3)::(U 4)::(.slice op (jai most i).length oc)::(.int .i64 (i:Int))::vw39 U 7 []))∧h++Mo++Mi=h') _ ⟨0,some ⟨q9,0,none⟩,1,[Value.slice none 0 0],[⟨true,q9,.cells [Value.slice none 0 0].toArray 42 (0,0)⟩],[],rfl,by omega,o9,e9,exU rfl,zS⟩ ?_;rintro nn l h' ⟨i,op,oc,vs,Mo,Mi,rfl,hi,how,hre,⟨U,rfl⟩,rfl⟩ hnext1;refine Z6 ?_
 refine jam rfl zq (fun hc=>?_) (fun hc=>?_)
 ·refine Z6 ?_
  have hin:i<n:=by omega
  have hsl:=subsM_12 most (n:=i) zO
  refine Z10 ?_
  rw [←subK_zero] at how hre
  rw [show (.slice op (jai most i).length oc:Value)= .slice op (subK most i 0).length oc by rw [subK_zero]];refine jag (fun nn l h'=> ∃(k:Nat) (op2:Option Addr) (oc2:Nat) (vs2:List Value) (Mo2 Mi2:Hp),nn=(jai most i).length-k∧(k≤(jai most i).length)∧(OwnS 42 1 (.slice op2 (subK most i k).length oc2) (subK most i k).length vs2 Mo2)∧(RdE B Mi2 vs2 (subK most i k))∧(∃U:Nat→Value,l=((.slice p n c)::(.int .i64 (most:Int))::(U 2)::(U 3)::(U 4)::(.slice op2 (subK most i k).length oc2)::(.int .i64 (i:Int))::(.int .i64 ((jai most i).length:Int))::(.int .i64 (k:Int))::vw37 U 9 []))∧h++Mo2++Mi2=h') _ ⟨0,op,oc,vs,Mo,Mi,rfl,by omega,how,hre,exU rfl,rfl⟩ ?_;rintro nn l h' ⟨k,op2,oc2,vs2,Mo2,Mi2,rfl,hk,how2,hre2,⟨U,rfl⟩,rfl⟩ hnext2;refine Z5 ?_
  refine jam rfl zq (fun hc=>?_) (fun hc=>?_)
  ·refine Z6 ?_
   have hkl:k<(jai most i).length:=by omega
   have hsl2:=subK_le (most:=most) (i:=i) (k:=k)
   have hkl2:k<(subK most i k).length:=by rw [subK,gH];omega
   obtain ⟨pk,ck,ek,rk⟩:=hre2.2 k hkl2
   rw [subK_at hkl] at ek rk
   have rov:=how2.rd (B:=B) (gE _)
   obtain ⟨b5,o5,hp5⟩:=rov.ptr zO
   have ro2:=rov
   rw [hp5] at ro2
   have hlk:((jai most i).getD k []).length≤12:=by
    obtain ⟨_,h2,h3⟩:=jbR (jaj (l:=jai most i) hkl)
    exact GI (jje (n:=i) h2 h3) zO
   refine Z3 ?_;refine jaL rfl zq hp5 zO zO ?_;refine jaN (v:= .slice pk ((jai most i).getD k []).length ck) rfl zq (by rw [←ek];exact ro2.vat k zO zO) ?_;refine Z2 ?_
   refine jam rfl zq (fun hc=>?_) (fun hc=>?_)
   ·have hsk:=subK_yes hkl zO
    refine Z2 ?_
    obtain ⟨pb,po,hpp⟩:=rd.ptr zO
    have rd2:=rd
    rw [hpp] at rd2
    refine jbi (S:=h++Mi2) [0,1,2,3,4,5,6,7,8,9,10,11,12,13,14,15] zK zK SubH.sub ?_;refine DrawT.split 1 5 zA (DrawT.split 1 11 zA (DrawT.split 5 11 zA (DrawT.split 6 11 zA ?_ ?_) ?_) ?_) (DrawT.split 1 11 zA (DrawT.split 6 11 zA ?_ ?_) (DrawT.split 5 11 zA ?_ ?_))
    refine DrawT.leaf [Zp 0,Zp 2,Zp 3,Zp 4,Zp 7,Zp 8,Zp 9,Zr 10,Zk 1,Zk 5,Zk 6,Zk 11,Zk 12,Zk 13,Zk 14,Zp 15] zK ?_;refine Z3 ?_;refine jaL rfl zq hp5 zO zO ?_;refine Z2 ?_;refine jaL rfl zq hpp zO zO ?_;refine jaN rfl zq (rd2.iat i zO zO) ?_
    rw [jbp hin];refine jcQ kdq rfl zq (fun q31=>jao (jad ?_));refine jaN (v:= .slice pk ((jai most i).getD k []).length ck) rfl zq (by rw [←ek];exact ro2.vat k zO zO) ?_;refine jbz rfl zq (OwnS.zero (q:=q31)) rk.up (fun u hu=>jba _ u hu) kdq zO zO (fun w91 n91 o91=>jad ?_);replace o91:OwnS 3 1 w91 ((jai most i).getD k []).length (jav ((jai most i).getD k [])) n91:=by simpa using o91
    obtain ⟨p91,c91,rfl,_⟩:=o91.len
    refine jb7 kdq rfl zq zA zA rfl (fun q41=>jao (jad ?_));rotate_left
    refine DrawT.leaf [Zp 0,Zp 2,Zp 3,Zp 4,Zp 7,Zp 8,Zp 9,Zr 10,Zk 1,Zk 5,Zk 11,Zk 6,Zk 12,Zk 13,Zk 14,Zp 15] zK ?_;refine Z3 ?_;refine jaL rfl zq hp5 zO zO ?_;refine Z2 ?_;refine jaL rfl zq hpp zO zO ?_;refine jaN rfl zq (rd2.iat i zO zO) ?_
    rw [jbp hin];refine jcQ kdq rfl zq (fun q31=>jao (jad ?_));refine jaN (v:= .slice pk ((jai most i).getD k []).length ck) rfl zq (by rw [←ek];exact ro2.vat k zO zO) ?_;refine jb7 kdq rfl zq zA zA rfl (fun q41=>jao (jad ?_));refine jbz rfl zq (OwnS.zero (q:=q31)) rk.up (fun u hu=>jba _ u hu) kdq zO zO (fun w91 n91 o91=>jad ?_);replace o91:OwnS 3 1 w91 ((jai most i).getD k []).length (jav ((jai most i).getD k [])) n91:=by simpa using o91
    obtain ⟨p91,c91,rfl,_⟩:=o91.len
    rotate_left
    refine DrawT.leaf [Zp 0,Zp 2,Zp 3,Zp 4,Zp 7,Zp 8,Zp 9,Zr 10,Zk 1,Zk 11,Zk 5,Zk 6,Zk 12,Zk 13,Zk 14,Zp 15] zK ?_;refine Z3 ?_;refine jaL rfl zq hp5 zO zO ?_;refine Z2 ?_;refine jaL rfl zq hpp zO zO ?_;refine jaN rfl zq (rd2.iat i zO zO) ?_
    rw [jbp hin];refine jcQ kdq rfl zq (fun q31=>jao (jad ?_));refine jb7 kdq rfl zq zA zA rfl (fun q41=>jao (jad ?_));refine jaN (v:= .slice pk ((jai most i).getD k []).length ck) rfl zq (by rw [←ek];exact ro2.vat k zO zO) ?_;refine jbz rfl zq (OwnS.zero (q:=q31)) rk.up (fun u hu=>jba _ u hu) kdq zO zO (fun w91 n91 o91=>jad ?_);replace o91:OwnS 3 1 w91 ((jai most i).getD k []).length (jav ((jai most i).getD k [])) n91:=by simpa using o91
    obtain ⟨p91,c91,rfl,_⟩:=o91.len
    rotate_left
    refine DrawT.leaf [Zp 0,Zp 2,Zp 3,Zp 4,Zp 7,Zp 8,Zp 9,Zr 10,Zk 11,Zk 1,Zk 5,Zk 6,Zk 12,Zk 13,Zk 14,Zp 15] zK ?_;refine Z3 ?_;refine jaL rfl zq hp5 zO zO ?_;refine Z2 ?_;refine jaL rfl zq hpp zO zO ?_;refine jaN rfl zq (rd2.iat i zO zO) ?_
    rw [jbp hin];refine jb7 kdq rfl zq zA zA rfl (fun q41=>jao (jad ?_));refine jcQ kdq rfl zq (fun q31=>jao (jad ?_));refine jaN (v:= .slice pk ((jai most i).getD k []).length ck) rfl zq (by rw [←ek];exact ro2.vat k zO zO) ?_;refine jbz rfl zq (OwnS.zero (q:=q31)) rk.up (fun u hu=>jba _ u hu) kdq zO zO (fun w91 n91 o91=>jad ?_);replace o91:OwnS 3 1 w91 ((jai most i).getD k []).length (jav ((jai most i).getD k [])) n91:=by simpa using o91
    obtain ⟨p91,c91,rfl,_⟩:=o91.len
    rotate_left
    refine DrawT.leaf [Zp 0,Zp 2,Zp 3,Zp 4,Zp 7,Zp 8,Zp 9,Zr 10,Zk 5,Zk 1,Zk 6,Zk 11,Zk 12,Zk 13,Zk 14,Zp 15] zK ?_;refine Z3 ?_;refine jaL rfl zq hp5 zO zO ?_;refine Z2 ?_;refine jaL rfl zq hpp zO zO ?_;refine jaN rfl zq (rd2.iat i zO zO) ?_
    rw [jbp hin];refine jaN (v:= .slice pk ((jai most i).getD k []).length ck) rfl zq (by rw [←ek];exact ro2.vat k zO zO) ?_;refine jcQ kdq rfl zq (fun q31=>jao (jad ?_));refine jbz rfl zq (OwnS.zero (q:=q31)) rk.up (fun u hu=>jba _ u hu) kdq zO zO (fun w91 n91 o91=>jad ?_);replace o91:OwnS 3 1 w91 ((jai most i).getD k []).length (jav ((jai most i).getD k [])) n91:=by simpa using o91
    obtain ⟨p91,c91,rfl,_⟩:=o91.len
    refine jb7 kdq rfl zq zA zA rfl (fun q41=>jao (jad ?_));rotate_left
    refine DrawT.leaf [Zp 0,Zp 2,Zp 3,Zp 4,Zp 7,Zp 8,Zp 9,Zr 10,Zk 5,Zk 1,Zk 11,Zk 6,Zk 12,Zk 13,Zk 14,Zp 15] zK ?_;refine Z3 ?_;refine jaL rfl zq hp5 zO zO ?_;refine Z2 ?_;refine jaL rfl zq hpp zO zO ?_;refine jaN rfl zq (rd2.iat i zO zO) ?_
    rw [jbp hin];refine jaN (v:= .slice pk ((jai most i).getD k []).length ck) rfl zq (by rw [←ek];exact ro2.vat k zO zO) ?_;refine jcQ kdq rfl zq (fun q31=>jao (jad ?_));refine jb7 kdq rfl zq zA zA rfl (fun q41=>jao (jad ?_));refine jbz rfl zq (OwnS.zero (q:=q31)) rk.up (fun u hu=>jba _ u hu) kdq zO zO (fun w91 n91 o91=>jad ?_);replace o91:OwnS 3 1 w91 ((jai most i).getD k []).length (jav ((jai most i).getD k [])) n91:=by simpa using o91
    obtain ⟨p91,c91,rfl,_⟩:=o91.len
    rotate_left
    refine DrawT.leaf [Zp 0,Zp 2,Zp 3,Zp 4,Zp 7,Zp 8,Zp 9,Zr 10,Zk 5,Zk 11,Zk 1,Zk 6,Zk 12,Zk 13,Zk 14,Zp 15] zK ?_;refine Z3 ?_;refine jaL rfl zq hp5 zO zO ?_;refine Z2 ?_;refine jaL rfl zq hpp zO zO ?_;refine jaN rfl zq (rd2.iat i zO zO) ?_
    rw [jbp hin];refine jaN (v:= .slice pk ((jai most i).getD k []).length ck) rfl zq (by rw [←ek];exact ro2.vat k zO zO) ?_;refine jb7 kdq rfl zq zA zA rfl (fun q41=>jao (jad ?_));refine jcQ kdq rfl zq (fun q31=>jao (jad ?_));refine jbz rfl zq (OwnS.zero (q:=q31)) rk.up (fun u hu=>jba _ u hu) kdq zO zO (fun w91 n91 o91=>jad ?_);replace o91:OwnS 3 1 w91 ((jai most i).getD k []).length (jav ((jai most i).getD k [])) n91:=by simpa using o91
    obtain ⟨p91,c91,rfl,_⟩:=o91.len
    rotate_left
    refine DrawT.leaf [Zp 0,Zp 2,Zp 3,Zp 4,Zp 7,Zp 8,Zp 9,Zr 10,Zk 11,Zk 5,Zk 1,Zk 6,Zk 12,Zk 13,Zk 14,Zp 15] zK ?_;refine Z3 ?_;refine jaL rfl zq hp5 zO zO ?_;refine Z2 ?_;refine jaL rfl zq hpp zO zO ?_;refine jaN rfl zq (rd2.iat i zO zO) ?_
    rw [jbp hin];refine jb7 kdq rfl zq zA zA rfl (fun q41=>jao (jad ?_));refine jaN (v:= .slice pk ((jai most i).getD k []).length ck) rfl zq (by rw [←ek];exact ro2.vat k zO zO) ?_;refine jcQ kdq rfl zq (fun q31=>jao (jad ?_));refine jbz rfl zq (OwnS.zero (q:=q31)) rk.up (fun u hu=>jba _ u hu) kdq zO zO (fun w91 n91 o91=>jad ?_);replace o91:OwnS 3 1 w91 ((jai most i).getD k []).length (jav ((jai most i).getD k [])) n91:=by simpa using o91
    obtain ⟨p91,c91,rfl,_⟩:=o91.len
    all_goals
     refine ja6 rfl zq rfl o91 kdq zO zO (fun w97 n97 o97=>jad ?_);replace o97:OwnS 3 1 w97 (((jai most i).getD k []).length+1) (jav ((jai most i).getD k []++[(i:Int)])) n97:=by rw [jbo];exact o97
     obtain ⟨p97,c97,rfl,_⟩:=o97.len
     have r97:=o97.rd (B:=B) (gE _)
     refine jb7 kdq rfl zq zA zA rfl (fun q43=>jao (jad ?_));refine ja6 rfl zq rfl how2 kdq zO zO (fun w99 n99 o99=>jad ?_);replace o99:OwnS 42 1 w99 (subK most i (k+1)).length (vs2++[.slice p97 (((jai most i).getD k []).length+1) c97]) n99:=by rw [hsk,gH];exact o99
     obtain ⟨p99,c99,rfl,_⟩:=o99.len
     refine Z8 ?_;refine m.weak (h':=h++n99++(Mi2++n97)) weakOff3a ?_
     exact E73
   ·have hsk:=subK_no hkl zO
    refine Z9 ?_
    rw [←hsk];exact E75
  ·refine Z4 ?_
   obtain rfl:k=(jai most i).length:=by omega
   refine Z5 ?_
   rw [subK_all];exact E76
 ·refine Z4 ?_
  obtain rfl:i=n:=by omega
  refine Z5 ?_;refine jac (h++Mo++Mi) rfl Tryz.func129 rfl jab ?_;refine Zs ?_
  exact E77
end
section
variable [LaidO B]
theorem sub_12 {b:Tb} (ok:TbOk b) (hk:k<(jai b.wrong.toNat (jaa b).length).length):((jai b.wrong.toNat (jaa b).length).getD k []).length≤100:=by
 obtain ⟨h1,_,_⟩:=jbR (jaj (l:=jai b.wrong.toNat (jaa b).length) hk)
 have h2:((jai b.wrong.toNat (jaa b).length).getD k []).length≤b.wrong.toNat:=h1
 have:=ok.wrong
 omega
def askedS (b:Tb) (th:Bool) (own:Int):Int:=if tbS b≠0 then tbS b else if th=false then 6 else if own≠0 then own else if jah b=[] then 9 else 0
theorem askedS_open {b:Tb} {th:Bool} {own:Int}:askedS b th own=jaH b (if th=false then 6 else own):=by
 unfold askedS jaH
 cases th with
 |true=>simp
 |false=>simp
theorem f141_c (m:Md Tryz.prog B) (h:Hp) {b:Tb} (ra:RawTb B h b ps ns ks pw nw cw pb nb cb) (ok:TbOk b):FnC m 141 #[tbV b ps ns ks pw nw cw pb nb cb] h fun v h'=> ∃new,h'=h++new∧RdB B [] new v (jar b):=by
 have rd:=ra.rd ok
 have h12:=ja3 ok
 have hs4:=subsM_12 b.wrong.toNat h12
 have hwo:=ok.wrong
 have hwn:b.wrong=((b.wrong.toNat:Nat):Int):=by omega
 refine jae Tryz.func141 rfl rfl (l:=(tbV b ps ns ks pw nw cw pb nb cb)::uu27) rfl ?_
 intro cf cs K hK
 refine Z2 ?_
 refine jaA rfl zq (fun q1=>jao (jad ?_));refine Z7 ?_;refine jbi [0,1,2,3,4,5,6,7] zK zK (gE _) ?_;refine DrawT.leaf [Zp 4,Zr 0,Zr 5,Zk 1,Zp 2,Zk 3,Zk 6,Zp 7] zK ?_;refine Z3 ?_;refine jax rfl zq zK (Post:=fun w new=>OwnS 37 3 w (jaa b).length (jaC (jaa b)) new) (fun H' hH=>f26_c _ H' (rd.keeps (sq hH))) ?_
 rintro w n7 o7;refine jaz (jad ?_);obtain ⟨p7,c7,rfl,hc7,r7⟩:=jas (B:=B) o7
 refine Zs ?_;refine jax rfl zq zK (Post:=fun w new=>OwnS 3 1 w (jaa b).length (jav (jbq (jaa b).length)) new) (fun H' hH=>f128_c m H' (jaa b).length zO) ?_
 rintro w nF oF;refine jaz (jad ?_);obtain ⟨pF,cF,rfl,_,rF⟩:=jas (B:=B) oF
 refine jax rfl zq zK (Post:=fun v new=>RdL B [] new v (jai b.wrong.toNat (jaa b).length)) (fun H' hH=>by have:=f129_c m H' (rF.keeps (sq hH)) h12 b.wrong.toNat zO;rw [←hwn] at this;exact this) ?_;rintro v nS ⟨pS,cS,vsS,rfl,hSS⟩;refine jaz (jad ?_);obtain ⟨rSv,rSe⟩:=hSS nS (GN _) (gE _)
 refine Z8 ?_;refine m.weak (h':=h++[⟨true,q1,.cells (tbL b ps ns ks pw nw cw pb nb cb).toArray 25 (0,0)⟩]++nS) jab ?_
 refine jag (fun nn l h'=> ∃(k:Nat) (op:Option Addr) (oc:Nat) (bs:List Bp) (Mo Mi:Hp),nn=(jai b.wrong.toNat (jaa b).length).length-k∧(k≤(jai b.wrong.toNat (jaa b).length).length)∧(OwnS 102 2 (.slice op (boatsK b k).length oc) (boatsK b k).length (jaC bs) Mo)∧(BpE B (nS++Mi) bs (boatsK b k))∧(∃U:Nat→Value,l=((tbV b ps ns ks pw nw cw pb nb cb)::(.pointer (some ⟨q1,0,none⟩))::(U 2)::(.slice op (boatsK b k).length oc)::(.slice pS (jai b.wrong.toNat (jaa b).length).length cS)::(.int .i64 (k:Int))::vw22 U 6 []))∧h++[⟨true,q1,.cells (tbL b ps ns ks pw nw cw pb nb cb).toArray 25 (0,0)⟩]++nS++Mo++Mi=h') _ ⟨0,none,0,[],[],[],rfl,by omega,OwnS.nil,BpE.nil,exU rfl,zS⟩ ?_;rintro nn l h' ⟨k,op,oc,bs,Mo,Mi,rfl,hk,how,hbe,⟨U,rfl⟩,rfl⟩ hnext;refine Z6 ?_
 refine jam rfl zq (fun hc=>?_) (fun hc=>?_)
 ·refine Z5 ?_
  have hkl:k<(jai b.wrong.toNat (jaa b).length).length:=by omega
  obtain ⟨pk,ck,ek,rk⟩:=rSe.2 k hkl
  obtain ⟨b5,o5,hp5⟩:=rSv.ptr zO
  have rS2:=rSv
  rw [hp5] at rS2
  have hbl:=boatsR_len ok
  have hbl2:=jbr ok
  have hk1:=boatsK_le (b:=b) (k+1)
  rw [boatsK_succ hkl,gH] at hk1
  refine jbi (S:=h++[⟨true,q1,.cells (tbL b ps ns ks pw nw cw pb nb cb).toArray 25 (0,0)⟩]++nS++Mi) [0,1,2,3,4,5,6,7,8] zK zK SubH.sub ?_;refine DrawT.leaf [Zp 0,Zp 2,Zp 3,Zp 4,Zr 1,Zr 5,Zk 6,Zk 7,Zp 8] zK ?_;refine Z3 ?_;refine jaL rfl zq hp5 zO zO ?_;refine Zs ?_;refine jaN (v:= .slice pk ((jai b.wrong.toNat (jaa b).length).getD k []).length ck) rfl zq (by rw [←ek];exact rS2.vat k zO zO) ?_;refine jax rfl zq zK (Post:=fun v new=>RdB B nS new v ((jbL b ((jai b.wrong.toNat (jaa b).length).getD k [])).map fun ms=>((jai b.wrong.toNat (jaa b).length).getD k [],ms))) (fun H' hH=>f143_c m H' nS (ra.keeps (sq hH)) ok (sub_12 ok hkl) (sq hH) rk (prodF_sm ok _)) ?_;rintro v n98 ⟨p98,c98,bs98,rfl,h98⟩;refine jaz (jad ?_);have rd98:=(h98 (nS++n98) (gG _ _) (gK _ _)).1
  have be98:=(h98 (nS++n98) (gG _ _) (gK _ _)).2
  refine jbz rfl zq how (h98 _ SubH.sub SubH.sub).1 (fun u hu=>jdr _ u hu) kdq zO zO (fun w99 n99 o99=>jad ?_);replace o99:OwnS 102 2 w99 (boatsK b (k+1)).length (jaC (bs++bs98)) n99:=by rw [boatsK_succ hkl,gH,ja0];exact o99
  obtain ⟨p99,c99,rfl,_⟩:=o99.len
  refine Z8 ?_;refine m.weak (h':=h++[⟨true,q1,.cells (tbL b ps ns ks pw nw cw pb nb cb).toArray 25 (0,0)⟩]++nS++n99++(Mi++n98)) weakOff3a ?_
  exact hnext _ _ _ zO ⟨k+1,p99,c99,bs++bs98,n99,Mi++n98,rfl,by omega,o99,by
    rw [boatsK_succ hkl];refine (hbe.keeps (by rw [←gI];exact gG _ _)).append (h98 _ (gG _ _) (by rw [←gI];exact E41)).2,exU rfl,rfl⟩
 ·refine Z4 ?_
  obtain rfl:k=(jai b.wrong.toNat (jaa b).length).length:=by omega
  rw [boatsK_all] at how hbe⊢
  refine Z5 ?_;refine jac (h++nS++Mo++Mi) rfl Tryz.func141 rfl jab ?_;refine Zs ?_
  exact E78
theorem f130_c (m:Md Tryz.prog B) (h:Hp) {b:Tb} (ra:RawTb B h b ps ns ks pw nw cw pb nb cb) (th:Bool) (own:Int):FnC m 130 #[tbV b ps ns ks pw nw cw pb nb cb,.bool th,.int .i64 own] h fun v h'=> ∃new,h'=h++new∧ ∃w,v= .tuple [w,.int .i64 (askedS b th own)].toArray∧(askedS b th own=0→RdB B [] new w (jar b)):=by
 refine jae Tryz.func130 rfl rfl (l:=(tbV b ps ns ks pw nw cw pb nb cb)::(.bool th)::(.int .i64 own)::uu23) rfl ?_
 intro cf cs K hK
 refine Z2 ?_
 refine jaA rfl zq (fun q1=>jao (jad ?_));refine Z7 ?_;refine jaf (Post:=fun v=>v= .int .i64 (tbS b)) rfl zq zK (fun H' hH=>f66_r m H' (ra.keeps (sq hH))) ?_
 rintro v rfl;refine Z6 ?_
 refine jaI rfl zq (fun hc=>?_) (fun hc=>?_)
 ·refine Z9 ?_;refine jac (h) rfl Tryz.func130 rfl jab ?_;refine Zs ?_
  have ha:askedS b th own=tbS b:=by rw [askedS,if_pos zO]
  exact ⟨[],by simp,_,by rw [ha],fun e=>absurd (ha▸e) zO⟩
 ·refine Z5 ?_
  have hz:tbS b=0:=by omega
  have ok:=jej hz
  have ha:askedS b th own=if th=false then 6 else if own≠0 then own else if jah b=[] then 9 else 0:=by rw [askedS,if_neg (fun e=>e hz)]
  cases th
  ·refine Z11 ?_;refine jac (h) rfl Tryz.func130 rfl jab ?_;refine Zs ?_
   have ha2:askedS b false own=6:=by rw [ha,if_pos rfl]
   exact E79
  ·refine Z10 ?_
   refine jaI rfl zq (fun hc=>?_) (fun hc=>?_)
   ·refine Z9 ?_;refine jac (h) rfl Tryz.func130 rfl jab ?_;refine Zs ?_
    have ha2:askedS b true own=own:=by rw [ha,if_neg zA,if_pos zO]
    exact ⟨[],by simp,_,by rw [ha2],fun e=>absurd (ha2▸e) zO⟩
   ·refine Z6 ?_;refine jax rfl zq zK (Post:=fun v new=>RdB B [] new v (jar b)) (fun H' hH=>f141_c m H' (ra.keeps (sq hH)) ok) ?_
    rintro v nB ⟨pB,cB,bs,rfl,hB⟩;refine jaz (jad ?_);have hbl:=boatsR_len ok
    refine Z7 ?_
    refine jaE rfl zq (fun hc=>?_) (fun hc=>?_)
    ·refine Z8 ?_;refine jac (h) rfl Tryz.func130 rfl jab ?_;refine Zs ?_
     have hn:jah b=[]:=GB.1 zO
     have ha2:askedS b true own=9:=by rw [ha,if_neg zA,if_neg zO,if_pos hn]
     exact E79
    ·refine Z10 ?_;refine jac (h++nB) rfl Tryz.func130 rfl jab ?_;refine Zs ?_
     have hn: ¬jah b=[]:=fun e=>by
      have h0:(jar b).length=0:=by rw [(boatsR_nil ok).2 e];rfl
      omega
     have ha2:askedS b true own=0:=by rw [ha,if_neg zA,if_neg zO,if_neg hn]
     exact ⟨nB,rfl,_,by rw [ha2],fun _=>⟨pB,cB,bs,rfl,hB⟩⟩
end
section
variable [LaidO B]
theorem boOf_self {x:Bo} (h:x.length=n):boOf n (jbH x) (jcE x)=x:=by
 refine Ga (by rw [boOf_len,h]) fun i h1 h2=>?_
 rw [boOf_len] at h1
 have e:=xA_boOf (wr:=jbH x) (ms:=jcE x) h1
 rw [xA,gC,gD (by rw [boOf_len];exact h1),gu] at e
 rw [e];have hx:xA x i=x[i]:=by rw [xA,gC,gD h2];rfl
 by_cases hw:(i:Int)∈jbH x
 ·obtain ⟨j,e1,e2,e3⟩:=jcA.1 hw
  obtain rfl:i=j:=by omega
  rw [if_pos hw,←hx,e3]
 ·rw [if_neg hw,←hx];cases hv:xA x i with
  |none=>exact absurd (jcA.2 ⟨i,rfl,h2,hv⟩) hw
  |some v=>
   rw [jcE,gC,gX,gD h2,←hx,hv];rfl
theorem boatsR_mem {b:Tb} (ok:TbOk b) {q:List Int×List Int} (h:q∈jar b):q.2.length=(jaa b).length∧q.1.length≤12:=by
 obtain ⟨x,hx,rfl⟩:=gR.1 ((jcV b ok.wrong.1).mem_iff.1 h)
 have hl:=jeb hx
 rw [jau] at hl
 refine ⟨by show (jcE x).length=_;rw [jcE,gN,hl],?_⟩
 show (jbH x).length≤12
 rw [jbH,gN];have h1:=GX (fun i=>(xA x i).isNone) (List.range x.length)
 rw [Vs] at h1
 have:=ja3 ok
 omega
end
section
variable [LaidO B]
theorem jrn {b:Tb} {c:Ce}:0≤idxC (jaa b) c↔c∈jaa b:=by
 rw [←jlU,idxC,plN];split
 ·rename_i h
  exact ⟨fun _=>h,fun _=>by omega⟩
 ·rename_i h
  exact ⟨fun e=>absurd e zA,fun e=>absurd e h⟩
theorem jpP (b:Tb):0<((jbL b []).map fun ms=>(([]:List Int),ms)).length↔jbt (cdT b)=true:=by
 have e:jbL b []=(jfT (cdT b) (jdw 0 (jaa b).length)).map jcE:=jld (jlA (l:=[]) (fun z hz=>by cases hz) _)
 rw [gN,e,gN,VI];exact jif b
theorem f134_c (m:Md Tryz.prog B) (h:Hp) {b:Tb} (ra:RawTb B h b ps ns ks pw nw cw pb nb cb) (c:Ce):FnC m 134 #[tbV b ps ns ks pw nw cw pb nb cb,cV c.butt c.line c.st] h fun v h'=>h'=h∧IsB (tbS b=0∧c∈jaa b) v:=by
 refine jae Tryz.func134 rfl rfl (l:=(tbV b ps ns ks pw nw cw pb nb cb)::(cV c.butt c.line c.st)::uu12) rfl ?_
 intro cf cs K hK
 refine Z2 ?_
 refine jaA rfl zq (fun q2=>jao (jad ?_));refine jaA rfl zq (fun q3=>jao (jad ?_));refine Z5 ?_;refine jaf (Post:=fun v=>v= .int .i64 (tbS b)) rfl zq zK (fun H' hH=>f66_r m H' (ra.keeps (sq hH))) ?_
 rintro v rfl;refine Zs ?_
 refine jaE rfl zq (fun hc=>?_) (fun hc=>?_)
 ·refine Zs ?_;refine jhI rfl rfl ?_;refine jhI rfl rfl ?_
  have hz:tbS b=0:=by omega
  refine jaf (Post:=fun v=>v= .int .i64 (idxC (jaa b) c)) rfl rfl zK (fun H' hH=>f51_c m H' ((ra.rd (jej hz)).keeps (sq hH)) c) ?_;rintro v rfl;refine Zs ?_
  refine jdH rfl rfl (fun hc=>?_) (fun hc=>?_);have him:=jrn.1 hc
  rotate_left
  have him:c∉jaa b:=fun e=>by have:=jrn.2 e;omega
  all_goals
   refine Z4 ?_;refine jac (h) rfl Tryz.func134 rfl jab ?_;refine Zs ?_
   first
    |exact ⟨rfl,IsB.yes ⟨hz,him⟩⟩
    |exact ⟨rfl,IsB.no fun e=>him e.2⟩
    |exact ⟨rfl,IsB.no fun e=>absurd e.1 zO⟩
 ·refine Z9 ?_;refine jac (h) rfl Tryz.func134 rfl jab ?_;refine Zs ?_
  first
   |exact ⟨rfl,IsB.yes ⟨hz,him⟩⟩
   |exact ⟨rfl,IsB.no fun e=>him e.2⟩
   |exact ⟨rfl,IsB.no fun e=>absurd e.1 zO⟩
theorem f127_c (m:Md Tryz.prog B) (h:Hp) {b:Tb} (ra:RawTb B h b ps ns ks pw nw cw pb nb cb) (ok:TbOk b):FnC m 127 #[tbV b ps ns ks pw nw cw pb nb cb] h fun v h'=>h'=h∧IsB (jbt (cdT b)=true) v:=by
 refine jae Tryz.func127 rfl rfl (l:=(tbV b ps ns ks pw nw cw pb nb cb)::uu6) rfl ?_
 intro cf cs K hK
 refine Z2 ?_
 refine jaA rfl zq (fun q1=>jao (jad ?_));refine Z5 ?_;refine jax rfl zq zK (Post:=fun v new=>RdB B [] new v ((jbL b []).map fun ms=>(([]:List Int),ms))) (fun H' hH=>f143_c m H' [] (ra.keeps (sq hH)) ok (wr:=[]) zS (wp:=none) (wc:=0) (GN _) ⟨none,0,rfl,rfl,.inl ⟨rfl,rfl⟩⟩ (prodF_sm ok _)) ?_
 rintro v nB ⟨pB,cB,bs,rfl,hB⟩;refine jaz (jad ?_);have hsd:=jpP b
 refine Zs ?_
 refine jaJ rfl zq (fun hc=>?_) (fun hc=>?_);all_goals
  refine Z3 ?_;refine jac (h) rfl Tryz.func127 rfl jab ?_;refine Zs ?_
  first
   |exact ⟨rfl,IsB.yes (hsd.1 zO)⟩
   |exact ⟨rfl,IsB.no fun e=>by have:=hsd.2 e;omega⟩
end
section
variable [LaidO B]
theorem jps (n:Nat):Asc (jbq n):=by
 unfold Asc jbq
 rw [Gi];exact vt.imp fun h=>by omega
theorem jj2: ∀z∈jbq n,0≤z∧z<(n:Int):=fun z hz=>by
 obtain ⟨i,hi,rfl⟩:=gR.1 hz
 have:=gT.1 hi
 omega
theorem jpr (n:Nat):(jbq n).length=n:=by simp [jbq]
structure BestI (b:Tb) (i:Nat) (g:List Int):Prop where
 asc:Asc g
 rng: ∀z∈g,0≤z∧z<((jaa b).length:Int)
 few:fewB b (jbN g)=true
 least: ∀j,j<i→fewB b (jbN ((jai (jaa b).length (jaa b).length).getD j []))=true→ ¬jdh ((jai (jaa b).length (jaa b).length).getD j []) g
section
variable {b:Tb} {g:List Int} (hqq:BestI b i g)
include hqq
end
end
section
variable [LaidO B]
theorem jmx {b:Tb} (h: ¬jbt (cdT b)=true):jcK b (jbN (jbq (jaa b).length))=true:=by
 rw [jfv,jgk _ _ (fun x hx=>?_) (by rw [jb3,jau])]
 ·exact h
 ·obtain ⟨i,hi,rfl⟩:=gR.1 hx
  show Nat.testBit _ _=true
  rw [jbQ fun z hz=>(jj2 z hz).1];exact decide_eq_true (gR.2 ⟨i,hi,rfl⟩)
structure BestC (b:Tb) (i:Nat) (g:List Int):Prop where
 asc:Asc g
 rng: ∀z∈g,0≤z∧z<((jaa b).length:Int)
 few:jcK b (jbN g)=true
 least: ∀j,j<i→jcK b (jbN ((jai (jaa b).length (jaa b).length).getD j []))=true→ ¬jdh ((jai (jaa b).length (jaa b).length).getD j []) g
theorem jpA {b:Tb} (h: ¬jbt (cdT b)=true):BestC b 0 (jbq (jaa b).length):=⟨jps _,jj2,jmx h,fun j hj=>by omega⟩
section
variable {b:Tb} {i:Nat} {g:List Int} (hqq:BestC b i g)
include hqq
theorem BestC.keep (hn: ¬(jdh ((jai (jaa b).length (jaa b).length).getD i []) g∧jcK b (jbN ((jai (jaa b).length (jaa b).length).getD i []))=true)):BestC b (i+1) g:=⟨hqq.asc,hqq.rng,hqq.few,fun j hj hp hf=>by
 by_cases e:j<i
 ·exact hqq.least j e hp hf
 ·obtain rfl:j=i:=by omega
  exact hn ⟨hf,hp⟩⟩
theorem BestC.take (hi:i<(jai (jaa b).length (jaa b).length).length) (h1:jdh ((jai (jaa b).length (jaa b).length).getD i []) g) (h2:jcK b (jbN ((jai (jaa b).length (jaa b).length).getD i []))=true):BestC b (i+1) ((jai (jaa b).length (jaa b).length).getD i []):=by
 obtain ⟨_,a1,a2⟩:=jbR (jaj (l:=jai (jaa b).length (jaa b).length) hi)
 exact ⟨a1,a2,h2,fun j hj hp hf=>by
  by_cases e:j<i
  ·exact hqq.least j e hp (jf1 hf h1)
  ·obtain rfl:j=i:=by omega
   exact jhz _ hf⟩
end
theorem BestC.all {b:Tb} {g:List Int} (h:BestC b (jai (jaa b).length (jaa b).length).length g):jdU (fun l=>jcK b (jbN l)=true) (jaa b).length g:=⟨h.asc,h.rng,h.few,fun xs ha hr hp hf=>by
 obtain ⟨j,hj,e⟩:=GK.1 (jgd (most:=(jaa b).length) (jje ha hr) ha hr)
 have e2:(jai (jaa b).length (jaa b).length).getD j []=xs:=by rw [gC,gD hj];exact e
 exact h.least j hj (by rw [e2];exact hp) (by rw [e2];exact hf)⟩
theorem f71_c (m:Md Tryz.prog B) (h:Hp) {b:Tb} (ra:RawTb B h b ps ns ks pw nw cw pb nb cb):FnC m 71 #[tbV b ps ns ks pw nw cw pb nb cb] h fun v h'=> ∃new,h'=h++new∧ ∃w g,v= .tuple [w,.int .i64 (tbS b)].toArray∧RdI B new w g∧(tbS b≠0→g=[])∧(tbS b=0→jbt (cdT b)=true→g=[])∧(tbS b=0→ ¬jbt (cdT b)=true→jdU (fun l=>jcK b (jbN l)=true) (jaa b).length g):=by
 refine jae Tryz.func71 rfl rfl (l:=[tbV b ps ns ks pw nw cw pb nb cb,undef,undef,undef,undef,undef,undef,undef,undef,undef,undef,undef,undef,undef,undef,undef,undef,undef,undef,undef,undef,undef,undef,undef,undef,undef,undef,undef,undef,undef,undef,undef,undef,undef,undef,undef,undef,undef,undef,undef,undef,undef,undef,undef,undef,undef,undef,undef,undef,undef]) rfl ?_
 intro cf cs K hK
 refine Z2 ?_
 refine jaA rfl zq (fun q1=>jao (jad ?_));refine Z7 ?_;refine jaf (Post:=fun v=>v= .int .i64 (tbS b)) rfl zq zK (fun H' hH=>f66_r m H' (ra.keeps (sq hH))) ?_
 rintro v rfl;refine Z6 ?_
 refine jaI rfl zq (fun hc=>?_) (fun hc=>?_)
 ·refine Z9 ?_;refine jac (h) rfl Tryz.func71 rfl jab ?_;refine Zs ?_
  exact ⟨[],by simp,_,[],rfl,⟨none,0,rfl,none,0,rfl,rfl,.inl ⟨rfl,rfl⟩⟩,fun _=>rfl,fun _ _=>rfl,fun e=>absurd e zO⟩
 ·refine Z5 ?_
  have hz:tbS b=0:=by omega
  have ok:=jej hz
  have h12:=ja3 ok
  have rd:=ra.rd ok
  refine Z2 ?_;refine jaf (Post:=fun v=>IsB _ v) rfl zq zK (fun H' hH=>f127_c m H' (ra.keeps (sq hH)) ok) ?_
  rintro v (⟨hc,rfl⟩|⟨hc,rfl⟩)
  ·refine Zs ?_
   have hsd:=hc
   refine Z8 ?_;refine jac (h) rfl Tryz.func71 rfl jab ?_;refine Zs ?_
   exact ⟨[],by simp,_,[],by rw [hz];rfl,⟨none,0,rfl,none,0,rfl,rfl,.inl ⟨rfl,rfl⟩⟩,fun _=>rfl,fun _ _=>rfl,fun _ e=>absurd hsd e⟩
  ·refine Zs ?_
   have hsd:=hc
   refine Z6 ?_;refine jax rfl zq zK (Post:=fun w new=>OwnS 37 3 w (jaa b).length (jaC (jaa b)) new) (fun H' hH=>f26_c _ H' (rd.keeps (sq hH))) ?_
   rintro w n7 o7;refine jaz (jad ?_);obtain ⟨p7,c7,rfl,hc7,r7⟩:=jas (B:=B) o7
   refine Zs ?_;refine jax rfl zq zK (Post:=fun w new=>OwnS 3 1 w (jaa b).length (jav (jbq (jaa b).length)) new) (fun H' hH=>f128_c m H' (jaa b).length zO) ?_
   rintro w nF oF;refine jaz (jad ?_);obtain ⟨pF,cF,rfl,_,rF⟩:=jas (B:=B) oF
   refine Z7 ?_;refine jax rfl zq zK (Post:=fun v new=>RdL B [] new v (jai (jaa b).length (jaa b).length)) (fun H' hH=>f129_c m H' (rF.keeps (sq hH)) h12 (jaa b).length zO) ?_
   rintro v nS ⟨pS,cS,vsS,rfl,hSS⟩;refine jaz (jad ?_);obtain ⟨rSv,rSe⟩:=hSS nS (GN _) (gE _)
   have hs4:=subsM_12 (jaa b).length h12
   refine Z8 ?_;refine m.weak (h':=h++[⟨true,q1,.cells (tbL b ps ns ks pw nw cw pb nb cb).toArray 25 (0,0)⟩]++nF++nS) jab ?_
   have hfl:=jpr (jaa b).length
   rw [show (.slice pF (jaa b).length cF:Value)= .slice pF (jbq (jaa b).length).length cF by rw [hfl]];refine jag (fun nn l h'=> ∃(i:Nat) (gg:List Int) (pg:Option Addr) (cg:Nat),nn=(jai (jaa b).length (jaa b).length).length-i∧(i≤(jai (jaa b).length (jaa b).length).length)∧(BestC b i gg)∧(RdS B (nF++nS) 1 (.slice pg gg.length cg) gg.length (jav gg))∧(∃U:Nat→Value,l=((tbV b ps ns ks pw nw cw pb nb cb)::(.pointer (some ⟨q1,0,none⟩))::(U 2)::(U 3)::(U 4)::(.slice pg gg.length cg)::(.slice pS (jai (jaa b).length (jaa b).length).length cS)::(.int .i64 (i:Int))::vw42 U 8 []))∧h++[⟨true,q1,.cells (tbL b ps ns ks pw nw cw pb nb cb).toArray 25 (0,0)⟩]++nF++nS=h') _ ⟨0,jbq (jaa b).length,pF,cF,rfl,by omega,jpA hsd,by rw [hfl];exact rF.keeps (gG _ _),exU rfl,rfl⟩ ?_;rintro nn l h' ⟨i,gg,pg,cg,rfl,hi,hB,rg,⟨U,rfl⟩,rfl⟩ hnext;refine Z6 ?_
   refine jam rfl zq (fun hc=>?_) (fun hc=>?_)
   ·refine Z6 ?_
    have hil:i<(jai (jaa b).length (jaa b).length).length:=by omega
    obtain ⟨pk,ck,ek,rk⟩:=rSe.2 i hil
    obtain ⟨b5,o5,hp5⟩:=rSv.ptr zO
    have rS2:=rSv
    rw [hp5] at rS2
    obtain ⟨hlk,hak,hrk⟩:=jbR (jaj (l:=(jai (jaa b).length (jaa b).length)) hil)
    replace hlk:((jai (jaa b).length (jaa b).length).getD i []).length≤(jaa b).length:=hlk
    replace hrk: ∀z∈((jai (jaa b).length (jaa b).length).getD i []),0≤z∧z<((jaa b).length:Int):=hrk
    have hgl:=jje hB.asc hB.rng
    have hww:=jo9 ok (l:=((jai (jaa b).length (jaa b).length).getD i [])) fun z hz=>(hrk z hz).1
    refine jaq [Zp 0,Zp 1,Zp 2,Zp 4,Zr 3,Zk 5,Zp 6,Zp 8,Zp 9,Zp 10,Zr 7,Zr 11,Zk 12,Zk 13,Zp 14,Zp 15] zK zK (gE _) ?_;refine Z2 ?_;refine jaL rfl zq hp5 zO zO ?_;refine Zs ?_;refine jaN (v:= .slice pk ((jai (jaa b).length (jaa b).length).getD i []).length ck) rfl zq (by rw [←ek];exact rS2.vat i zO zO) ?_;refine jaf (Post:=fun v=>IsB _ v) rfl zq zK (fun H' hH=>f48_c m H' (rk.keeps (sq hH)) zO (rg.keeps (sq hH))) ?_;rintro v (⟨hc,rfl⟩|⟨hc,rfl⟩)
    ·refine Zs ?_
     have hfw:=hc
     refine Z3 ?_;refine jaL rfl rfl hp5 zO zO ?_;refine jhI rfl rfl ?_;refine jaN (v:= .slice pk ((jai (jaa b).length (jaa b).length).getD i []).length ck) rfl rfl (by rw [←ek];exact rS2.vat i zO zO) ?_;refine jax rfl rfl zK (Post:=fun v new=> ∃pw1 cw1 pb1 cb1,v=tbV (jkG b ((jai (jaa b).length (jaa b).length).getD i [])) ps ns ks pw1 nw cw1 pb1 nb cb1∧ ∀H2,h.Sublist H2→new.Sublist H2→RawTb B H2 (jkG b ((jai (jaa b).length (jaa b).length).getD i [])) ps ns ks pw1 nw cw1 pb1 nb cb1) (fun H' hH=>f46_k m (h:=h) H' ra (sq hH) ok (rk.keeps (sq hH)) zO) ?_
     rintro v nO ⟨pw1,cw1,pb1,cb1,rfl,raO⟩;refine jaz (jad ?_);refine jaf (Post:=fun v=>IsB _ v) rfl rfl zK (fun H' hH=>f127_c m H' (raO H' (sq hH) (sq hH)) (only_ok ok _)) ?_;rintro v (⟨hc,rfl⟩|⟨hc,rfl⟩);refine Zs ?_
     have hcl:=hc
     refine joj rfl rfl ?_;refine Z4 ?_;rotate_left
     refine Zs ?_
     have hcl:=hc
     refine jhw rfl rfl ?_;refine Z6 ?_;refine jaL rfl zq hp5 zO zO ?_;refine jaN (v:= .slice pk ((jai (jaa b).length (jaa b).length).getD i []).length ck) rfl zq (by rw [←ek];exact rS2.vat i zO zO) ?_;refine Z2 ?_;all_goals
      refine Z6 ?_
     ·exact m.weak jab (hnext _ _ _ zO ⟨i+1,((jai (jaa b).length (jaa b).length).getD i []),pk,ck,rfl,by omega,hB.take hil hfw (by cases e:jcK b (jbN ((jai (jaa b).length (jaa b).length).getD i [])) with|true=>rfl|false=>exact absurd (hww.2 e) hcl),rk.keeps (gK _ _),exU rfl,rfl⟩)
     ·exact m.weak jab (hnext _ _ _ zO ⟨i+1,gg,pg,cg,rfl,by omega,hB.keep fun e=>by rw [hww.1 hcl] at e;exact absurd e.2 zA,rg,exU rfl,rfl⟩)
    ·refine Zs ?_
     have hnf:=hc
     refine Z19 ?_
     exact m.weak jab (hnext _ _ _ zO ⟨i+1,gg,pg,cg,rfl,by omega,hB.keep fun e=>hnf e.1,rg,exU rfl,rfl⟩)
   ·refine Z4 ?_
    obtain rfl:i=(jai (jaa b).length (jaa b).length).length:=by omega
    refine Z6 ?_;refine jac (h++nF++nS) rfl Tryz.func71 rfl jab ?_;refine Zs ?_
    exact ⟨nF++nS,by rw [gI],_,gg,by rw [hz],⟨pg,cg,rfl,rg⟩,fun e=>absurd hz e,fun _ e=>absurd e hsd,fun _ _=>hB.all⟩
end
section
variable [LaidO B]
def boR (b:Tb):List Bo:=(jar b).map fun q=>boOf (jaa b).length q.1 q.2
theorem boR_perm {b:Tb} (ok:TbOk b):(boR b).Perm (jah b):=by
 have h:=(jcV b ok.wrong.1).map fun q=>boOf (jaa b).length q.1 q.2
 rw [vu,GP (g:=id),List.map_id] at h
 ·exact h
 ·intro x hx
  exact boOf_self (jcU hx)
theorem jfc (b:Tb):(boR b).length=(jar b).length:=gN _
theorem boR_at {b:Tb} (h:i<(jar b).length):(boR b).getD i []=boOf (jaa b).length ((jar b).getD i default).1 ((jar b).getD i default).2:=by
 rw [boR,gC,gX,gD h,gC,gD h];rfl
def jey (L:List Bo) (k i:Nat):Nat:=(L.take i).foldl (fun s x=>match xA x k with|some v=>max s (jeM L k v)|none=>s) 0
theorem jph {L:List Bo} (h:i<L.length) (e:xA (L.getD i []) k=none):jey L k (i+1)=jey L k i:=by
 unfold jey
 rw [jfi h,vJ];simp only [vU,List.foldl_nil,e]
theorem jpg {L:List Bo} (h:i<L.length) (e:xA (L.getD i []) k=some v):jey L k (i+1)=max (jey L k i) (jeM L k v):=by
 unfold jey
 rw [jfi h,vJ];simp only [vU,List.foldl_nil,e]
theorem jq0 {L M:List Bo} (h:L.Perm M) (k:Nat):jbY L k=jbY M k:=by
 have hc: ∀v,jeM L k v=jeM M k v:=fun v=>h.countP_eq _
 unfold jbY
 rw [h.foldl_eq' (fun x _ y _ z=>?_) 0]
 ·simp only [hc]
 ·cases xA x k<;>cases xA y k<;>simp only
  omega
theorem jq1 {b:Tb} (ok:TbOk b) (k:Nat):jey (boR b) k (boR b).length=jbY (jah b) k:=by
 rw [←jq0 (boR_perm ok) k,jey,GE];rfl
theorem ji4 {L:List Bo} (h:j<L.length):jeM (L.take (j+1)) k v=jeM (L.take j) k v+if xA (L.getD j []) k=some v then 1 else 0:=by rw [jfi h,jfb]
theorem leftK_le (b:Tb) (k i:Nat):jey (boR b) k i≤(jar b).length:=by
 have h: ∀(l:List Bo) (s:Nat),s≤(boR b).length→l.foldl (fun s x=>match xA x k with|some v=>max s (jeM (boR b) k v)|none=>s) s≤(boR b).length:=by
  intro l
  induction l with
  |nil=>exact fun s hs=>hs
  |cons x l ih=>
   intro s hs
   rw [vU];refine ih _ ?_
   cases xA x k with
   |none=>exact hs
   |some v=>
    have:jeM (boR b) k v≤(boR b).length:=vB
    simp only
    omega
 rw [←jfc];exact h _ 0 (VP _)
theorem jgH (L:List Bo) (i:Nat):jjk L (i+1)=if 0<jbY L i∧jbY L i<(jjk L i).2 then (some i,jbY L i) else jjk L i:=by rw [jfe,jf4]
def numO (o:Option Nat):Int:=match o with|some j=>(j:Int)|none=> -1
theorem jr4 (L:List Bo): ∀n k,(jjk L n).1=some k→k<n
 |0,k,h=>by cases h
 |n+1,k,h=>by
  rw [jgH] at h
  split at h
  ·cases h
   omega
  ·have:=jr4 L n k h;omega
theorem f131_c (m:Md Tryz.prog B) (h:Hp) {b:Tb} (ok:TbOk b) {cl:Nat} {bs:List Bp} (rB0:RdS B h 2 (.slice pl (jar b).length cl) (jar b).length (jaC bs)) (eB:BpE B h bs (jar b)) (hk:k<(jaa b).length):FnC m 131 #[.slice pl (jar b).length cl,.int .i64 (k:Int)] h fun v h'=>h'=h∧v= .int .i64 (jbY (jah b) k:Int):=by
 have hel:=eB.len
 have hbl:=boatsR_len ok
 have hbl2:=jbr ok
 have hbe: ∀i,i<(jar b).length→((jar b).getD i default)=((bs.getD i default).wr,(bs.getD i default).ms):=fun i hi=>by
  rw [←eB.1,gC,gX,gD (show i<bs.length by omega),gC,gD (show i<bs.length by omega)];rfl
 have rB:=rB0
 refine jae Tryz.func131 rfl rfl (l:=[.slice pl (jar b).length cl,.int .i64 (k:Int),undef,undef,undef,undef,undef,undef,undef,undef,undef,undef,undef,undef,undef,undef,undef,undef,undef,undef,undef,undef,undef,undef,undef,undef,undef,undef,undef,undef,undef,undef,undef,undef,undef,undef,undef,undef,undef,undef,undef,undef,undef,undef,undef,undef,undef,undef,undef,undef,undef,undef,undef,undef,undef,undef,undef,undef,undef,undef,undef,undef,undef,undef]) rfl ?_
 intro cf cs K hK
 refine Z14 ?_
 refine jag (fun nn l h'=> ∃(i:Nat),nn=(jar b).length-i∧(i≤(jar b).length)∧(∃U:Nat→Value,l=((.slice pl (jar b).length cl)::(.int .i64 (k:Int))::(U 2)::(U 3)::(U 4)::(.int .i64 (jey (boR b) k i:Int))::(.int .i64 (i:Int))::vw57 U 7 []))∧h=h') _ ⟨0,rfl,by omega,exU rfl,(by rfl)⟩ ?_;rintro nn l h' ⟨i,rfl,hi,⟨U,rfl⟩,rfl⟩ hnext1;have hlk:=leftK_le b k i
 refine Z6 ?_
 refine jam rfl zq (fun hc=>?_) (fun hc=>?_)
 ·refine Z6 ?_
  obtain ⟨bb,bo,rfl⟩:=rB.ptr zO
  obtain ⟨x,hx⟩: ∃x,x=bs.getD i default:=⟨_,rfl⟩
  have hmx:x∈bs:=hx▸jaj zO
  have hqx:=hbe i zO
  rw [←hx] at hqx
  have hzx:=boatsR_mem ok (jaj (l:=jar b) (i:=i) zO)
  rw [hqx] at hzx
  obtain ⟨rwx,rmx⟩:=eB.2 x hmx
  have hwx:x.wr.length≤12:=hzx.2
  have hlx:x.ms.length=(jaa b).length:=hzx.1
  obtain ⟨pbx,pox,hpx⟩:=rmx.ptr zO
  have rnx:=rmx
  rw [hpx] at rnx
  have hxx:xA ((boR b).getD i []) k=if (k:Int)∈x.wr then none else some (x.ms.getD k 0):=by rw [boR_at zO,hqx,xA_boOf hk]
  obtain ⟨vv,hvv⟩: ∃vv,vv=x.ms.getD k 0:=⟨_,rfl⟩
  refine Z9 ?_
  refine jag (fun nn l h'=> ∃(j n:Nat),nn=(jar b).length-j∧(j≤(jar b).length)∧((k:Int)∈x.wr→j=0)∧(n=jeM ((boR b).take j) k vv)∧(∃U:Nat→Value,l=((.slice (some ⟨bb,bo,none⟩) (jar b).length cl)::(.int .i64 (k:Int))::(U 2)::(U 3)::(U 4)::(.int .i64 (jey (boR b) k i:Int))::(.int .i64 (i:Int))::(.int .i64 (n:Int))::(.int .i64 (j:Int))::vw55 U 9 []))∧h=h') _ ⟨0,0,rfl,by omega,fun _=>rfl,rfl,exU rfl,(by rfl)⟩ ?_;rintro nn l h' ⟨j,n,rfl,hj,hjw,hn,⟨U,rfl⟩,rfl⟩ hnext2;have hnl:n≤j:=by rw [hn];exact GI vB (by rw [GO];omega)
  refine Z2 ?_;refine rr14 ?_;refine Z3 ?_
  refine jam rfl zq (fun hc=>?_) (fun hc=>?_)
  ·refine Z3 ?_;refine D93 ?_;refine Zs ?_;refine jaN (v:= .slice x.pw x.wr.length x.cw) rfl rfl (hx▸rB.fat i 0 zO zO rfl) ?_;refine Zs ?_;refine jaf (Post:=fun v=>IsB _ v) rfl rfl zK (fun H' hH=>f35_c m H' _ (rwx.keeps (sq hH)) zO) ?_
   rintro v (⟨hc,rfl⟩|⟨hc,rfl⟩)
   ·refine Zs ?_
    have hxw:=hc
    refine joj rfl rfl ?_;refine Z7 ?_;refine jhH rfl zq ?_;refine Z8 ?_;have hfin:jey (boR b) k (i+1)=max (jey (boR b) k i) n:=by
     obtain rfl:=hjw hxw
     rw [jph (by rw [jfc];omega) (by rw [hxx,if_pos hxw]),hn];show _=max _ 0
     omega
    rw [show max (jey (boR b) k i:Int) (n:Int)=((jey (boR b) k (i+1):Nat):Int) by rw [hfin];omega];exact m.weak jab (hnext1 _ _ _ zO ⟨i+1,rfl,by omega,exU rfl,rfl⟩)
   ·refine Zs ?_
    have hxw:=hc
    refine jhw rfl rfl ?_;refine Z7 ?_;obtain ⟨y,hy⟩: ∃y,y=bs.getD j default:=⟨_,rfl⟩
    have hmy:y∈bs:=hy▸jaj zO
    have hqy:=hbe j zO
    rw [←hy] at hqy
    have hzy:=boatsR_mem ok (jaj (l:=jar b) (i:=j) zO)
    rw [hqy] at hzy
    obtain ⟨rwy,rmy⟩:=eB.2 y hmy
    have hwy:y.wr.length≤12:=hzy.2
    have hly:y.ms.length=(jaa b).length:=hzy.1
    obtain ⟨pby,poy,hpy⟩:=rmy.ptr zO
    have rny:=rmy
    rw [hpy] at rny
    have hxy:xA ((boR b).getD j []) k=if (k:Int)∈y.wr then none else some (y.ms.getD k 0):=by rw [boR_at zO,hqy,xA_boOf hk]
    refine jaq [Zp 0,Zp 1,Zp 2,Zp 3,Zp 5,Zr 4,Zk 6,Zp 7,Zp 8,Zp 9,Zp 10,Zp 11,Zp 12,Zp 14,Zp 17,Zp 18,Zp 19,Zp 20,Zp 22,Zr 13,Zp 15,Zr 16,Zr 21,Zp 23,Zr 24,Zp 25,Zp 26] zK zK (gE _) ?_;refine Z2 ?_;refine D8 ?_;refine Z2 ?_;refine jaN (v:= .slice y.pw y.wr.length y.cw) rfl zq (hy▸rB.fat j 0 zO zO rfl) ?_;refine jaf (Post:=fun v=>IsB _ v) rfl zq zK (fun H' hH=>f35_c m H' _ (rwy.keeps (sq hH)) zO) ?_;rintro v (⟨hc,rfl⟩|⟨hc,rfl⟩)
    ·refine Zs ?_
     have hyw:=hc
     refine Z29 ?_
     exact m.weak jab (hnext2 _ _ _ zO ⟨j+1,n,rfl,by omega,fun e=>absurd e hxw,by rw [ji4 (by rw [jfc];omega),←hn,hxy,if_pos hyw,if_neg zS];rfl,exU rfl,rfl⟩)
    ·refine Zs ?_
     have hyw:=hc
     refine Z4 ?_;refine D93 ?_;refine Z4 ?_;refine D93 ?_;refine Z2 ?_;refine jaN (v:= .slice (some ⟨pby,poy,none⟩) y.ms.length y.cm) rfl rfl (by rw [←hpy];exact hy▸rB.fat j 1 zO zO rfl) ?_;refine D93 ?_;refine jaN rfl rfl (rny.iat k zO zO) ?_;refine jaN (v:= .slice (some ⟨pbx,pox,none⟩) x.ms.length x.cm) rfl rfl (by rw [←hpx];exact hx▸rB.fat i 1 zO zO rfl) ?_;refine D93 ?_;refine jaN rfl rfl (rnx.iat k zO zO) ?_
     refine jaE rfl rfl (fun hc=>?_) (fun hc=>?_);refine Z8 ?_
     rotate_left
     refine Z4 ?_
     all_goals
      refine Z6 ?_
     ·exact m.weak jab (hnext2 _ _ _ zO ⟨j+1,n,rfl,by omega,fun e=>absurd e hxw,by rw [ji4 (by rw [jfc];omega),←hn,hxy,if_neg hyw,if_neg (by intro e;injection e with e;exact hc (e.trans hvv))];rfl,exU rfl,rfl⟩)
     ·exact m.weak jab (hnext2 _ _ _ zO ⟨j+1,n+1,rfl,by omega,fun e=>absurd e hxw,by rw [ji4 (by rw [jfc];omega),←hn,hxy,if_neg hyw,if_pos (by rw [hvv,hc])],exU rfl,rfl⟩)
  ·refine Z16 ?_;refine jhH rfl zq ?_;refine Z8 ?_
   have hxw:(k:Int)∉x.wr:=fun e=>by have:=hjw e;omega
   have hfin:jey (boR b) k (i+1)=max (jey (boR b) k i) n:=by
    rw [jpg (by rw [jfc];omega) (by rw [hxx,if_neg hxw,←hvv]),hn,show j=(boR b).length by rw [jfc];omega,GE]
   rw [show max (jey (boR b) k i:Int) (n:Int)=((jey (boR b) k (i+1):Nat):Int) by rw [hfin];omega];exact m.weak jab (hnext1 _ _ _ zO ⟨i+1,rfl,by omega,exU rfl,rfl⟩)
 ·refine Z9 ?_;refine jac (h) rfl Tryz.func131 rfl jab ?_;refine Zs ?_
  obtain rfl:i=(jar b).length:=by omega
  exact ⟨rfl,by rw [←jfc,jq1 ok]⟩
theorem f72_c (m:Md Tryz.prog B) (h:Hp) {b:Tb} (ra:RawTb B h b ps ns ks pw nw cw pb nb cb):FnC m 72 #[tbV b ps ns ks pw nw cw pb nb cb] h fun v h'=>h'=h∧v= .tuple [ceV (cOfA b (jkc b).1),.int .i64 ((jkc b).2:Int),.bool (jkc b).1.isSome,.int .i64 (jaH b 0)].toArray:=by
 refine jae Tryz.func72 rfl rfl (l:=(tbV b ps ns ks pw nw cw pb nb cb)::uu52) rfl ?_
 intro cf cs K hK
 refine Z2 ?_
 refine jaA rfl zq (fun q1=>jao (jad ?_));refine jay rfl zq (fun q2=>jao (jad ?_));refine Z7 ?_;refine jax rfl zq zK (Post:=fun v new=> ∃w,v= .tuple [w,.int .i64 (jaH b 0)].toArray∧(jaH b 0=0→RdB B [] new w (jar b))) (fun H' hH=>(f130_c m H' (ra.keeps (sq hH)) true 0).mono fun v h' ⟨new,e1,w,e2,e3⟩=>by rw [askedS_open] at e2 e3;exact ⟨new,e1,w,e2,e3⟩) ?_
 rintro v nB ⟨w11,rfl,hB⟩;refine jaz (jad ?_);refine Z10 ?_
 refine jaI rfl zq (fun hc=>?_) (fun hc=>?_)
 ·refine Z4 ?_;refine D30 ?_;refine Zs ?_;refine D4 ?_;refine Z5 ?_;refine jac (h) rfl Tryz.func72 rfl jab ?_;refine Zs ?_
  exact ⟨rfl,by rw [jkc,if_neg zD];rfl⟩
 ·refine Z4 ?_
  have hz0:jaH b 0=0:=by omega
  obtain ⟨pl,cl2,bs,rfl,hBB⟩:=hB hz0
  obtain ⟨rB,eB⟩:=hBB nB (GN _) (gE _)
  obtain ⟨hzb,_,hzn⟩:=jca hz0
  have ok:=jej hzb
  have rd:=ra.rd ok
  have hbl:=boatsR_len ok
  have hbl2:=jbr ok
  have h12:=ja3 ok
  refine Z2 ?_;refine jax rfl zq zK (Post:=fun w new=>OwnS 37 3 w (jaa b).length (jaC (jaa b)) new) (fun H' hH=>f26_c _ H' (rd.keeps (sq hH))) ?_
  rintro w n7 o7;refine jaz (jad ?_);obtain ⟨p7,c7,rfl,hc7,r7⟩:=jas (B:=B) o7
  refine Z15 ?_
  refine jag (fun nn l h'=> ∃(i:Nat) (o:Option Nat) (lf:Nat),nn=(jaa b).length-i∧(i≤(jaa b).length)∧(jjk (jah b) i=(o,lf))∧(∃U:Nat→Value,l=((tbV b ps ns ks pw nw cw pb nb cb)::(.pointer (some ⟨q1,0,none⟩))::(.pointer (some ⟨q2,0,none⟩))::(U 3)::(U 4)::(U 5)::(.slice pl (jar b).length cl2)::(U 7)::(.slice p7 (jaa b).length c7)::(.int .i64 (numO o:Int))::(.int .i64 (lf:Int))::(.int .i64 (i:Int))::vw41 U 12 []))∧h++[⟨true,q1,.cells (tbL b ps ns ks pw nw cw pb nb cb).toArray 25 (0,0)⟩,⟨true,q2,.cells (ceL default).toArray 37 (0,0)⟩]++nB++n7=h') _ ⟨0,none,(jar b).length,rfl,by omega,by rw [hbl];rfl,exU rfl,rfl⟩ ?_;rintro nn l h' ⟨i,o,lf,rfl,hi,hak,⟨U,rfl⟩,rfl⟩ hnext;refine Z6 ?_
  refine jam rfl zq (fun hc=>?_) (fun hc=>?_)
  ·refine Z9 ?_;refine jaf (Post:=fun v=>v= .int .i64 (jbY (jah b) i:Int)) rfl zq zK (fun H' hH=>f131_c m H' ok (rB.keeps (sq hH)) (eB.keeps (sq hH)) zO) ?_
   rintro v rfl;refine Z6 ?_
   refine jaJ rfl zq (fun hc=>?_) (fun hc=>?_)
   ·refine Z3 ?_
    refine jam rfl rfl (fun hc=>?_) (fun hc=>?_);refine Z9 ?_
    rotate_left
    refine Z4 ?_
    all_goals
     refine Z6 ?_
    ·exact E88
    ·exact m.weak jab (hnext _ _ _ zO ⟨i+1,some i,jbY (jah b) i,rfl,by omega,by rw [jgH,hak,if_pos ⟨by omega,by show jbY (jah b) i<lf;omega⟩],exU rfl,rfl⟩)
   ·refine Z14 ?_
    exact E88
  ·refine Z5 ?_
   obtain rfl:i=(jaa b).length:=by omega
   have har:jkc b=(o,lf):=by rw [jkc,if_pos hz0,hak]
   rcases o with _|jj
   refine Z2 ?_;refine jl8 rfl zq zA ?_;refine Z4 ?_;refine D30 ?_
   rotate_left
   have hjl:=jr4 _ _ _ (by rw [hak])
   obtain ⟨b7,o7_,rfl⟩:=r7.ptr zO
   refine Z2 ?_;refine jrc rfl zq (by show¬(jj:Int)<0;omega) ?_;refine Z7 ?_;refine jaL rfl zq rfl (by show (0:Int)≤(jj:Int);omega) (by show (jj:Int)<_;omega) ?_;refine jb4 (vs:=ceL ((jaa b).getD jj default)) rfl zq rfl (r7.eat jj rfl zO) ?_
   all_goals
    refine Zs ?_;refine D4 ?_;refine Z5 ?_;refine jac (h) rfl Tryz.func72 rfl jab ?_;refine Zs ?_
    exact ⟨rfl,by rw [har,hz0];rfl⟩
end
section
variable [LaidO B]
theorem jn2 {x:Int} (h1: -1≤x) (h2:x≤11):jaD x=[63]↔x= -1:=by
 constructor
 ·intro h
  refine gt fun e=>?_
  rw [jaD,if_neg e] at h
  exact (dig_is (n:=x.toNat) zO).2.2.1 h
 ·rintro rfl;rfl
def XK (p o:List Int) (k:Nat):List Str:=(List.range 3).map fun j=>jaD (if j<k then (jaT p o).getD j 0 else p.getD j 0)
theorem jf6 (p o:List Int) (k:Nat):(XK p o k).length=3:=rfl
theorem jmM (hj:j<3):(XK p o k).getD j []=jaD (if j<k then (jaT p o).getD j 0 else p.getD j 0):=by
 rw [XK,gC,gX,Gg hj];rfl
theorem xk_zero (h:p.length=3):XK p o 0=p.map jaD:=by
 rcases p with _|⟨a,_|⟨b,_|⟨c,_|⟨d,r⟩⟩⟩⟩<;>simp at h
 rfl
theorem map3 {β:Type} (f g:Nat→β) (h: ∀j,j<3→f j=g j):(List.range 3).map f=(List.range 3).map g:=GP fun j hj=>h j (gT.1 hj)
theorem xk_no (hk:k<3) (h:p.getD k 0≠ -1):XK p o (k+1)=XK p o k:=by
 refine map3 _ _ fun j hj=>?_
 by_cases e:j<k
 ·rw [if_pos e,if_pos zO]
 ·by_cases e2:j=k
  ·subst e2
   rw [if_pos zO,if_neg e,jfg hj,if_neg h]
  ·rw [if_neg e,if_neg zO]
theorem xk_yes (hk:k<3) (h:p.getD k 0= -1):XK p o (k+1)=(XK p o k).set k (jaD (o.getD k 0)):=by
 refine Ga (by simp [jf6]) fun j h1 h2=>?_
 have hj:j<3:=h1
 have e1:=jmM (p:=p) (o:=o) (k:=k+1) hj
 have e2:=jmM (p:=p) (o:=o) (k:=k) hj
 rw [gC,gD (by rw [jf6];exact hj),gu] at e1 e2
 rw [xG];by_cases e:k=j
 ·subst e
  rw [if_pos rfl,e1,if_pos zO,jfg hj,if_pos h]
 ·rw [if_neg e,e1,e2];congr 1
  by_cases e3:j<k
  ·rw [if_pos e3,if_pos zO]
  ·rw [if_neg e3,if_neg zO]
theorem seg_x (hk:k<3) (h:p.getD k 0= -1):SetSeg (jaC (XK p o k)++jx) (0+((k:Nat):Int).toNat*1) [str (jaD (o.getD k 0))] (jaC (XK p o (k+1))++jx):=⟨by
 have hl:k<(jaC (XK p o k)).length:=by rw [jbs,gN,jf6];exact hk
 rw [show 0+((k:Nat):Int).toNat*1=k by omega];refine ⟨?_,by simp only [gH,gV,Gp];omega⟩
 have:=jqj (cs:=jaC (XK p o k)++jx) (k:=k) (u:=str (jaD (o.getD k 0))) (by rw [gH];omega)
 show _=List.take k (jaC (XK p o k)++jx)++[str (jaD (o.getD k 0))]++List.drop (k+1) (jaC (XK p o k)++jx)
 rw [this,vg _ _ hl,xk_yes hk h,jbs,jbs,vf]⟩
theorem piece_at (h:k<o.length):(o.map jaD).getD k []=jaD (o.getD k 0):=by
 rw [gC,gX,gD h,gC,gD h];rfl
theorem jp1:jbM (jaT p o)=jaD ((jaT p o).getD 0 0)++[45]++jaD ((jaT p o).getD 1 0)++[45]++jaD ((jaT p o).getD 2 0):=by
 have e: ∀v:List Int,v.length=3→jbM v=jaD (v.getD 0 0)++[45]++jaD (v.getD 1 0)++[45]++jaD (v.getD 2 0):=fun v hv=>by
  rcases v with _|⟨a,_|⟨b,_|⟨c,_|⟨d,r⟩⟩⟩⟩<;>simp at hv
  simp [jbM,jnh]
 exact e _ (by simp [jaT])
end
section
variable [LaidO B]
theorem f114_t (m:Md Tryz.prog B) (h:Hp) {c1 c2:Nat} {xs:List Str} (r1:0<n→RdS B h 1 (.slice p1 n c1) n (jaC xs)) (r2:0<n→RdS B h 1 (.slice p2 n c2) n (jaC xs)) (hn:n≤1000):FnC m 114 #[.slice p1 n c1,.slice p2 n c2] h fun v h'=>h'=h∧v= .bool true:=by
 refine jae Tryz.func114 rfl rfl (l:=(.slice p1 n c1)::(.slice p2 n c2)::uu24) rfl ?_
 intro cf cs K hK
 refine Z11 ?_;refine jeH rfl zq rfl ?_;refine Z9 ?_
 refine jag (fun nn l h'=> ∃(k:Nat),nn=n-k∧(k≤n)∧(∃U:Nat→Value,l=((.slice p1 n c1)::(.slice p2 n c2)::(U 2)::(U 3)::(U 4)::(.int .i64 (k:Int))::vw20 U 6 []))∧h=h') _ ⟨0,rfl,by omega,exU rfl,rfl⟩ ?_;rintro nn l h' ⟨k,rfl,hk,⟨U,rfl⟩,rfl⟩ hnext;refine Z6 ?_
 refine jam rfl zq (fun hc=>?_) (fun hc=>?_)
 ·refine Z6 ?_
  have q1:=r1 zO
  have q2:=r2 zO
  have hl:=q1.elen zA
  obtain ⟨b1,o1,rfl⟩:=q1.ptr zO
  obtain ⟨b2,o2,rfl⟩:=q2.ptr zO
  refine jaq [Zp 0,Zp 1,Zp 2,Zp 4,Zp 5,Zp 6,Zr 3,Zr 7,Zp 8] zK zK (gE _) ?_;refine Z2 ?_;refine D8 ?_;refine Z2 ?_;refine D8 ?_;refine jaN rfl zq (q1.sat k zO zO) ?_;refine jaN rfl zq (q2.sat k zO zO) ?_;refine jez rfl zq rfl ?_;refine Z9 ?_;exact E6
 ·refine Z8 ?_;refine jac (h) rfl Tryz.func114 rfl jab ?_;refine Zs ?_
  exact ⟨rfl,rfl⟩
theorem f115_t (m:Md Tryz.prog B) (h:Hp) {c1 c2:Nat} (r1:RdLn B h (.slice p1 n c1) n ls) (r2:RdLn B h (.slice p2 n c2) n ls) (hn:n≤1000) (hf: ∀l∈ls,l.figs.length≤1000):FnC m 115 #[.slice p1 n c1,.slice p2 n c2] h fun v h'=>h'=h∧v= .bool true:=by
 have hls:=jbG r1
 obtain ⟨l1,he1,rl1,hr1⟩:=r1
 obtain ⟨l2,he2,rl2,hr2⟩:=r2
 have hl1:l1.length=n:=by rw [←hls,←he1,gN]
 have hl2:l2.length=n:=by rw [←hls,←he2,gN]
 refine jae Tryz.func115 rfl rfl (l:=(.slice p1 n c1)::(.slice p2 n c2)::uu40) rfl ?_
 intro cf cs K hK
 refine Z11 ?_;refine jeH rfl zq rfl ?_;refine Z9 ?_
 refine jag (fun nn l h'=> ∃(k:Nat),nn=n-k∧(k≤n)∧(∃U:Nat→Value,l=((.slice p1 n c1)::(.slice p2 n c2)::(U 2)::(U 3)::(U 4)::(.int .i64 (k:Int))::vw36 U 6 []))∧h=h') _ ⟨0,rfl,by omega,exU rfl,rfl⟩ ?_;rintro nn l h' ⟨k,rfl,hk,⟨U,rfl⟩,rfl⟩ hnext;refine Z6 ?_
 refine jam rfl zq (fun hc=>?_) (fun hc=>?_)
 ·refine Z6 ?_
  have hkn:k<n:=by omega
  obtain ⟨b1,o1,rfl⟩:=rl1.ptr zO
  obtain ⟨b2,o2,rfl⟩:=rl2.ptr zO
  have e1:(l1.getD k default).ln=ls.getD k default:=by rw [←he1,ja5 l1 _ zO]
  have e2:(l2.getD k default).ln=ls.getD k default:=by rw [←he2,ja5 l2 _ zO]
  obtain ⟨_,g1⟩:=hr1 _ (jaj (i:=k) zO)
  obtain ⟨_,g2⟩:=hr2 _ (jaj (i:=k) zO)
  have hfk:=hf _ (jaj (l:=ls) (i:=k) zO)
  rw [e1] at g1
  rw [e2] at g2
  refine jaq [Zp 0,Zp 1,Zp 2,Zp 3,Zp 5,Zp 6,Zp 7,Zp 8,Zr 4,Zr 9,Zp 10,Zp 11,Zp 12,Zp 13,Zp 14,Zp 15,Zp 17,Zp 18,Zp 19,Zp 20,Zr 16,Zr 21,Zk 22,Zp 23,Zp 24] zK zK (gE _) ?_;refine Z2 ?_;refine D8 ?_;refine Z3 ?_;refine D8 ?_;refine Zs ?_;refine jaN (v:= .int .i64 (ls.getD k default).lat) rfl zq (by rw [←e1];exact rl1.fat k 0 zO zO rfl) ?_;refine jaN (v:= .int .i64 (ls.getD k default).lat) rfl zq (by rw [←e2];exact rl2.fat k 0 zO zO rfl) ?_;refine jeH rfl zq rfl ?_;refine Z3 ?_;refine D93 ?_;refine Z3 ?_;refine D93 ?_;refine Zs ?_;refine jaN (v:= .slice (l1.getD k default).p (ls.getD k default).figs.length (l1.getD k default).c) rfl rfl (by rw [←e1];exact rl1.fat k 1 zO zO rfl) ?_;refine jaN (v:= .slice (l2.getD k default).p (ls.getD k default).figs.length (l2.getD k default).c) rfl rfl (by rw [←e2];exact rl2.fat k 1 zO zO rfl) ?_;refine jaf (Post:=fun v=>v= .bool true) rfl rfl zK (fun H' hH=>f114_t m H' (xs:=(ls.getD k default).figs) (fun hp=>(g1 hp).keeps (sq hH)) (fun hp=>(g2 hp).keeps (sq hH)) hfk) ?_;rintro v rfl;refine D115 ?_;refine Z10 ?_
  exact E6
 ·refine Z8 ?_;refine jac (h) rfl Tryz.func115 rfl jab ?_;refine Zs ?_
  exact ⟨rfl,rfl⟩
theorem f54_t (m:Md Tryz.prog B) (h:Hp) {b:Tb} (ra:RawTb B h b ps ns ks pw nw cw pb nb cb) {ks2:Nat} {cw2:Nat} {cb2:Nat} (ra2:RawTb B h b ps2 ns ks2 pw2 nw cw2 pb2 nb cb2) (hf:(∀l∈b.waters,l.figs.length≤1000)∧ ∀l∈b.butts,l.figs.length≤1000):FnC m 54 #[tbV b ps ns ks pw nw cw pb nb cb,tbV b ps2 ns ks2 pw2 nw cw2 pb2 nb cb2] h fun v h'=>h'=h∧v= .bool true:=by
 refine jae Tryz.func54 rfl rfl (l:=(tbV b ps ns ks pw nw cw pb nb cb)::(tbV b ps2 ns ks2 pw2 nw cw2 pb2 nb cb2)::uu29) rfl ?_
 intro cf cs K hK
 refine Z2 ?_
 refine jaA rfl zq (fun q1=>jao (jad ?_));refine jaA rfl zq (fun q2=>jao (jad ?_));refine Z3 ?_;refine jbm [Zf 0,Zf 1,Zf 2,Zf 3,Zf 4,Zf 5,Zf 6,Zf 7,Zf 8,Zf 9,Zf 10,Zf 11,Zf 12,Zf 13,Zf 14,Zf 15,Zf 16,Zf 17,Zf 18,Zf 19,Zf 20,Zf 21,Zf 22,Zf 23,Zf 24,Zf 25,Zf 26] zK zK ?_;refine Z4 ?_;refine jeI rfl zq rfl ?_;refine Z5 ?_;refine jaf (Post:=fun v=>v= .bool true) rfl rfl zK (fun H' hH=>f114_t m H' (fun _=>ra.s.keeps (sq hH)) (fun _=>ra2.s.keeps (sq hH)) ra.sn) ?_
 rintro v rfl;refine Z7 ?_;refine jaf (Post:=fun v=>v= .bool true) rfl rfl zK (fun H' hH=>f115_t m H' (ra.w.keeps (sq hH)) (ra2.w.keeps (sq hH)) ra.wn hf.1) ?_
 rintro v rfl;refine Z7 ?_;refine jaf (Post:=fun v=>v= .bool true) rfl rfl zK (fun H' hH=>f115_t m H' (ra.u.keeps (sq hH)) (ra2.u.keeps (sq hH)) ra.un hf.2) ?_
 rintro v rfl;refine Z5 ?_;refine jac (h) rfl Tryz.func54 rfl jab ?_;refine Zs ?_
 exact ⟨rfl,rfl⟩
end
section
variable [LaidO B]
def zT:Tb:=⟨0,[],[],[]⟩
theorem jnY:RawTb B h zT none 0 0 none 0 0 none 0 0:=by
 have r: ∀w,RdS B h w (.slice none 0 0) 0 []:=fun w=>⟨none,0,rfl,by simp,.inl ⟨rfl,rfl⟩⟩
 have l:RdLn B h (.slice none 0 0) 0 []:=⟨[],rfl,r 2,fun x hx=>by cases hx⟩
 exact ⟨r 1,gM _,by decide,l,by decide,l,by decide,⟨fun x hx=>(by cases hx),fun x hx=>(by cases hx),fun x hx=>(by cases hx)⟩⟩
theorem jpK (m:Md Tryz.prog B) (h:Hp):FnC m 54 #[.agg zeroL.toArray,.agg zeroL.toArray] h fun v h'=>h'=h∧v= .bool true:=
 f54_t m h (b:=zT) jnY jnY ⟨fun l hl=>(by cases hl),fun l hl=>(by cases hl)⟩
section
variable {b:Tb} (ok:TbOk b) (h0:b.wrong=0) (hk:k<(jaa b).length) {c:Ce} (hcx:c=(jaa b).getD k default) (hn:n<960)
include ok hk hcx hn
include h0
end
end
section
variable [LaidO B]
theorem smu_with (hp:p.length=3):(jaT p o).countP (fun x=>decide (x= -1))≤p.countP fun x=>decide (x= -1):=by
 rcases p with _|⟨a,_|⟨b,_|⟨c,_|⟨d,r⟩⟩⟩⟩<;>simp at hp
 have e:jaT [a,b,c] o=[if a= -1 then o.getD 0 0 else a,if b= -1 then o.getD 1 0 else b,if c= -1 then o.getD 2 0 else c]:=rfl
 rw [e];simp only [VG,xS,decide_eq_true_eq]
 by_cases h1:a= -1<;>by_cases h2:b= -1<;>by_cases h3:c= -1<;>simp only [h1,h2,h3,if_true,if_false]<;>(repeat' split)<;>omega
end
end Go.Proofs
