/- A part of the proof of a law. Condition of each theorem: as its statement says. -/
import Derived.Test.YtggpepeiedkbbaaGreatDoorVR10
set_option linter.all false
variable {s k j n i ns ks nw cw nb cb pn pc:Nat} {z st v ma mc:Int} {B:Array Go.Obj} {p ps pw pb pp:Option Go.Addr} {h:Go.Lo.Hp} {gg wr ms g xs zs l:List Int} {js:List Nat}
set_option maxHeartbeats 4000000
set_option maxRecDepth 100000
set_option synthInstance.maxHeartbeats 1000000
set_option synthInstance.maxSize 100000
namespace Go.Lo
open Go.Proofs
def gp (n b i:Nat):Str:=if b.testBit i then [63] else (jiO (figN n) 45).getD i []
theorem meaS_in {s:Str} (h:z∈jcr s):0≤z∧z≤959:=by
 unfold jcr at h
 split at h
 ·rw [jhR] at h
  obtain ⟨k,hk,rfl⟩:=gQ.1 h
  have:=gP.1 (gS.1 hk).1
  omega
 ·cases h
end Go.Lo
namespace Go.Proofs
open Go.Lo
open Go.Conc (G)
section
variable [LaidO B]
theorem jp0 {b:Tb} (hz:tbS b=0) (hk:k<(jac b).length) (hne:jaf b≠[]):jaX b (jgc b ((jac b).getD k default))=0:=jma hz (own_at hk) hne
theorem canL_at {b:Tb} (hz:tbS b=0) (hk:k<(jac b).length) (hne:jaf b≠[]):jmw b ((jac b).getD k default)=jlG (cdT b) (jaf b) k:=by rw [jmw,if_pos (jp0 hz hk hne),plN_at hk]
theorem meaS_nat {s:Str} (hj:j<(jcr s).length): ∃n:Nat,n<960∧(jcr s).getD j 0=(n:Int)∧(n:Int)∈jcr s:=by
 have hm:(jcr s).getD j 0∈jcr s:=by rw [gB,gC hj];exact GR hj
 have:=jjZ hm
 exact ⟨((jcr s).getD j 0).toNat,by omega,by omega,by rw [show ((((jcr s).getD j 0).toNat:Nat):Int)=(jcr s).getD j 0 by omega];exact hm⟩
theorem ownP_in {b:Tb} {p:Int} (h:0≤st∧st<(b.sts.length:Int)) (h2:0≤p∧p≤959):jl8 b st p=0:=by
 rw [jl8,if_neg (fun e=>e ⟨h.1,by omega⟩),if_neg (fun e=>e h2)]
theorem openP_in {b:Tb} {p:Int} (hz:tbS b=0) (h:0≤st∧st<(b.sts.length:Int)) (h2:0≤p∧p≤959) (hne:jaf b≠[]):jaX b (jl8 b st p)=0:=jma hz (ownP_in h h2) hne
theorem place_in {b:Tb} (ok:TbOk b) {c:Ce} (hc:jec b c=true):(0≤c.st∧c.st<(b.sts.length:Int))∧0≤(jbg b c).lat∧(jbg b c).lat≤959:=by
 have h:=jdj.1 hc
 exact ⟨⟨h.2.2.1,h.2.2.2⟩,((ok.lines _).ok _ (jd3 hc)).lat⟩
def spW (b:Tb) (c:Ce):Int×Int:=jcV b c.butt c.st (jbg b c).lat
end
section
variable [LaidO B]
theorem jqc {c:Nat} {ls:List Ln} (r:RdLn B h (.slice p n c) n ls) (h0:0<n): ∃lb lo,∃lps:List Lp,p=some ⟨lb,lo,none⟩∧lps.map (·.ln)=ls∧lps.length=n∧RdS B h 2 (.slice (some ⟨lb,lo,none⟩) n c) n (jax lps):=by
 obtain ⟨lps,e,r,_⟩:=r
 have hl:=r.elen zA
 obtain ⟨lb,lo,rfl⟩:=r.ptr h0
 exact ⟨lb,lo,lps,rfl,e,hl,r⟩
theorem lat_at {lps:List Lp} {ls:List Ln} (e:lps.map (·.ln)=ls) (hi:i<lps.length):(lps.getD i default).ln.lat=(ls.getD i default).lat:=by
 rw [←e,jaZ _ _ hi]
theorem f38_c (m:Md Tryz.prog B) (h:Hp) {b:Tb} (ra:RawTb B h b ps ns ks pw nw cw pb nb cb) {c:Ce} (hht:jec b c=true):FnC m 38 #[tbV b ps ns ks pw nw cw pb nb cb,cV c.butt c.line c.st] h fun v h'=>h'=h∧v= .tuple [.agg [.int .i64 (spW b c).1,.int .i64 (spW b c).2].toArray,.int .i64 (jaX b (jl8 b c.st (jbg b c).lat))].toArray:=by
 refine jad Tryz.func38 rfl rfl (l:=(tbV b ps ns ks pw nw cw pb nb cb)::(cV c.butt c.line c.st)::uu32) rfl ?_
 intro cf cs K hK
 refine Z2 ?_
 refine jaK rfl zq (fun q1=>jar (jae ?_));refine jaK rfl zq (fun q3=>jar (jae ?_));refine jaw rfl zq (fun q4=>jar (jae ?_));refine Z8 ?_
 refine jbJ (fun hc=>?_) (fun hc=>?_);first|replace hc:=of_decide_eq_true hc|replace hc:=of_decide_eq_false hc|skip
 refine Zs ?_
 have hbt:c.butt=true:=hc
 have hh:=jdj.1 hht
 have hln:(ja7 b c.butt).length=nb:=by rw [hbt];exact jbx ra.u
 obtain ⟨li,hli⟩:=GL hh.1
 obtain ⟨lb,lo,lps,rfl,hle,hll,rl⟩:=jqc ra.u zO
 have hlat:(lps.getD li default).ln.lat=(jbg b c).lat:=by
  rw [lat_at hle zO,jbg,hbt,hli];rfl
 refine jao [Zp 1,Zp 3,Zp 5,Zr 0,Zr 2,Zr 4,Zr 6,Zp 7,Zp 8,Zr 9,Zk 10,Zp 11,Zp 12,Zf 13,Zp 14] zK zK (gE _) ?_;refine Z7 ?_;refine D11 ?_;refine Zs ?_;refine jaR (v:= .int .i64 (lps.getD li default).ln.lat) rfl zq (rl.fat li 0 zO zO rfl) ?_;rw [hlat];refine jah (Post:=fun v=>v= .tuple [.agg [.int .i64 (jcV b true c.st (jbg b c).lat).1,.int .i64 (jcV b true c.st (jbg b c).lat).2].toArray,.int .i64 (jaX b (jl8 b c.st (jbg b c).lat))].toArray) rfl zq zK (fun H' hH=>f23_c m H' (ra.keeps (sq hH)) _ _) ?_;rotate_left
 first|replace hc:=of_decide_eq_true hc|replace hc:=of_decide_eq_false hc|skip
 refine Z2 ?_
 have hbt:c.butt=false:=by simpa using hc
 have hh:=jdj.1 hht
 have hln:(ja7 b c.butt).length=nw:=by rw [hbt];exact jbx ra.w
 obtain ⟨li,hli⟩:=GL hh.1
 obtain ⟨lb,lo,lps,rfl,hle,hll,rl⟩:=jqc ra.w zO
 have hlat:(lps.getD li default).ln.lat=(jbg b c).lat:=by
  rw [lat_at hle zO,jbg,hbt,hli];rfl
 refine jao [Zp 1,Zp 3,Zp 5,Zr 0,Zr 2,Zr 4,Zr 6,Zp 7,Zp 8,Zr 9,Zk 10,Zp 11,Zp 12,Zf 13,Zp 14] zK zK (gE _) ?_;refine Z7 ?_;refine D11 ?_;refine Zs ?_;refine jaR (v:= .int .i64 (lps.getD li default).ln.lat) rfl zq (rl.fat li 0 zO zO rfl) ?_;rw [hlat];refine jah (Post:=fun v=>v= .tuple [.agg [.int .i64 (jcV b false c.st (jbg b c).lat).1,.int .i64 (jcV b false c.st (jbg b c).lat).2].toArray,.int .i64 (jaX b (jl8 b c.st (jbg b c).lat))].toArray) rfl zq zK (fun H' hH=>f21_c m H' (ra.keeps (sq hH)) _ _) ?_;all_goals
  rintro v rfl;refine Z3 ?_;refine jhd ?_;refine jab (h) rfl Tryz.func38 rfl jaa ?_;refine Zs ?_
  exact ⟨rfl,by rw [spW,hbt]⟩
end
section
variable [LaidO B]
theorem jmA (n:Nat) (hn:n<65536):jrn .i64 (n:Int) 1=((n%2:Nat):Int):=by
 unfold jrn
 have e:(BitVec.ofInt IntKind.i64.bits (n:Int)&&&BitVec.ofInt IntKind.i64.bits 1).toNat=n%2:=by
  rw [BitVec.toNat_and,BitVec.ofInt_natCast,show (1:Int)=((1:Nat):Int) from rfl,BitVec.ofInt_natCast,BitVec.toNat_ofNat,BitVec.toNat_ofNat];rw [show IntKind.i64.bits=64 from rfl,Vo (show n<2^64 by omega),Vo (show 1<2^64 by decide),Nat.and_one_is_mod]
 rw [e];unfold IntKind.wrap
 simp [IntKind.bits,IntKind.signed]
 omega
theorem shr_i64 (s:Nat) (hi:i<64):(s:Int).fdiv (2^(min (i:Int).toNat IntKind.i64.bits))=((s/2^i:Nat):Int):=by
 rw [gZ,show min i IntKind.i64.bits=i from VB (by show i≤64;omega)];rw [show ((2:Int)^i)=((2^i:Nat):Int) by simp,ve _ (Int.natCast_nonneg _)];rfl
theorem pat_bits {x:Bo} (h:x.length=n):jc0 x=jeo (jbX x) n:=by
 apply vB
 ·simp [jc0,jeo,h]
 ·intro i h1 h2
  have hi:i<x.length:=by simpa [jc0] using h1
  simp only [jc0,jeo,vu,List.getElem_range]
  rw [jcI,Vw,vl,decide_eq_true_eq];have:xA x i=x[i]:=by rw [xA,gB,gC hi];rfl
  rw [this];exact ⟨fun e=>⟨hi,e⟩,fun e=>e.2⟩
theorem isB_to {p q:Prop} {w:Value} (h:IsB p w) (e:p↔q):IsB q w:=by
 rcases h with ⟨c,e2⟩|⟨c,e2⟩
 ·exact .inl ⟨e.1 c,e2⟩
 ·exact .inr ⟨fun x=>c (e.2 x),e2⟩
end
end Go.Proofs
namespace Go.Proofs
open Go.Lo
section
variable {b:Tb}
end
theorem jir {b:Tb} (hm: ∀xs,Asc xs→(∀x∈xs,0≤x∧x<((jac b).length:Int))→jqY b (jbt xs)=true→ ¬jeg xs gg) {x:Bo} (hok:okA (cdT b) x=true):gg.length≤jee x:=by
 have hlen:x.length=(jac b).length:=by rw [jcc hok,jay]
 have hlt:jbX x<2^(jac b).length:=hlen▸jki
 have hk:=jdU (k:=(jac b).length) hlt
 have hin:=jnn (k:=(jac b).length) hlt
 have hpt:=pat_bits hlen
 have h1:jqY b (jbt (jbA (jbX x) (jac b).length))=true:=by
  rw [hk,jfS];exact List.ne_nil_of_mem (a:=x) ((jgZ (by rw [jb4,jay])).2 ⟨hok,hpt⟩)
 have h2:=hm _ (jfZ _ _) hin h1
 have h3:(jbA (jbX x) (jac b).length).length=jee x:=by
  rw [←jik (jfZ _ _) hin,hk,←hpt,jhQ]
 rw [←h3];exact Gk fun e=>h2 (.inl e)
def joX (n:Nat) (wr ms:List Int):Bo:=(List.range n).map fun (i:Nat)=>if (i:Int)∈wr then none else some (ms.getD i 0)
theorem jnO (n:Nat) (wr ms:List Int):(joX n wr ms).length=n:=by simp [joX]
theorem jlR (h:i<n):xA (joX n wr ms) i=if (i:Int)∈wr then none else some (ms.getD i 0):=by
 rw [xA,joX,gB,gk,vH h];rfl
theorem xA_out (h: ¬i<n):xA (joX n wr ms) i=none:=by
 rw [xA,gB,ge (by rw [jnO];omega)];rfl
theorem jbw:xA (joX n wr ms) i=some v↔i<n∧(i:Int)∉wr∧ms.getD i 0=v:=by
 by_cases h:i<n
 ·rw [jlR h];by_cases hw:(i:Int)∈wr
  ·simp [hw]
  ·simp [hw,h]
 ·rw [xA_out h];simp [h]
theorem jjc (ha:Asc wr) (hr: ∀x∈wr,0≤x∧x<(n:Int)):jee (joX n wr ms)=wr.length:=by
 rw [←jhQ,←jik ha hr];congr 1
 refine vB (by simp [jc0,jeo,joX]) fun i h1 h2=>?_
 have hi:i<n:=by simpa [jeo] using h2
 simp only [jc0,jeo,joX,vu,List.getElem_range,jdd fun z hz=>(hr z hz).1]
 by_cases hw:(i:Int)∈wr<;>simp [hw]
def jk7 (b:Tb) (wr ms:List Int):Prop:=(∀i:Nat,i<(jac b).length→(i:Int)∉wr→ms.getD i 0∈jcr (jci b ((jac b).getD i default)))∧ ∀i j:Nat,i<j→j<(jac b).length→(i:Int)∉wr→(j:Int)∉wr→jaU b ((jac b).getD i default) ((jac b).getD j default) (ms.getD i 0) (ms.getD j 0)=true
theorem jp2 {b:Tb}:okA (cdT b) (joX (jac b).length wr ms)=true↔jk7 b wr ms:=by
 rw [jdv];constructor
 ·rintro ⟨_,h2,h3⟩;constructor
  ·intro i hi hw
   rw [←jri hi];exact h2 i _ (jbw.2 ⟨hi,hw,rfl⟩)
  ·intro i j hij hj wi wj
   have:=h3 i j _ _ hij (jbw.2 ⟨by omega,wi,rfl⟩) (jbw.2 ⟨hj,wj,rfl⟩)
   rwa [jaq b zO,jaq b hj,jpH] at this
 ·rintro ⟨h2,h3⟩;refine ⟨by rw [jnO,jay],fun i v e=>?_,fun i j v u hij ei ej=>?_⟩
  ·obtain ⟨hi,hw,rfl⟩:=jbw.1 e
   rw [jri hi];exact h2 i hi hw
  ·obtain ⟨hi,wi,rfl⟩:=jbw.1 ei
   obtain ⟨hj,wj,rfl⟩:=jbw.1 ej
   rw [jaq b hi,jaq b hj,jpH];exact h3 i j hij hj wi wj
section
variable {b:Tb} (ok:TbOk b) (ha:Asc wr) (hr: ∀x∈wr,0≤x∧x<((jac b).length:Int)) (hw:(wr.length:Int)≤b.wrong) (hl:jk7 b wr ms)
include ha hr hw hl
theorem jfm:joX (jac b).length wr ms∈jaf b:=jbf.2 ⟨jp2.2 hl,by rw [jjc ha hr];omega⟩
theorem true_ne:jaf b≠[]:=List.ne_nil_of_mem (jfm ha hr hw hl)
theorem true_can (hk:k<(jac b).length) (h:(k:Int)∉wr):ms.getD k 0∈jlG (cdT b) (jaf b) k:=
 jiK.2 ⟨_,jfm ha hr hw hl,jbw.2 ⟨hk,h,rfl⟩⟩
theorem jpd (hk:k<(jac b).length):(jeQ (jfk (jaf b) k) (jaf b).length=1→(k:Int)∈wr)∧(jeQ (jfk (jaf b) k) (jaf b).length=2→(k:Int)∉wr):=by
 have hb:=jfm ha hr hw hl
 constructor
 ·intro h
  by_cases e:(k:Int)∈wr
  ·exact e
  ·unfold jeQ at h
   split at h
   ·cases h
   ·split at h
    ·rename_i h2
     have:=List.countP_eq_length.1 h2 _ hb
     rw [jlR hk,if_neg e] at this
     cases this
    ·cases h
 ·intro h e
  unfold jeQ at h
  split at h
  ·rename_i h2
   have:=vR.1 h2 _ hb
   rw [jlR hk,if_pos e] at this
   exact this rfl
  ·split at h<;>cases h
include ok in
theorem jlU (hk:k<(jac b).length) (h:(k:Int)∉wr):(jkB b ((jac b).getD k default).butt ((jac b).getD k default).st (jbg b ((jac b).getD k default)).lat).1≤ms.getD k 0∧ms.getD k 0≤(jkB b ((jac b).getD k default).butt ((jac b).getD k default).st (jbg b ((jac b).getD k default)).lat).2:=by
 have hb:=jfm ha hr hw hl
 have hk':k<(cdT b).length:=by rw [jay];exact hk
 have:=bdA_self (RngD_cdT ok) (SepD_cdT ok) (jbf.1 hb).1 hk' (jbw.2 ⟨hk,h,rfl⟩)
 rw [jaq b hk] at this
 have h1:=(spB_low (f:=fun x=>bdA (cdT b) x ((jac b).getD k default).butt ((jac b).getD k default).st (jbg b ((jac b).getD k default)).lat) (L:=jaf b)).1 (vD _)
 have h2:=(spB_high (f:=fun x=>bdA (cdT b) x ((jac b).getD k default).butt ((jac b).getD k default).st (jbg b ((jac b).getD k default)).lat) (L:=jaf b)).1 (vD _)
 have h3:=h1.2 _ hb
 have h4:=h2.2 _ hb
 have e:bdA (cdT b) (joX (jac b).length wr ms) ((jac b).getD k default).butt ((jac b).getD k default).st (jbg b ((jac b).getD k default)).lat=(ms.getD k 0,ms.getD k 0):=this
 rw [e] at h3 h4
 exact ⟨h3,h4⟩
theorem true_few (h:jdQ (fun l=>jqY b (jbt l)=true) (jac b).length g):g.length≤wr.length:=by
 rw [←jjc (ms:=ms) ha hr];exact jir h.2.2.2 (jp2.2 hl)
end
end Go.Proofs
namespace Go.Proofs
open Go.Lo
open Go.Conc (G)
section
variable [LaidO B]
theorem jeb {b:Tb} {c:Ce} (h:jec b c=true):0≤c.line∧c.line<(ja7 b c.butt).length:=by
 have:=(jg7 (b:=b) (bt:=c.butt) (li:=c.line) (st:=c.st)).1 h
 omega
theorem jau {la lc:Int}:jpG la lc ma mc=true↔la=lc∨(ma≤mc↔la<lc)∨ma=mc:=by
 unfold jpG
 by_cases h1:la=lc<;>by_cases h2:ma≤mc<;>by_cases h3:la<lc<;>by_cases h4:ma=mc<;>simp [h1,h2,h3,h4]<;>omega
theorem jat {la lc:Int}:jmW la lc ma mc=true↔(mc<la∧ma≥lc)∨(¬mc<la∧(mc=la∨ma≤lc)):=by
 unfold jmW
 split
 ·simp
  omega
 ·simp
  omega
theorem f177n_c (m:Md Tryz.prog B) (h:Hp) {b:Tb} (rd:RdTb B h b ps ns ks pw nw cw pb nb cb) {a c:Ce} (ha:jec b a=true) (hcc:jec b c=true) (hn:a.butt=c.butt∨a.butt=false) (ma mc:Int):FnC m 177 #[tbV b ps ns ks pw nw cw pb nb cb,cV a.butt a.line a.st,cV c.butt c.line c.st,.int .i64 ma,.int .i64 mc] h fun v h'=>h'=h∧v= .bool (jaU b a c ma mc):=by
 have ha0:=jeb ha
 have hc0:=jeb hcc
 refine jad Tryz.func177 rfl rfl (l:=[tbV b ps ns ks pw nw cw pb nb cb,cV a.butt a.line a.st,cV c.butt c.line c.st,.int .i64 ma,.int .i64 mc,undef,undef,undef,undef,undef,undef,undef,undef,undef,undef,undef,undef,undef,undef,undef,undef,undef,undef,undef,undef,undef,undef,undef,undef,undef,undef,undef,undef,undef,undef,undef,undef,undef,undef,undef,undef,undef,undef,undef,undef,undef,undef,undef,undef,undef,undef,undef,undef,undef,undef,undef,undef,undef,undef,undef,undef,undef,undef,undef,undef,undef,undef,undef,undef,undef]) rfl ?_
 intro cf cs K hK
 refine Z2 ?_
 refine jaK rfl zq (fun q5=>jar (jae ?_));refine jaK rfl zq (fun q6=>jar (jae ?_));refine jaK rfl zq (fun q7=>jar (jae ?_));refine Z9 ?_
 refine ja5 rfl zq (fun hc=>?_) (fun hc=>?_)
 ·refine Z7 ?_;refine jab (h) rfl Tryz.func177 rfl jaa ?_;refine Zs ?_
  refine ⟨rfl,congrArg Value.bool ?_⟩
  first
   |exact absurd hbb zA
   |(rw [jaU,if_pos zD];done)
   |(rw [jaU,if_neg (fun e=>e zD)]
     first
      |(rw [if_pos (show a.butt=c.butt from hbt),←hx1,←hx2];exact E70)
      |(rw [if_neg (show¬a.butt=c.butt from hbt),if_neg (gt.1 zD),←hx1,←hx2];exact E72))
 ·refine Z4 ?_;refine jao [Zr 0,Zr 1,Zr 4,Zr 5,Zk 2,Zp 3,Zk 6,Zp 7,Zp 8,Zp 9] zK zK (gE _) ?_;refine Z4 ?_;refine jah (Post:=fun v=> ∃x:Lp,v=lpV x∧x.ln=jbg b a) rfl zq zK (fun H' hH=>CallF.mono (f94_c m (sq hH) rd (st:=a.st) (jeb ha).1 (jeb ha).2) fun v h' ⟨e,x,e1,e2,_⟩=>⟨e,x,e1,e2⟩) ?_
  rintro v ⟨x1,rfl,hx1⟩;refine Zs ?_;refine jmi rfl zq ?_;refine jah (Post:=fun v=> ∃x:Lp,v=lpV x∧x.ln=jbg b c) rfl zq zK (fun H' hH=>CallF.mono (f94_c m (sq hH) rd (st:=c.st) (jeb hcc).1 (jeb hcc).2) fun v h' ⟨e,x,e1,e2,_⟩=>⟨e,x,e1,e2⟩) ?_
  rintro v ⟨x2,rfl,hx2⟩;refine Zs ?_;refine jmi rfl zq ?_;refine Z10 ?_
  refine jfL rfl zq zK (fun hbt=>?_) (fun hbt=>?_)
  ·refine Z3 ?_;refine jbd [Zf 0,Zf 1,Zf 2,Zf 3,Zf 4,Zf 5,Zf 6,Zf 7,Zf 8,Zf 9,Zf 10,Zf 11,Zf 12,Zf 13,Zf 14,Zf 15,Zf 16,Zf 17] zK zK ?_;refine Z2 ?_
   refine jaC rfl zq (fun hc=>?_) (fun hc=>?_)
   ·refine Z17 ?_;refine jab (h) rfl Tryz.func177 rfl jaa ?_;refine Zs ?_
    refine ⟨rfl,congrArg Value.bool ?_⟩
    first
     |exact absurd hbb zA
     |(rw [jaU,if_pos zD];done)
     |(rw [jaU,if_neg (fun e=>e zD)]
       first
        |(rw [if_pos (show a.butt=c.butt from hbt),←hx1,←hx2];exact E70)
        |(rw [if_neg (show¬a.butt=c.butt from hbt),if_neg (gt.1 zD),←hx1,←hx2];exact E72))
   ·refine Z3 ?_
    refine jbL rfl rfl (fun hc=>?_) (fun hc=>?_);all_goals
     refine Z2 ?_
     refine jal rfl rfl (fun hc=>?_) (fun hc=>?_);all_goals
      refine jfL rfl rfl zK (fun hbb=>?_) (fun hbb=>?_)
      ·refine Z9 ?_;refine jab (h) rfl Tryz.func177 rfl jaa ?_;refine Zs ?_
       refine ⟨rfl,congrArg Value.bool ?_⟩
       first
        |exact absurd hbb zA
        |(rw [jaU,if_pos zD];done)
        |(rw [jaU,if_neg (fun e=>e zD)]
          first
           |(rw [if_pos (show a.butt=c.butt from hbt),←hx1,←hx2];exact E70)
           |(rw [if_neg (show¬a.butt=c.butt from hbt),if_neg (gt.1 zD),←hx1,←hx2];exact E72))
      ·refine Z4 ?_
       refine jaC rfl rfl (fun hc=>?_) (fun hc=>?_);all_goals
        refine Z4 ?_;refine jab (h) rfl Tryz.func177 rfl jaa ?_;refine Zs ?_
        refine ⟨rfl,congrArg Value.bool ?_⟩
        first
         |exact absurd hbb zA
         |(rw [jaU,if_pos zD];done)
         |(rw [jaU,if_neg (fun e=>e zD)]
           first
            |(rw [if_pos (show a.butt=c.butt from hbt),←hx1,←hx2];exact E70)
            |(rw [if_neg (show¬a.butt=c.butt from hbt),if_neg (gt.1 zD),←hx1,←hx2];exact E72))
  ·refine Z9 ?_
   refine jbJ (fun hc=>?_) (fun hc=>?_)
   ·first|replace hc:=of_decide_eq_true hc|replace hc:=of_decide_eq_false hc|skip
    refine Zs ?_
    exact absurd hn (by rintro (e|e);exact hbt e;rw [e] at hc;cases hc)
   ·first|replace hc:=of_decide_eq_true hc|replace hc:=of_decide_eq_false hc|skip
    refine Z6 ?_
    refine jal rfl zq (fun hc=>?_) (fun hc=>?_)
    ·refine Z6 ?_
     refine jbB rfl zq (fun hc=>?_) (fun hc=>?_);all_goals
      refine Z3 ?_;refine jab (h) rfl Tryz.func177 rfl jaa ?_;refine Zs ?_
      refine ⟨rfl,congrArg Value.bool ?_⟩
      first
       |exact absurd hbb zA
       |(rw [jaU,if_pos zD];done)
       |(rw [jaU,if_neg (fun e=>e zD)]
         first
          |(rw [if_pos (show a.butt=c.butt from hbt),←hx1,←hx2];exact E70)
          |(rw [if_neg (show¬a.butt=c.butt from hbt),if_neg (gt.1 zD),←hx1,←hx2];exact E72))
    ·refine Z7 ?_
     refine jaC rfl zq (fun hc=>?_) (fun hc=>?_)
     ·refine Z8 ?_;refine jab (h) rfl Tryz.func177 rfl jaa ?_;refine Zs ?_
      refine ⟨rfl,congrArg Value.bool ?_⟩
      first
       |exact absurd hbb zA
       |(rw [jaU,if_pos zD];done)
       |(rw [jaU,if_neg (fun e=>e zD)]
         first
          |(rw [if_pos (show a.butt=c.butt from hbt),←hx1,←hx2];exact E70)
          |(rw [if_neg (show¬a.butt=c.butt from hbt),if_neg (gt.1 zD),←hx1,←hx2];exact E72))
     ·refine Z3 ?_
      refine jbL rfl rfl (fun hc=>?_) (fun hc=>?_);all_goals
       refine Z4 ?_;refine jab (h) rfl Tryz.func177 rfl jaa ?_;refine Zs ?_
       refine ⟨rfl,congrArg Value.bool ?_⟩
       first
        |exact absurd hbb zA
        |(rw [jaU,if_pos zD];done)
        |(rw [jaU,if_neg (fun e=>e zD)]
          first
           |(rw [if_pos (show a.butt=c.butt from hbt),←hx1,←hx2];exact E70)
           |(rw [if_neg (show¬a.butt=c.butt from hbt),if_neg (gt.1 zD),←hx1,←hx2];exact E72))
theorem jca {b:Tb} {a c:Ce} (hst:a.st=c.st) (hbt:a.butt≠c.butt) (ha:a.butt=true):jaU b c a mc ma=jaU b a c ma mc:=by
 have hc:c.butt=false:=by cases e:c.butt;rfl;rw [ha,e] at hbt;exact absurd rfl hbt
 simp [jaU,hst,ha,hc]
theorem f177_c (m:Md Tryz.prog B) (h:Hp) {b:Tb} (rd:RdTb B h b ps ns ks pw nw cw pb nb cb) {a c:Ce} (ha:jec b a=true) (hcc:jec b c=true) (ma mc:Int):FnC m 177 #[tbV b ps ns ks pw nw cw pb nb cb,cV a.butt a.line a.st,cV c.butt c.line c.st,.int .i64 ma,.int .i64 mc] h fun v h'=>h'=h∧v= .bool (jaU b a c ma mc):=by
 have ha0:=jeb ha
 have hc0:=jeb hcc
 refine jad Tryz.func177 rfl rfl (l:=[tbV b ps ns ks pw nw cw pb nb cb,cV a.butt a.line a.st,cV c.butt c.line c.st,.int .i64 ma,.int .i64 mc,undef,undef,undef,undef,undef,undef,undef,undef,undef,undef,undef,undef,undef,undef,undef,undef,undef,undef,undef,undef,undef,undef,undef,undef,undef,undef,undef,undef,undef,undef,undef,undef,undef,undef,undef,undef,undef,undef,undef,undef,undef,undef,undef,undef,undef,undef,undef,undef,undef,undef,undef,undef,undef,undef,undef,undef,undef,undef,undef,undef,undef,undef,undef,undef,undef]) rfl ?_
 intro cf cs K hK
 refine Z2 ?_
 refine jaK rfl zq (fun q5=>jar (jae ?_));refine jaK rfl zq (fun q6=>jar (jae ?_));refine jaK rfl zq (fun q7=>jar (jae ?_));refine Z9 ?_
 refine ja5 rfl zq (fun hc=>?_) (fun hc=>?_)
 ·refine Z7 ?_;refine jab (h) rfl Tryz.func177 rfl jaa ?_;refine Zs ?_
  first
   |exact E74
   |(refine ⟨rfl,congrArg Value.bool ?_⟩
     first
      |exact absurd hbb zA
      |(rw [jaU,if_pos zD];done)
      |(rw [jaU,if_neg (fun e=>e zD)]
        first
         |(rw [if_pos (show a.butt=c.butt from hbt),←hx1,←hx2];exact E70)
         |(rw [if_neg (show¬a.butt=c.butt from hbt),if_neg (gt.1 zD),←hx1,←hx2];exact E72)))
 ·refine Z4 ?_;refine jao [Zr 0,Zr 1,Zr 4,Zr 5,Zk 2,Zp 3,Zk 6,Zp 7,Zp 8,Zp 9] zK zK (gE _) ?_;refine Z4 ?_;refine jah (Post:=fun v=> ∃x:Lp,v=lpV x∧x.ln=jbg b a) rfl zq zK (fun H' hH=>CallF.mono (f94_c m (sq hH) rd (st:=a.st) (jeb ha).1 (jeb ha).2) fun v h' ⟨e,x,e1,e2,_⟩=>⟨e,x,e1,e2⟩) ?_
  rintro v ⟨x1,rfl,hx1⟩;refine Zs ?_;refine jmi rfl zq ?_;refine jah (Post:=fun v=> ∃x:Lp,v=lpV x∧x.ln=jbg b c) rfl zq zK (fun H' hH=>CallF.mono (f94_c m (sq hH) rd (st:=c.st) (jeb hcc).1 (jeb hcc).2) fun v h' ⟨e,x,e1,e2,_⟩=>⟨e,x,e1,e2⟩) ?_
  rintro v ⟨x2,rfl,hx2⟩;refine Zs ?_;refine jmi rfl zq ?_;refine Z10 ?_
  refine jfL rfl zq zK (fun hbt=>?_) (fun hbt=>?_)
  ·refine Z3 ?_;refine jbd [Zf 0,Zf 1,Zf 2,Zf 3,Zf 4,Zf 5,Zf 6,Zf 7,Zf 8,Zf 9,Zf 10,Zf 11,Zf 12,Zf 13,Zf 14,Zf 15,Zf 16,Zf 17] zK zK ?_;refine Z2 ?_
   refine jaC rfl zq (fun hc=>?_) (fun hc=>?_)
   ·refine Z17 ?_;refine jab (h) rfl Tryz.func177 rfl jaa ?_;refine Zs ?_
    first
     |exact E74
     |(refine ⟨rfl,congrArg Value.bool ?_⟩
       first
        |exact absurd hbb zA
        |(rw [jaU,if_pos zD];done)
        |(rw [jaU,if_neg (fun e=>e zD)]
          first
           |(rw [if_pos (show a.butt=c.butt from hbt),←hx1,←hx2];exact E70)
           |(rw [if_neg (show¬a.butt=c.butt from hbt),if_neg (gt.1 zD),←hx1,←hx2];exact E72)))
   ·refine Z3 ?_
    refine jbL rfl rfl (fun hc=>?_) (fun hc=>?_);all_goals
     refine Z2 ?_
     refine jal rfl rfl (fun hc=>?_) (fun hc=>?_);all_goals
      refine jfL rfl rfl zK (fun hbb=>?_) (fun hbb=>?_)
      ·refine Z9 ?_;refine jab (h) rfl Tryz.func177 rfl jaa ?_;refine Zs ?_
       first
        |exact E74
        |(refine ⟨rfl,congrArg Value.bool ?_⟩
          first
           |exact absurd hbb zA
           |(rw [jaU,if_pos zD];done)
           |(rw [jaU,if_neg (fun e=>e zD)]
             first
              |(rw [if_pos (show a.butt=c.butt from hbt),←hx1,←hx2];exact E70)
              |(rw [if_neg (show¬a.butt=c.butt from hbt),if_neg (gt.1 zD),←hx1,←hx2];exact E72)))
      ·refine Z4 ?_
       refine jaC rfl rfl (fun hc=>?_) (fun hc=>?_);all_goals
        refine Z4 ?_;refine jab (h) rfl Tryz.func177 rfl jaa ?_;refine Zs ?_
        first
         |exact E74
         |(refine ⟨rfl,congrArg Value.bool ?_⟩
           first
            |exact absurd hbb zA
            |(rw [jaU,if_pos zD];done)
            |(rw [jaU,if_neg (fun e=>e zD)]
              first
               |(rw [if_pos (show a.butt=c.butt from hbt),←hx1,←hx2];exact E70)
               |(rw [if_neg (show¬a.butt=c.butt from hbt),if_neg (gt.1 zD),←hx1,←hx2];exact E72)))
  ·refine Z9 ?_
   refine jbJ (fun hc=>?_) (fun hc=>?_)
   ·first|replace hc:=of_decide_eq_true hc|replace hc:=of_decide_eq_false hc|skip
    refine Zs ?_
    have hab:=hc
    refine Z6 ?_;refine jah (Post:=fun v=>v= .bool (jaU b c a mc ma)) rfl zq zK (fun H' hH=>f177n_c m H' (rd.keeps (sq hH)) hcc ha (.inr (by cases e:c.butt;rfl;rw [hab,e] at hbt;exact absurd rfl hbt)) mc ma) ?_
    rintro v rfl;refine Z4 ?_;refine jab (h) rfl Tryz.func177 rfl jaa ?_;refine Zs ?_
    first
     |exact E74
     |(refine ⟨rfl,congrArg Value.bool ?_⟩
       first
        |exact absurd hbb zA
        |(rw [jaU,if_pos zD];done)
        |(rw [jaU,if_neg (fun e=>e zD)]
          first
           |(rw [if_pos (show a.butt=c.butt from hbt),←hx1,←hx2];exact E70)
           |(rw [if_neg (show¬a.butt=c.butt from hbt),if_neg (gt.1 zD),←hx1,←hx2];exact E72)))
   ·first|replace hc:=of_decide_eq_true hc|replace hc:=of_decide_eq_false hc|skip
    refine Z6 ?_
    refine jal rfl zq (fun hc=>?_) (fun hc=>?_)
    ·refine Z6 ?_
     refine jbB rfl zq (fun hc=>?_) (fun hc=>?_);all_goals
      refine Z3 ?_;refine jab (h) rfl Tryz.func177 rfl jaa ?_;refine Zs ?_
      first
       |exact E74
       |(refine ⟨rfl,congrArg Value.bool ?_⟩
         first
          |exact absurd hbb zA
          |(rw [jaU,if_pos zD];done)
          |(rw [jaU,if_neg (fun e=>e zD)]
            first
             |(rw [if_pos (show a.butt=c.butt from hbt),←hx1,←hx2];exact E70)
             |(rw [if_neg (show¬a.butt=c.butt from hbt),if_neg (gt.1 zD),←hx1,←hx2];exact E72)))
    ·refine Z7 ?_
     refine jaC rfl zq (fun hc=>?_) (fun hc=>?_)
     ·refine Z8 ?_;refine jab (h) rfl Tryz.func177 rfl jaa ?_;refine Zs ?_
      first
       |exact E74
       |(refine ⟨rfl,congrArg Value.bool ?_⟩
         first
          |exact absurd hbb zA
          |(rw [jaU,if_pos zD];done)
          |(rw [jaU,if_neg (fun e=>e zD)]
            first
             |(rw [if_pos (show a.butt=c.butt from hbt),←hx1,←hx2];exact E70)
             |(rw [if_neg (show¬a.butt=c.butt from hbt),if_neg (gt.1 zD),←hx1,←hx2];exact E72)))
     ·refine Z3 ?_
      refine jbL rfl rfl (fun hc=>?_) (fun hc=>?_);all_goals
       refine Z4 ?_;refine jab (h) rfl Tryz.func177 rfl jaa ?_;refine Zs ?_
       first
        |exact E74
        |(refine ⟨rfl,congrArg Value.bool ?_⟩
          first
           |exact absurd hbb zA
           |(rw [jaU,if_pos zD];done)
           |(rw [jaU,if_neg (fun e=>e zD)]
             first
              |(rw [if_pos (show a.butt=c.butt from hbt),←hx1,←hx2];exact E70)
              |(rw [if_neg (show¬a.butt=c.butt from hbt),if_neg (gt.1 zD),←hx1,←hx2];exact E72)))
end
section
variable [LaidO B]
theorem jjB {c:Nat} {ys:List Value} (rd:RdS B h 1 (.slice p n c) n ys):ys.length=n:=by
 obtain ⟨p,c',e,hl,_⟩:=rd
 omega
theorem jg6 {c:Nat} (rd:RdS B h 1 (.slice p n c) n (jav xs)):xs.length=n:=by
 have:=jjB rd
 rwa [jav,gY] at this
theorem u16_at {H:Hp} {c b o:Nat} (rd:RdS B h 1 (.slice (some ⟨b,o,none⟩) n c) n (zs.map (Value.int .u16))) [s:SubH h H] (i:Nat) (hi:i<n):Rd B H ⟨b,o+(i:Int).toNat*1,none⟩ (.int .u16 (zs.getD i 0)):=by
 have:=rd.vat (H:=H) i rfl hi
 have hz:i<zs.length:=by
  have:=jjB rd
  rw [gY] at this
  omega
 rw [gB,gk,gC hz] at this
 rw [gB,gC hz];exact this
theorem len_btL (h:ms.length=12):LenIs (btL s ms) 13:=⟨jjt s h⟩
theorem seg_btL (h:ms.length=12):Seg (btL s ms) 0 13 (btL s ms):=seg_all (jjt s h)
theorem bt_wrong {z:Nat}:SetSeg (btL s ms) 0 [.int .u64 (z:Int)] (btL z ms):=⟨by simp [btL]⟩
theorem bt_meas (h:k<ms.length):SetSeg (btL s ms) (1+(k:Int).toNat*1) [.int .i64 v] (btL s (ms.set k v)):=by
 refine jct (by rw [btL,gU,gY];omega) ?_
 rw [btL,btL,show 1+(k:Int).toNat*1=k+1 by omega,List.set_cons_succ,←jnw]
def msK (wr ms:List Int) (k:Nat):List Int:=(List.range 12).map fun j=>if j<k∧(j:Int)∉wr then ms.getD j 0 else 0
theorem jge (wr ms:List Int) (k:Nat):(msK wr ms k).length=12:=by simp [msK]
theorem msK_at (hj:j<12):(msK wr ms k).getD j 0=if j<k∧(j:Int)∉wr then ms.getD j 0 else 0:=by
 rw [msK,gB,gk,vH hj];rfl
theorem msK_zero (wr ms:List Int):msK wr ms 0=List.replicate 12 0:=by
 rw [msK,List.eq_replicate_iff];exact ⟨by simp,fun x hx=>by
  obtain ⟨j,_,rfl⟩:=gQ.1 hx
  rw [if_neg zO]⟩
theorem msK_no (h:(k:Int)∈wr):msK wr ms (k+1)=msK wr ms k:=by
 refine GW fun j _=>?_
 by_cases e:j=k
 ·subst e
  rw [if_neg (fun x=>x.2 h),if_neg (fun x=>x.2 h)]
 ·by_cases e2:j<k∧(j:Int)∉wr
  ·rw [if_pos e2,if_pos ⟨by omega,e2.2⟩]
  ·rw [if_neg e2,if_neg (fun x=>e2 ⟨by omega,x.2⟩)]
theorem msK_yes (hk:k<12) (h:(k:Int)∉wr):msK wr ms (k+1)=(msK wr ms k).set k (ms.getD k 0):=by
 refine vB (by simp [jge]) fun j h1 h2=>?_
 have hj:j<12:=by rw [jge] at h1;exact h1
 rw [List.getElem_set];simp only [msK,vu,List.getElem_range]
 by_cases e:k=j
 ·subst e
  rw [if_pos ⟨by omega,h⟩,if_pos rfl]
 ·rw [if_neg e];by_cases e2:j<k∧(j:Int)∉wr
  ·rw [if_pos e2,if_pos ⟨by omega,e2.2⟩]
  ·rw [if_neg e2,if_neg (fun x=>e2 ⟨by omega,x.2⟩)]
theorem jqR {b:Tb} (hr: ∀x∈wr,0≤x∧x<((jac b).length:Int)) (h12:(jac b).length≤12) (hl:jk7 b wr ms) (hk:k<(jac b).length) (hw:(k:Int)∉wr):fitsN (cdT b) (jbt wr) (msK wr ms (k+1)) k k:=fun j hj hb=>by
 rw [jdd fun z hz=>(hr z hz).1,decide_eq_false_iff_not] at hb
 rw [msK_at zO,msK_at zO,if_pos ⟨by omega,hb⟩,if_pos ⟨by omega,hw⟩,jaq b zO,jaq b hk,jpH];exact hl.2 j k hj hk hb hw
theorem joc:jbt (l++[z])=jbt l|||2^z.toNat:=by
 unfold jbt
 rw [vQ];rfl
theorem jhw (h: ∀z∈l,0≤z∧z<12):jbt l<4096:=by
 have:jbt l<2^12:=Nat.lt_pow_two_of_testBit _ fun i hi=>by
  rw [jdd fun z hz=>(h z hz).1,decide_eq_false_iff_not];intro e
  have:=(h _ e).2
  omega
 exact this
theorem ji1 (h: ∀z∈l,0≤z):(jbt l).testBit k=true↔(k:Int)∈l:=by rw [jdd h,decide_eq_true_eq]
theorem f85_t (m:Md Tryz.prog B) (h:Hp) (s:Int) (h2:s≠2):FnC m 85 #[.int .i64 s,.bool true] h fun v h'=>h'=h∧v= .bool true:=by
 refine jad Tryz.func85 rfl rfl (l:=(.int .i64 s)::(.bool true)::uu16) rfl ?_
 intro cf cs K hK
 refine Z5 ?_
 have hk0:=h2
 ·refine joV ?_;refine Zs ?_;refine ja5 rfl zq (fun hc=>?_) (fun hc=>?_);refine Z3 ?_
  rotate_left
  refine Z3 ?_
  all_goals
   refine Z2 ?_;refine k_neqT rfl rfl h2 ?_;refine Z8 ?_;refine jab (h) rfl Tryz.func85 rfl jaa ?_;refine Zs ?_
   exact ⟨rfl,rfl⟩
theorem f85_f (m:Md Tryz.prog B) (h:Hp) (s:Int) (h1:s≠1):FnC m 85 #[.int .i64 s,.bool false] h fun v h'=>h'=h∧v= .bool true:=by
 refine jad Tryz.func85 rfl rfl (l:=(.int .i64 s)::(.bool false)::uu16) rfl ?_
 intro cf cs K hK
 refine Z5 ?_
 have hk0:=h1
 ·refine joV ?_;refine Zs ?_;refine k_neqT rfl zq h1 ?_;refine Z5 ?_;refine ja5 rfl rfl (fun hc=>?_) (fun hc=>?_);refine Z4 ?_
  rotate_left
  refine Z2 ?_;refine jql rfl rfl ?_;refine Zs ?_
  all_goals
   refine Z4 ?_;refine jab (h) rfl Tryz.func85 rfl jaa ?_;refine Zs ?_
   exact ⟨rfl,rfl⟩
theorem f144_c (m:Md Tryz.prog B) (h:Hp) {c:Nat} (rd:RdS B h 1 (.slice p n c) n (zs.map (Value.int .u16))) (hz: ∀x∈zs,0≤x∧x≤65535) (k:Nat):FnC m 144 #[.slice p n c,.int .i64 (k:Int)] h fun v h'=>h'=h∧ ∃z:Nat,z≤65535∧v= .int .i64 (z:Int):=by
 refine jad Tryz.func144 rfl rfl (l:=(.slice p n c)::(.int .i64 (k:Int))::uu16) rfl ?_
 intro cf cs K hK
 refine Z8 ?_;refine k_geqT rfl zq zO ?_;refine Z3 ?_;refine jfJ rfl rfl ?_
 refine jal rfl rfl (fun hc=>?_) (fun hc=>?_)
 ·refine Z4 ?_
  obtain ⟨pb,po,rfl⟩:=rd.ptr zO
  have hzl:zs.length=n:=by
   have:=jjB rd
   rwa [gY] at this
  have hzk:=hz (zs.getD k 0) (jcn.2 ⟨k,by omega,rfl⟩)
  obtain ⟨z,hzz⟩:=GL hzk.1
  refine Z3 ?_;refine D11 ?_;refine jaR rfl zq (u16_at rd k zO) ?_
  rw [hzz];refine jco rfl zq zK (n':=(z:Int)) zL ?_;refine Z3 ?_;refine jab (h) rfl Tryz.func144 rfl jaa ?_;refine Zs ?_;exact ⟨rfl,z,by omega,rfl⟩
 ·refine Z9 ?_;refine jab (h) rfl Tryz.func144 rfl jaa ?_;refine Zs ?_
  exact ⟨rfl,0,by omega,rfl⟩
theorem f140_c (m:Md Tryz.prog B) (h:Hp) {b:Tb} (rd:RdTb B h b ps ns ks pw nw cw pb nb cb) {p1 p2:Option Addr} {c1 c2:Nat} {cl:List Ce} (r1:RdS B h 3 (.slice p1 n c1) n (jax cl)) (r2:RdS B h 1 (.slice p2 n c2) n (jav ms)) (hn:n≤100000) (hcs: ∀c∈cl,jec b c=true):FnC m 140 #[tbV b ps ns ks pw nw cw pb nb cb,.slice p1 n c1,.slice p2 n c2] h fun v h'=>h'=h∧IsB (∀j i:Nat,j<i→i<n→jaU b (cl.getD j default) (cl.getD i default) (ms.getD j 0) (ms.getD i 0)=true) v:=by
 refine jad Tryz.func140 rfl rfl (l:=[tbV b ps ns ks pw nw cw pb nb cb,.slice p1 n c1,.slice p2 n c2,undef,undef,undef,undef,undef,undef,undef,undef,undef,undef,undef,undef,undef,undef,undef,undef,undef,undef,undef,undef,undef,undef,undef,undef,undef,undef,undef,undef,undef,undef,undef,undef,undef,undef,undef,undef]) rfl ?_
 intro cf cs K hK
 refine Z2 ?_
 refine jaK rfl zq (fun q3=>jar (jae ?_));refine Z8 ?_
 refine jag (fun nn l h'=> ∃(i:Nat),nn=n-i∧(i≤n)∧(∀j k:Nat,j<k→k<i→jaU b (cl.getD j default) (cl.getD k default) (ms.getD j 0) (ms.getD k 0)=true)∧(∃U:Nat→Value,l=((tbV b ps ns ks pw nw cw pb nb cb)::(.slice p1 n c1)::(.slice p2 n c2)::(.pointer (some ⟨q3,0,none⟩))::(U 4)::(U 5)::(U 6)::(.int .i64 (i:Int))::vw31 U 8 []))∧h++[⟨true,q3,.cells (tbL b ps ns ks pw nw cw pb nb cb).toArray 25 (0,0)⟩]=h') _ ⟨0,rfl,by omega,fun j k hj hk=>by omega,exU rfl,rfl⟩ ?_;rintro nn l h' ⟨i,rfl,hi,hall,⟨U,rfl⟩,rfl⟩ hnext1;refine Z6 ?_
 refine jal rfl zq (fun hc=>?_) (fun hc=>?_)
 ·refine Z10 ?_
  refine jag (fun nn l h'=> ∃(j:Nat),nn=i-j∧(j≤i)∧(∀a:Nat,a<j→jaU b (cl.getD a default) (cl.getD i default) (ms.getD a 0) (ms.getD i 0)=true)∧(∃U:Nat→Value,l=((tbV b ps ns ks pw nw cw pb nb cb)::(.slice p1 n c1)::(.slice p2 n c2)::(.pointer (some ⟨q3,0,none⟩))::(U 4)::(U 5)::(U 6)::(.int .i64 (i:Int))::(.int .i64 (j:Int))::(U 9)::(U 10)::vw28 U 11 []))∧h++[⟨true,q3,.cells (tbL b ps ns ks pw nw cw pb nb cb).toArray 25 (0,0)⟩]=h') _ ⟨0,rfl,by omega,fun a ha=>by omega,exU rfl,rfl⟩ ?_;rintro nn l h' ⟨j,rfl,hj,hj2,⟨U,rfl⟩,rfl⟩ hnext2;refine Z5 ?_
  refine jal rfl zq (fun hc=>?_) (fun hc=>?_)
  ·refine Z6 ?_
   have hcl:=r1.elen zA
   obtain ⟨b1,o1,rfl⟩:=r1.ptr zO
   obtain ⟨b2,o2,rfl⟩:=r2.ptr zO
   have ha:=hcs _ (jak (l:=cl) (i:=j) zO)
   have hb:=hcs _ (jak (l:=cl) (i:=i) zO)
   refine jao [Zp 1,Zp 2,Zp 3,Zp 5,Zp 6,Zp 7,Zp 9,Zp 10,Zp 11,Zp 13,Zp 14,Zp 15,Zr 0,Zr 4,Zr 8,Zr 12,Zr 16,Zk 17,Zp 18] zK zK (gE _) ?_;refine Z2 ?_;refine D11 ?_;refine Z2 ?_;refine D11 ?_;refine Z2 ?_;refine D11 ?_;refine Z2 ?_;refine D11 ?_;refine Zs ?_;refine jcs (vs:=[.bool (cl.getD j default).butt,.int .i64 (cl.getD j default).line,.int .i64 (cl.getD j default).st]) rfl zq rfl (r1.eat j zO zO) ?_;refine jcs (vs:=[.bool (cl.getD i default).butt,.int .i64 (cl.getD i default).line,.int .i64 (cl.getD i default).st]) rfl zq rfl (r1.eat i zO zO) ?_;refine jaR rfl zq (r2.iat j zO zO) ?_;refine jaR rfl zq (r2.iat i zO zO) ?_;refine jah (Post:=fun v=>IsB _ v) rfl zq zK (fun H' hH=>(f177_c m H' (rd.keeps (sq hH)) ha hb (ms.getD j 0) (ms.getD i 0)).mono fun v h' e=>⟨e.1,isB_of e.2⟩) ?_;rintro v (⟨hc,rfl⟩|⟨hc,rfl⟩)
   ·refine Zs ?_
    have hris:=hc
    refine Z10 ?_
    exact m.weak jaa (hnext2 _ _ _ zO ⟨j+1,rfl,by omega,fun a ha=>by
      by_cases e:a<j
      ·exact hj2 a e
      ·obtain rfl:a=j:=by omega
       exact hris,exU rfl,rfl⟩)
   ·refine Z9 ?_;refine jab (h) rfl Tryz.func140 rfl jaa ?_;refine Zs ?_
    exact ⟨rfl,IsB.no fun e=>hc (e j i zO zO)⟩
  ·refine Z9 ?_
   exact m.weak jaa (hnext1 _ _ _ zO ⟨i+1,rfl,by omega,fun a k ha hk=>by
     by_cases e:k<i
     ·exact hall a k ha e
     ·obtain rfl:k=i:=by omega
      exact hj2 a zO,exU rfl,rfl⟩)
 ·refine Z8 ?_;refine jab (h) rfl Tryz.func140 rfl jaa ?_;refine Zs ?_
  obtain rfl:n=i:=by omega
  exact ⟨rfl,IsB.yes hall⟩
theorem f175_c (m:Md Tryz.prog B) (h:Hp) {c:Nat} (rd:RdS B h 1 (.slice p n c) n (jav xs)) (hn:n≤1000000) (x:Int):FnC m 175 #[.slice p n c,.int .i64 x] h fun v h'=>h'=h∧ ∃z:Int,v= .int .i64 z∧(0≤z↔x∈xs):=by
 refine jad Tryz.func175 rfl rfl (l:=(.slice p n c)::(.int .i64 x)::uu17) rfl ?_
 intro cf cs K hK
 refine Z12 ?_
 refine jag (fun nn l h'=> ∃(k:Nat),nn=n-k∧(k≤n)∧(∀j:Nat,j<k→xs.getD j 0≠x)∧(∃U:Nat→Value,l=((.slice p n c)::(.int .i64 x)::vw5 U 2 ((.int .i64 (n:Int))::(.int .i64 (k:Int))::jo5 U 9 [])))∧h=h') _ ⟨0,rfl,by omega,fun j hj=>by omega,exU rfl,rfl⟩ ?_;rintro nn l h' ⟨k,rfl,hk,hno,⟨U,rfl⟩,rfl⟩ hnext;refine Z2 ?_
 refine jal rfl zq (fun hc=>?_) (fun hc=>?_)
 ·refine Z12 ?_
  have hxl:=jg6 rd
  obtain ⟨pb,po,rfl⟩:=rd.ptr zO
  refine Z4 ?_;refine D11 ?_;refine D114 ?_
  refine jaC rfl zq (fun hc=>?_) (fun hc=>?_)
  ·have heq:=hc
   refine Z8 ?_;refine jab (h) rfl Tryz.func175 rfl jaa ?_;refine Zs ?_
   exact ⟨rfl,_,rfl,⟨fun _=>by rw [heq];exact jcn.2 ⟨k,by omega,rfl⟩,fun _=>by omega⟩⟩
  ·have hne:=hc
   refine Z8 ?_
   exact m.weak jaa (hnext _ _ _ zO ⟨k+1,rfl,by omega,fun j hj=>by
     by_cases e:j<k
     ·exact hno j e
     ·obtain rfl:j=k:=by omega
      exact fun e=>hne e.symm,exU rfl,rfl⟩)
 ·refine Z9 ?_;refine jab (h) rfl Tryz.func175 rfl jaa ?_;refine Zs ?_
  obtain rfl:n=k:=by omega
  have hxl:=jg6 rd
  exact ⟨rfl,_,rfl,⟨fun e=>absurd e zA,fun e=>by
   obtain ⟨j,hj,ej⟩:=jcn.1 e
   exact absurd ej (hno j zO)⟩⟩
theorem f138_c (m:Md Tryz.prog B) (h:Hp) {c:Nat} (rd:RdS B h 1 (.slice p n c) n (jav xs)) (hn:n≤1000000) (x:Int):FnC m 138 #[.slice p n c,.int .i64 x] h fun v h'=>h'=h∧IsB (x∈xs) v:=by
 refine jad Tryz.func138 rfl rfl (l:=(.slice p n c)::(.int .i64 x)::uu7) rfl ?_
 intro cf cs K hK
 refine Z8 ?_;refine jah (Post:=fun v=> ∃z:Int,v= .int .i64 z∧(0≤z↔x∈xs)) rfl zq zK (fun H' hH=>f175_c m H' (rd.keeps (sq hH)) hn x) ?_
 rintro v ⟨z,rfl,hz⟩;refine Zs ?_
 refine jbB rfl zq (fun hc=>?_) (fun hc=>?_)
 ·refine Z3 ?_;refine jab (h) rfl Tryz.func138 rfl jaa ?_;refine Zs ?_
  exact ⟨rfl,IsB.yes (hz.1 zO)⟩
 ·refine Z3 ?_;refine jab (h) rfl Tryz.func138 rfl jaa ?_;refine Zs ?_
  exact ⟨rfl,IsB.no fun e=>absurd (hz.2 e) zO⟩
end
section
variable [LaidO B]
theorem callB137:jbE Tryz.prog 137=true:=by kernel_rfl
theorem f77_t (m:Md Tryz.prog B) (h:Hp) {b:Tb} (ra:RawTb B h b ps ns ks pw nw cw pb nb cb) (ok:TbOk b) {pW pM:Option Addr} {nW cW nM cM:Nat} (rW:RdS B h 1 (.slice pW nW cW) nW (jav wr)) (rM:RdS B h 1 (.slice pM nM cM) nM (jav ms)) (ha:Asc wr) (hr: ∀x∈wr,0≤x∧x<((jac b).length:Int)) (hw:(wr.length:Int)≤b.wrong) (hl:jk7 b wr ms) (hml:nM=(jac b).length) (hmr: ∀x∈ms,0≤x∧x≤959):FnC m 77 #[tbV b ps ns ks pw nw cw pb nb cb,.slice pW nW cW,.slice pM nM cM] h fun v h'=>h'=h∧v= .tuple [.bool true,.int .i64 0].toArray:=by
 have hz:=jbo.2 ok
 have h12:=jbu ok
 have hwl:=jg6 rW
 have hmlen:=jg6 rM
 have hwo:=ok.wrong
 refine jad Tryz.func77 rfl rfl (l:=[tbV b ps ns ks pw nw cw pb nb cb,.slice pW nW cW,.slice pM nM cM,undef,undef,undef,undef,undef,undef,undef,undef,undef,undef,undef,undef,undef,undef,undef,undef,undef,undef,undef,undef,undef,undef,undef,undef,undef,undef,undef,undef,undef,undef,undef,undef,undef,undef,undef,undef,undef,undef,undef,undef,undef,undef,undef,undef,undef,undef,undef,undef,undef,undef,undef,undef,undef,undef,undef,undef,undef,undef,undef,undef,undef,undef,undef,undef,undef,undef,undef,undef,undef,undef,undef,undef,undef,undef,undef,undef,undef,undef,undef,undef,undef,undef,undef,undef,undef,undef,undef,undef,undef,undef,undef,undef,undef,undef,undef,undef,undef,undef,undef,undef,undef,undef,undef,undef,undef,undef,undef]) rfl ?_
 intro cf cs K hK
 refine Z2 ?_
 refine jaK rfl zq (fun q3=>jar (jae ?_));refine Z7 ?_;refine jah (Post:=fun v=>v= .int .i64 0) rfl zq zK (fun H' hH=>by have:=f65_r m H' (ra.keeps (sq hH));rw [hz] at this;exact this) ?_
 rintro v rfl;refine Z6 ?_;refine jdi rfl zq rfl ?_;refine Z6 ?_;refine ja8 rfl zq zK (Post:=fun v new=> ∃q,v= .pointer (some ⟨q,0,none⟩)∧Sheet B new b q (tbL b ps ns ks pw nw cw pb nb cb)) (fun H' hH=>f95_r m H' (ra.keeps (sq hH)) ok) ?_
 rintro v nS ⟨qs,rfl,sh⟩;refine jaQ (jae ?_);obtain ⟨pc,cc,hcv,hcc,hcr⟩:=sh.cells
 refine Z4 ?_
 refine jaw rfl zq (fun qb=>jar (jae ?_));refine Z9 ?_
 refine jag (fun nn l h'=> ∃(i:Nat),nn=nW-i∧(i≤nW)∧(∃U:Nat→Value,l=((tbV b ps ns ks pw nw cw pb nb cb)::(.slice pW nW cW)::(.slice pM nM cM)::(.pointer (some ⟨q3,0,none⟩))::vw5 U 4 ((.pointer (some ⟨qs,0,none⟩))::(.pointer (some ⟨qb,0,none⟩))::vw12 U 11 ((.slice pW nW cW)::(.int .i64 (nW:Int))::(.int .i64 (i:Int))::vw84 U 26 []))))∧h++[⟨true,q3,.cells (tbL b ps ns ks pw nw cw pb nb cb).toArray 25 (0,0)⟩]++nS++[⟨true,qb,.cells (btL (jbt (wr.take i)) (List.replicate 12 0)).toArray 136 (0,0)⟩]=h') _ ⟨0,rfl,by omega,exU rfl,(by rfl)⟩ ?_;rintro nn l h' ⟨i,rfl,hi,⟨U,rfl⟩,rfl⟩ hnext1;refine Z2 ?_
 refine jal rfl zq (fun hc=>?_) (fun hc=>?_);refine Z7 ?_
 have hin:i<nW:=by omega
 obtain ⟨wb,wo,hwp⟩:=rW.ptr zO
 have rW2:=rW
 rw [hwp] at rW2
 obtain ⟨wn,hwn⟩: ∃wn:Nat,wr.getD i 0=(wn:Int):=⟨(wr.getD i 0).toNat,by have:=(hr _ (jcn.2 ⟨i,by omega,rfl⟩)).1;omega⟩
 have hwr:=hr _ (jcn.2 ⟨i,by omega,rfl⟩)
 rw [hwn] at hwr
 have hsw:=jhw (l:=wr.take i) fun z hz=>by have:=hr z (VP hz);omega
 have hsn:jbt (wr.take i)|||2^wn=jbt (wr.take (i+1)):=by
  rw [jbI wr i zO,joc,show wr.getD i default=wr.getD i 0 from rfl,hwn,gZ]
 refine Z2 ?_;refine jcR rfl zq hwp zO zO ?_;refine jaR rfl zq (rW2.iat i zO zO) ?_
 rw [hwn];refine Z8 ?_
 rotate_left
 refine Z7 ?_
 obtain rfl:i=nW:=by omega
 rw [gf zO];have hsw:=jhw (l:=wr) fun z hz=>by have:=hr z hz;omega
 have hr0: ∀z∈wr,0≤z:=fun z hz=>(hr z hz).1
 refine Z3 ?_
 all_goals
  refine Z3 ?_;refine D67 ?_;refine Zs ?_
 ·refine jdi rfl zq zO ?_;refine Z6 ?_;refine jah (Post:=fun v=>IsB _ v) rfl zq zK (fun H' hH=>f136_c m H' (rM.keeps (sq hH)) zO (fid:=137) (fc:= #[]) (cp:= #[]) (pr:=fun j=> ¬(0≤ms.getD j 0∧ms.getD j 0≤959)) callB137 (fun j hj H2 _=>f137_c m H2 _)) ?_;rintro v (⟨hc,rfl⟩|⟨hc,rfl⟩)
  ·refine Zs ?_
   obtain ⟨j,hj,e⟩:=hc
   exact absurd (hmr _ (jcn.2 ⟨j,by omega,rfl⟩)) e
  ·refine Z12 ?_;refine jqr rfl zq zO ?_;refine Z10 ?_
   refine jag (fun nn l h'=> ∃(k:Nat),nn=nM-k∧(k≤nM)∧(∃U:Nat→Value,l=((tbV b ps ns ks pw nw cw pb nb cb)::(.slice pW i cW)::(.slice pM nM cM)::(.pointer (some ⟨q3,0,none⟩))::vw5 U 4 ((.pointer (some ⟨qs,0,none⟩))::(.pointer (some ⟨qb,0,none⟩))::(U 11)::(U 12)::(.bool true)::(U 14)::(U 15)::(U 16)::(U 17)::vw57 U 18 ((.slice pM nM cM)::(.int .i64 (nM:Int))::(.int .i64 (k:Int))::vw32 U 78 []))))∧h++[⟨true,q3,.cells (tbL b ps ns ks pw nw cw pb nb cb).toArray 25 (0,0)⟩]++nS++[⟨true,qb,.cells (btL (jbt wr) (msK wr ms k)).toArray 136 (0,0)⟩]=h') _ ⟨0,rfl,by omega,exU rfl,(by rw [msK_zero])⟩ ?_;rintro nn l h' ⟨k,rfl,hk,⟨U,rfl⟩,rfl⟩ hnext2;refine Z2 ?_
   refine jal rfl zq (fun hc=>?_) (fun hc=>?_)
   ·refine Z7 ?_
    have hkn:k<(jac b).length:=by omega
    have hk12:k<12:=by omega
    obtain ⟨mb,mo,hmp⟩:=rM.ptr zO
    have rM2:=rM
    rw [hmp] at rM2
    obtain ⟨cp,ck,hcan,hccl,hcr2⟩:=sh.can k hkn
    have h960:=jmv b hkn
    have hcan2:Rd B nS ⟨qs,18+(k:Int).toNat*1,none⟩ (.slice cp (dA (cdT b) k).can.length ck):=by rw [gZ,Ge];exact hcan
    refine Z2 ?_;refine jcR rfl zq hmp zO zO ?_;refine jaR rfl zq (rM2.iat k zO zO) ?_;refine Z8 ?_;refine jah (Post:=fun v=>IsB _ v) rfl zq zK (fun H' hH=>f98_b m H' (jbt wr) k hsw hk12) ?_
    rintro v (⟨hc,rfl⟩|⟨hc,rfl⟩)
    ·refine Zs ?_
     have hkw:=(ji1 hr0).1 hc
     refine Z9 ?_
     rw [←msK_no hkw];exact E27
    ·refine Zs ?_
     have hkw:(k:Int)∉wr:=fun e=>hc ((ji1 hr0).2 e)
     have hmem:ms.getD k 0∈(dA (cdT b) k).can:=by rw [jri hkn];exact hl.1 k hkn hkw
     refine Z9 ?_
     haveI hss:=bt_meas (s:=jbt wr) (ms:=msK wr ms k) (k:=k) (v:=ms.getD k 0) (by rw [jge];omega)
     refine D9 ?_;refine Zs ?_
     rw [←msK_yes hk12 hkw];haveI:=seg_btL (s:=jbt wr) (jge wr ms (k+1))
     haveI:=len_btL (s:=jbt wr) (jge wr ms (k+1))
     refine jbd [Zf 0,Zf 1,Zf 2,Zf 3,Zf 4,Zf 5,Zf 6,Zf 7,Zf 8,Zf 9,Zf 10,Zf 11,Zf 12,Zf 13,Zf 14,Zf 15,Zf 16,Zf 17] zK zK ?_;refine Z7 ?_;refine jaR rfl rfl (hcan2.keeps SubH.sub) ?_;refine Zs ?_;refine jah (Post:=fun v=>IsB _ v) rfl rfl zK (fun H' hH=>f138_c m H' (hcr2.keeps (sq hH)) zO _) ?_;rintro v (⟨hc,rfl⟩|⟨hc,rfl⟩)
     ·refine Z4 ?_;refine jj2 rfl rfl ?_;refine Zs ?_;refine jah (Post:=fun v=>IsB _ v) rfl rfl zK (fun H' hH=>f139_c m H' (sh.keeps (sq hH)) hkn (jbt wr) hsw (ms:=msK wr ms (k+1)) (jge _ _ _)) ?_
      rintro v (⟨hc,rfl⟩|⟨hc,rfl⟩)
      ·refine Z9 ?_
       exact E27
      ·refine Zs ?_
       exact absurd (jqR hr h12 hl hkn hkw) hc
     ·refine Zs ?_
      exact absurd hmem hc
   ·refine Z11 ?_;refine jab (h) rfl Tryz.func77 rfl jaa ?_;refine Zs ?_
    exact ⟨rfl,rfl⟩
 ·refine Zs ?_;refine D20 ?_
  rintro v (⟨hc,rfl⟩|⟨hc,rfl⟩)
  ·refine Z6 ?_;refine D57 ?_;refine Zs ?_
   refine jaD rfl zq (fun hc=>?_) (fun hc=>?_);obtain ⟨i1,hi1⟩: ∃i1,i=i1+1:=⟨i-1,by omega⟩
   have hlt:=asc_at ha (i:=i1) (j:=i) zO zO
   rw [hwn] at hlt
   refine Z4 ?_;refine D96 ?_;refine jcR rfl rfl hwp zO zO ?_;refine jaR rfl rfl (rW2.iat i1 zO zO) ?_;refine k_leqF rfl rfl zO ?_;refine Zs ?_
   rotate_left
   refine Z9 ?_
   all_goals
    refine Z9 ?_;refine jah (Post:=fun v=>v= .int .u64 ((jbt (wr.take _)|||2^wn:Nat):Int)) rfl zq zK (fun H' hH=>f135_c m H' (jbt (wr.take _)) wn hsw zO) ?_
    rintro v rfl;refine Z2 ?_
    haveI hsg:=fun s:Nat=>bt_wrong (s:=s) (z:=s|||2^wn) (ms:=(List.replicate 12 0))
    refine D9 ?_;refine Z6 ?_
    rw [hsn];exact m.weak jaa (hnext1 _ _ _ zO ⟨i+1,rfl,by omega,exU rfl,rfl⟩)
  ·refine Zs ?_
   exact absurd ⟨by omega,by omega⟩ hc
end
end Go.Proofs
namespace Go.Proofs
open Go.Lo
theorem jqS {p:List Int}:jef p n=true↔ ∀i,i<3→p.getD i 0<0∨p.getD i 0=(jcX n).getD i 0:=by
 unfold jef
 rw [gT];constructor
 ·intro h i hi
  have:=h i (gP.2 hi)
  simpa using this
 ·intro h i hi
  have:=h i (gP.1 hi)
  simpa using this
theorem mem_meaP {p:List Int} (hn:n<960):(n:Int)∈jhR p↔jef p n=true:=by
 unfold jhR
 rw [gQ];constructor
 ·rintro ⟨k,hk,e⟩;have:k=n:=by omega
  rw [this] at hk
  exact (gS.1 hk).2
 ·intro h
  exact ⟨n,gS.2 ⟨gP.2 hn,h⟩,rfl⟩
theorem meaP_pos {p:List Int} (hp:PtOk p):jhR p≠[]:=by
 have h0:=hp.hi 0 zA
 have h1:=hp.hi 1 zA
 have h2:=hp.hi 2 zA
 have m0:mosts.getD 0 0=9:=rfl
 have m1:mosts.getD 1 0=11:=rfl
 have m2:mosts.getD 2 0=7:=rfl
 have l0:=hp.lo 0
 have l1:=hp.lo 1
 have l2:=hp.lo 2
 have hn:96*(p.getD 0 0).toNat+8*(p.getD 1 0).toNat+(p.getD 2 0).toNat<960:=by omega
 refine List.ne_nil_of_mem ((mem_meaP hn).2 (jqS.2 fun i hi=>?_))
 rcases (by omega:i=0∨i=1∨i=2) with rfl|rfl|rfl
 ·show p.getD 0 0<0∨p.getD 0 0=(((96*(p.getD 0 0).toNat+8*(p.getD 1 0).toNat+(p.getD 2 0).toNat)/96:Nat):Int)
  omega
 ·show p.getD 1 0<0∨p.getD 1 0=(((96*(p.getD 0 0).toNat+8*(p.getD 1 0).toNat+(p.getD 2 0).toNat)/8%12:Nat):Int)
  omega
 ·show p.getD 2 0<0∨p.getD 2 0=(((96*(p.getD 0 0).toNat+8*(p.getD 1 0).toNat+(p.getD 2 0).toNat)%8:Nat):Int)
  omega
theorem meaS_pos {s:Str} (h:ja1 s=true):0<(jcr s).length:=by
 rw [jcr,if_pos h];exact vT.2 (meaP_pos (jaT s))
section
variable {b:Tb} (ok:TbOk b) (hk:k<(jac b).length) {c:Ce} (hcx:c=(jac b).getD k default) {f g:Str} (hf:ja1 f=true) (hc:jdC (jap f) (jap (jci b c))=jdC (jap (jci b c)) (jap f)) (hg:g=jed (jdC (jap (jci b c)) (jap f)))
include ok hk hcx hf hc hg
end
end Go.Proofs
namespace Go.Proofs
open Go.Lo
open Go.Conc (G)
section
variable [LaidO B]
structure RealI (b:Tb) (k:Nat) (wr ms:List Int) (js:List Nat):Prop where
 len:ms.length=k
 asc:Asc wr
 rng: ∀x∈wr,0≤x∧x<(k:Int)
 few:(wr.length:Int)≤b.wrong
 kup:js.Pairwise (· < ·)
 kin: ∀j,j∈js↔j<k∧(j:Int)∉wr
 can: ∀j,j<k→ms.getD j 0∈jcr (jci b ((jac b).getD j default))
theorem joh {b:Tb} (ok:TbOk b):RealI b 0 [] [] []:=⟨rfl,List.Pairwise.nil,fun x hx=>(by cases hx),ok.wrong.1,List.Pairwise.nil,fun j=>⟨fun h=>(by cases h),fun h=>by omega⟩,fun j hj=>by omega⟩
theorem jnC (h:j<ms.length):(ms++[v]).getD j 0=ms.getD j 0:=by
 rw [gB,gh h,gB]
theorem jnD:(ms++[v]).getD ms.length 0=v:=by simp
theorem RealI.can' {b:Tb} (r:RealI b k wr ms js) (hv:v∈jcr (jci b ((jac b).getD k default))): ∀j,j<k+1→(ms++[v]).getD j 0∈jcr (jci b ((jac b).getD j default)):=fun j hj=>by
 have hl:=r.len
 by_cases e:j<k
 ·rw [jnC zO];exact r.can j e
 ·obtain rfl:j=ms.length:=by omega
  rw [jnD,hl];exact hv
theorem RealI.wrong {b:Tb} (r:RealI b k wr ms js) (hv:v∈jcr (jci b ((jac b).getD k default))) (hw:(wr.length:Int)<b.wrong):RealI b (k+1) (wr++[(k:Int)]) (ms++[v]) js:=by
 refine ⟨by rw [gJ,r.len];rfl,?_,fun x hx=>?_,by rw [gJ];simp only [gU,vO];omega,r.kup,fun j=>?_,r.can' hv⟩
 ·refine gy.2 ⟨r.asc,List.pairwise_singleton _ _,fun x hx y hy=>?_⟩
  obtain rfl:y=(k:Int):=by simpa using hy
  exact (r.rng x hx).2
 ·rcases gO.1 hx with hx|hx
  ·have:=r.rng x hx;omega
  ·obtain rfl:x=(k:Int):=by simpa using hx
   omega
 ·rw [r.kin,gO];constructor
  ·rintro ⟨h1,h2⟩;exact ⟨by omega,fun e=>e.elim h2 fun e=>by
                           have:(j:Int)=(k:Int):=by simpa using e
                           omega⟩
  ·rintro ⟨h1,h2⟩;have:j≠k:=fun e=>h2 (.inr (by rw [e];simp))
   exact ⟨by omega,fun e=>h2 (.inl e)⟩
theorem RealI.keep {b:Tb} (r:RealI b k wr ms js) (hv:v∈jcr (jci b ((jac b).getD k default))):RealI b (k+1) wr (ms++[v]) (js++[k]):=by
 have hk:(k:Int)∉wr:=fun e=>by have:=(r.rng _ e).2;omega
 refine ⟨by rw [gJ,r.len];rfl,r.asc,fun x hx=>by have:=r.rng x hx;omega,r.few,?_,fun j=>?_,r.can' hv⟩
 ·refine gy.2 ⟨r.kup,List.pairwise_singleton _ _,fun x hx y hy=>?_⟩
  obtain rfl:y=k:=by simpa using hy
  exact ((r.kin x).1 hx).1
 ·rw [gO,r.kin,gq];constructor
  ·rintro (⟨h1,h2⟩|rfl)
   ·exact ⟨by omega,h2⟩
   ·exact ⟨by omega,hk⟩
  ·rintro ⟨h1,h2⟩;by_cases e:j<k
   ·exact .inl ⟨e,h2⟩
   ·exact .inr zO
def jrh (b:Tb) (js:List Nat):List Ce:=js.map fun j=>(jac b).getD j default
def jlM (ms:List Int) (js:List Nat):List Int:=js.map fun j=>ms.getD j 0
theorem jnc (h: ∀j∈js,j<ms.length):jlM (ms++[v]) js=jlM ms js:=GW fun j hj=>jnC (h j hj)
theorem RealI.old {b:Tb} (r:RealI b k wr ms js): ∀j∈js,j<ms.length:=fun j hj=>by rw [r.len];exact ((r.kin j).1 hj).1
theorem jnd (h: ∀j∈js,j<ms.length):jlM (ms++[v]) (js++[ms.length])=jlM ms js++[v]:=by
 rw [jlM,GI];congr 1
 ·exact jnc h
 ·show [(ms++[v]).getD ms.length 0]=[v]
  rw [jnD]
theorem jnM {b:Tb}:jrh b (js++[k])=jrh b js++[(jac b).getD k default]:=by rw [jrh,GI];rfl
theorem jgO {α:Type} {f:Nat→α} {d:α} (h:i<js.length):(js.map f).getD i d=f (js.getD i 0):=by
 rw [gB,gk,gC h,gB,gC h];rfl
theorem RealI.lies {b:Tb} (r:RealI b (jac b).length wr ms js):(∀a i:Nat,a<i→i<js.length→jaU b ((jrh b js).getD a default) ((jrh b js).getD i default) ((jlM ms js).getD a 0) ((jlM ms js).getD i 0)=true)↔jk7 b wr ms:=by
 constructor
 ·intro h
  refine ⟨fun i hi _=>r.can i hi,fun i j hij hj wi wj=>?_⟩
  obtain ⟨a,ha,ea⟩:=GE.1 ((r.kin i).2 ⟨by omega,wi⟩)
  obtain ⟨c,hc,ec⟩:=GE.1 ((r.kin j).2 ⟨hj,wj⟩)
  have hac:a<c:=by
   refine Nat.lt_of_not_le fun e=>?_
   rcases Nat.lt_or_eq_of_le e with e|e
   ·have:=vN.1 r.kup c a hc ha e
    omega
   ·subst e
    omega
  have:=h a c hac hc
  rw [jrh,jlM,jgO ha,jgO hc,jgO ha,jgO hc] at this
  rw [gB (l:=js),gC ha,gB (l:=js),gC hc,GB,GB,ea,ec] at this
  exact this
 ·intro h a i hai hi
  have ha:a<js.length:=by omega
  rw [jrh,jlM,jgO ha,jgO hi,jgO ha,jgO hi];have e1:js.getD a 0=js[a]:=by rw [gB,gC ha];rfl
  have e2:js.getD i 0=js[i]:=by rw [gB,gC hi];rfl
  rw [e1,e2];have h1:=(r.kin js[a]).1 (GR ha)
  have h2:=(r.kin js[i]).1 (GR hi)
  exact h.2 _ _ (vN.1 r.kup a i ha hi hai) h2.1 h1.2 h2.2
theorem RealI.ms_rng {b:Tb} (r:RealI b k wr ms js): ∀x∈ms,0≤x∧x≤959:=fun x hx=>by
 obtain ⟨j,hj,rfl⟩:=jcn.1 hx
 have:=r.len
 exact jjZ (r.can j zO)
theorem RealI.js_len {b:Tb} (r:RealI b k wr ms js) (hk:k≤1000):js.length≤1000:=by
 have ha:Asc (js.map fun (j:Nat)=>(j:Int)):=by
  unfold Asc
  rw [vf];exact r.kup.imp fun h=>by omega
 have:=asc_len (n:=k) ha fun x hx=>by
  obtain ⟨j,hj,rfl⟩:=gQ.1 hx
  have:=((r.kin j).1 hj).1
  omega
 rw [gY] at this
 omega
theorem jjz {h' F1 F2 F3 F4 H X Y Z W:Hp} [a:Off h' W F1] [b:Off F1 Z F2] [c:Off F2 Y F3] [d:Off F3 X F4] [s:SubH H F4]:Weak B h' (H++X++Y++Z++W):=
 (Weak.perm a.perm).trans (Weak.apps ((Weak.perm b.perm).trans (Weak.apps ((Weak.perm c.perm).trans (Weak.apps ((Weak.perm d.perm).trans (Weak.apps (Weak.sub s.sub) X)) Y)) Z)) W)
theorem f84_c (m:Md Tryz.prog B) (h:Hp) {b:Tb} (ra:RawTb B h b ps ns ks pw nw cw pb nb cb) (ok:TbOk b) (rp:RdS B h 1 (.slice pp pn pc) pn (zs.map (Value.int .u16))) (hzs: ∀x∈zs,0≤x∧x≤65535) (z:Nat) (hzz:z≤65535):FnC m 84 #[tbV b ps ns ks pw nw cw pb nb cb,.slice pp pn pc,.int .u16 (z:Int)] h fun v h'=> ∃new,h'=h++new∧ ∃(wr ms:List Int) (js:List Nat) (pw1:Option Addr) (cw1:Nat) (pm1:Option Addr) (cm1:Nat) (bb:Value),v= .tuple [.agg [.slice pw1 wr.length cw1,.slice pm1 ms.length cm1].toArray,bb].toArray∧RealI b (jac b).length wr ms js∧RdS B new 1 (.slice pw1 wr.length cw1) wr.length (jav wr)∧RdS B new 1 (.slice pm1 ms.length cm1) ms.length (jav ms)∧IsB (jk7 b wr ms) bb:=by
 have rd:=ra.rd ok
 have h12:=jbu ok
 refine jad Tryz.func84 rfl rfl (l:=[tbV b ps ns ks pw nw cw pb nb cb,.slice pp pn pc,.int .u16 (z:Int),undef,undef,undef,undef,undef,undef,undef,undef,undef,undef,undef,undef,undef,undef,undef,undef,undef,undef,undef,undef,undef,undef,undef,undef,undef,undef,undef,undef,undef,undef,undef,undef,undef,undef,undef,undef,undef,undef,undef,undef,undef,undef,undef,undef,undef,undef,undef,undef,undef,undef,undef,undef,undef,undef,undef,undef,undef,undef,undef,undef,undef,undef,undef,undef,undef,undef,undef,undef,undef,undef,undef,undef,undef,undef,undef,undef,undef,undef,undef,undef,undef,undef,undef,undef]) rfl ?_
 intro cf cs K hK
 refine Z2 ?_
 refine jaK rfl zq (fun q3=>jar (jae ?_));refine jaw rfl zq (fun q6=>jar (jae ?_));refine Z4 ?_
 refine jaw rfl zq (fun q8=>jar (jae ?_));refine Z4 ?_;refine ja8 rfl zq zK (Post:=fun w new=>OwnS 37 3 w (jac b).length (jax (jac b)) new) (fun H' hH=>f26_c _ H' (rd.keeps (sq hH))) ?_
 rintro w n9 o9;refine jaQ (jae ?_);obtain ⟨p9,c9,rfl,hc9,r9⟩:=jas (B:=B) o9
 refine Z16 ?_
 refine jag (fun nn l h'=> ∃(k:Nat) (wr ms:List Int) (js:List Nat) (wp mp lp np:Option Addr) (wc mc lc nc:Nat) (Mw Mm Ml Mn:Hp),nn=(jac b).length-k∧(k≤(jac b).length)∧(RealI b k wr ms js)∧(OwnS 3 1 (.slice wp wr.length wc) wr.length (jav wr) Mw)∧(OwnS 3 1 (.slice mp ms.length mc) ms.length (jav ms) Mm)∧(OwnS 37 3 (.slice lp js.length lc) js.length (jax (jrh b js)) Ml)∧(OwnS 3 1 (.slice np js.length nc) js.length (jav (jlM ms js)) Mn)∧(∃U:Nat→Value,l=((tbV b ps ns ks pw nw cw pb nb cb)::(.slice pp pn pc)::(.int .u16 (z:Int))::(.pointer (some ⟨q3,0,none⟩))::(U 4)::(U 5)::(.pointer (some ⟨q6,0,none⟩))::(U 7)::(.pointer (some ⟨q8,0,none⟩))::(.slice p9 (jac b).length c9)::(.slice lp js.length lc)::(.slice np js.length nc)::(.int .i64 (k:Int))::vw74 U 13 []))∧h++[⟨true,q3,.cells (tbL b ps ns ks pw nw cw pb nb cb).toArray 25 (0,0)⟩,⟨true,q6,.cells [.slice none 0 0,.slice none 0 0].toArray 102 (0,0)⟩,⟨true,q8,.cells [.slice wp wr.length wc,.slice mp ms.length mc].toArray 102 (0,0)⟩]++n9++Mw++Mm++Ml++Mn=h') _ ⟨0,[],[],[],none,none,none,none,0,0,0,0,[],[],[],[],rfl,by omega,joh ok,OwnS.nil,OwnS.nil,OwnS.nil,OwnS.nil,exU rfl,zS⟩ ?_;rintro nn l h' ⟨k,wr,ms,js,wp,mp,lp,np,wc,mc,lc,nc,Mw,Mm,Ml,Mn,rfl,hk,hR,how,hom,hol,hon,⟨U,rfl⟩,rfl⟩ hnext;refine Z6 ?_
 refine jal rfl zq (fun hc=>?_) (fun hc=>?_)
 ·refine Z6 ?_
  have hkn:k<(jac b).length:=by omega
  obtain ⟨b9,o9_,hp9⟩:=r9.ptr zO
  have r9b:=r9
  rw [hp9] at r9b
  obtain ⟨c,hcx⟩: ∃c,c=(jac b).getD k default:=⟨_,rfl⟩
  have hht:jec b c=true:=hcx▸(jip hkn).1
  have hwl:wr.length≤2:=by have:=hR.few;have:=ok.wrong;omega
  have hmsl:=hR.len
  have hjl:=hR.js_len zO
  refine jao [Zp 1,Zp 2,Zp 3,Zr 0,Zr 4,Zk 5,Zp 6,Zp 7,Zp 8,Zp 9,Zp 10] zK zK (gE _) ?_;refine Z2 ?_;refine jcR rfl zq hp9 zO zO ?_;refine Zs ?_;refine jcs (vs:=[.bool ((jac b).getD k default).butt,.int .i64 ((jac b).getD k default).line,.int .i64 ((jac b).getD k default).st]) rfl zq rfl (r9b.eat k zO zO) ?_;rw [←hcx];refine jah (Post:=fun v=>v= .tuple [str (jci b c),.bool true].toArray) rfl zq zK (fun H' hH=>by have:=f27_c m H' (rd.keeps (sq hH)) (bt:=c.butt) (li:=c.line) (st:=c.st);rw [show jec b ⟨c.butt,c.line,c.st⟩=true from hht,if_pos rfl] at this;exact this) ?_;rintro v rfl;refine Z10 ?_;refine ja8 rfl zq zK (Post:=fun w new=>OwnS 3 1 w (jcr (jci b c)).length (jav (jcr (jci b c))) new) (fun H' hH=>f32_c _ H' (jci b c) (fig_sm ra.sm ok hht)) ?_
  rintro w nL oL;refine jaQ (jae ?_);obtain ⟨pL,cL,rfl,hcL,rL⟩:=jas (B:=B) oL
  have h960:=jni (jci b c)
  have hmp:=meaS_pos (fig_ok ok (show c∈jac b from hcx▸jak hkn))
  refine Z7 ?_;refine jah (Post:=fun v=> ∃y:Nat,y≤65535∧v= .int .i64 (y:Int)) rfl zq zK (fun H' hH=>f144_c m H' (rp.keeps (sq hH)) hzs k) ?_
  rintro v ⟨y,hy,rfl⟩;refine Z3 ?_;refine jow rfl zq zO ?_
  obtain ⟨j,hjx⟩: ∃j,j=y%(jcr (jci b c)).length:=⟨_,rfl⟩
  rw [←hjx];have hj:j<(jcr (jci b c)).length:=hjx▸VA _ hmp
  obtain ⟨vn,hvn,hvj,hvm⟩:=meaS_nat hj
  obtain ⟨bL,oL_,hpL⟩:=rL.ptr zO
  have rL2:=rL
  rw [hpL] at rL2
  rw [hcx] at hvm
  refine jcR rfl zq hpL zO zO ?_;refine jaR rfl zq (rL2.iat j zO zO) ?_;rw [hvj];refine Z7 ?_
  refine jdx kdq rfl zq zA zA rfl (fun q48=>jar (jae ?_));refine ja2 rfl zq rfl hom kdq zO zO (fun w9 n9m o9m=>jae ?_);replace o9m:OwnS 3 1 w9 (ms++[(vn:Int)]).length (jav (ms++[(vn:Int)])) n9m:=by rw [jbh,gJ];exact o9m
  obtain ⟨p9m,c9m,rfl,_⟩:=o9m.len
  refine Zs ?_;refine D9 ?_;refine Z3 ?_;refine joV ?_;refine Zs ?_;refine jco rfl zq zK (n':=(z:Int)) zL ?_;refine Zs ?_;refine k_shr ((z/2^k:Nat):Int) rfl zq zO (shr_i64 z zO) ?_;refine k_andV ((z/2^k%2:Nat):Int) rfl zq (jmA _ (Nat.lt_of_le_of_lt (Vz _ _) zO)) ?_
  refine jaC rfl zq (fun hc=>?_) (fun hc=>?_)
  ·refine Z3 ?_;refine jfJ rfl rfl ?_;refine Z2 ?_
   refine jal rfl rfl (fun hc=>?_) (fun hc=>?_);have hlt:(wr.length:Int)<b.wrong:=hc
   refine Z8 ?_
   refine jdx kdq rfl zq zA zA rfl (fun q68=>jar (jae ?_));refine ja2 rfl zq rfl how kdq zO zO (fun w9 n9w o9w=>jae ?_);replace o9w:OwnS 3 1 w9 (wr++[(k:Int)]).length (jav (wr++[(k:Int)])) n9w:=by rw [jbh,gJ];exact o9w
   obtain ⟨p9w,c9w,rfl,_⟩:=o9w.len
   refine Zs ?_;refine D9 ?_;refine Z2 ?_
   rotate_left
   refine Z4 ?_;refine rr13 ?_;refine Z3 ?_;refine jcR rfl zq hp9 zO zO ?_;refine jcs (vs:=[.bool ((jac b).getD k default).butt,.int .i64 ((jac b).getD k default).line,.int .i64 ((jac b).getD k default).st]) rfl zq rfl (r9b.eat k zO zO) ?_
   refine jdx kdq rfl zq zA zA rfl (fun q76=>jar (jae ?_));refine ja2 rfl zq rfl hol kdq zO zO (fun w9 n9l o9l=>jae ?_);replace o9l:OwnS 37 3 w9 (js++[k]).length (jax (jrh b js++[(jac b).getD k default])) n9l:=by rw [ja3,gJ];exact o9l
   obtain ⟨p9l,c9l,rfl,_⟩:=o9l.len
   refine Z2 ?_
   refine jdx kdq rfl zq zA zA rfl (fun q80=>jar (jae ?_));refine ja2 rfl zq rfl hon kdq zO zO (fun w9 n9n o9n=>jae ?_);replace o9n:OwnS 3 1 w9 (js++[k]).length (jav (jlM ms js++[(vn:Int)])) n9n:=by rw [jbh,gJ];exact o9n
   obtain ⟨p9n,c9n,rfl,_⟩:=o9n.len
   have hcel:=jnM (b:=b) (js:=js) (k:=k)
   have hnow:jlM (ms++[(vn:Int)]) (js++[k])=jlM ms js++[(vn:Int)]:=by rw [←hR.len];exact jnd hR.old
   refine Z4 ?_
   all_goals
    refine Z5 ?_
   ·refine m.weak (h':=h++[⟨true,q3,.cells (tbL b ps ns ks pw nw cw pb nb cb).toArray 25 (0,0)⟩,⟨true,q6,.cells [.slice none 0 0,.slice none 0 0].toArray 102 (0,0)⟩,⟨true,q8,.cells [.slice wp wr.length wc,.slice p9m (ms++[(vn:Int)]).length c9m].toArray 102 (0,0)⟩]++n9++Mw++n9m++n9l++n9n) jjz ?_
    exact E75
   ·refine m.weak (h':=h++[⟨true,q3,.cells (tbL b ps ns ks pw nw cw pb nb cb).toArray 25 (0,0)⟩,⟨true,q6,.cells [.slice none 0 0,.slice none 0 0].toArray 102 (0,0)⟩,⟨true,q8,.cells [.slice p9w (wr++[(k:Int)]).length c9w,.slice p9m (ms++[(vn:Int)]).length c9m].toArray 102 (0,0)⟩]++n9++n9w++n9m++Ml++Mn) jjz ?_
    exact hnext _ _ _ zO ⟨k+1,wr++[(k:Int)],ms++[(vn:Int)],js,p9w,p9m,lp,np,c9w,c9m,lc,nc,n9w,n9m,Ml,Mn,rfl,by omega,hR.wrong hvm hlt,o9w,o9m,hol,by rw [jnc hR.old];exact hon,exU rfl,rfl⟩
  ·refine Z11 ?_;refine rr13 ?_;refine Z3 ?_;refine jcR rfl zq hp9 zO zO ?_;refine jcs (vs:=[.bool ((jac b).getD k default).butt,.int .i64 ((jac b).getD k default).line,.int .i64 ((jac b).getD k default).st]) rfl zq rfl (r9b.eat k zO zO) ?_
   refine jdx kdq rfl zq zA zA rfl (fun q76=>jar (jae ?_));refine ja2 rfl zq rfl hol kdq zO zO (fun w9 n9l o9l=>jae ?_);replace o9l:OwnS 37 3 w9 (js++[k]).length (jax (jrh b js++[(jac b).getD k default])) n9l:=by rw [ja3,gJ];exact o9l
   obtain ⟨p9l,c9l,rfl,_⟩:=o9l.len
   refine Z2 ?_
   refine jdx kdq rfl zq zA zA rfl (fun q80=>jar (jae ?_));refine ja2 rfl zq rfl hon kdq zO zO (fun w9 n9n o9n=>jae ?_);replace o9n:OwnS 3 1 w9 (js++[k]).length (jav (jlM ms js++[(vn:Int)])) n9n:=by rw [jbh,gJ];exact o9n
   obtain ⟨p9n,c9n,rfl,_⟩:=o9n.len
   have hcel:=jnM (b:=b) (js:=js) (k:=k)
   have hnow:jlM (ms++[(vn:Int)]) (js++[k])=jlM ms js++[(vn:Int)]:=by rw [←hR.len];exact jnd hR.old
   refine Z9 ?_;refine m.weak (h':=h++[⟨true,q3,.cells (tbL b ps ns ks pw nw cw pb nb cb).toArray 25 (0,0)⟩,⟨true,q6,.cells [.slice none 0 0,.slice none 0 0].toArray 102 (0,0)⟩,⟨true,q8,.cells [.slice wp wr.length wc,.slice p9m (ms++[(vn:Int)]).length c9m].toArray 102 (0,0)⟩]++n9++Mw++n9m++n9l++n9n) jjz ?_
   exact E75
 ·refine Z4 ?_
  obtain rfl:k=(jac b).length:=by omega
  have rO1:=how.rd (B:=B) (gE _)
  have rO2:=hom.rd (B:=B) (gE _)
  have rO3:=hol.rd (B:=B) (gE _)
  have rO4:=hon.rd (B:=B) (gE _)
  have hjl:=hR.js_len zO
  have hcs: ∀c∈jrh b js,jec b c=true:=fun c hc=>by
   obtain ⟨j,hj,rfl⟩:=gQ.1 hc
   exact (jip ((hR.kin j).1 hj).1).1
  refine jao [Zp 2,Zp 3,Zr 0,Zr 1,Zk 4,Zf 5,Zp 6] zK zK (gE _) ?_;refine Z4 ?_;refine jah (Post:=fun v=>IsB (jk7 b wr ms) v) rfl zq zK (fun H' hH=>(f140_c m H' (rd.keeps (sq hH)) (rO3.keeps (sq hH)) (rO4.keeps (sq hH)) zO hcs).mono fun v h' e=>⟨e.1,isB_to e.2 hR.lies⟩) ?_;rintro bb hbb;refine Zs ?_;refine jhd ?_;refine jab (h++Mw++Mm) rfl Tryz.func84 rfl jaa ?_;refine Zs ?_
  exact ⟨Mw++Mm,by rw [gG],wr,ms,js,wp,wc,mp,mc,bb,rfl,hR,rO1.keeps (gI _ _),rO2.keeps (gX _ _),hbb⟩
end
end Go.Proofs
namespace Go.Proofs
open Go.Lo
def IsMin (D:List Cd) (n:Nat):Prop:=(∃x,okA D x=true∧jee x=n)∧ ∀x,okA D x=true→n≤jee x
theorem jqC {b:Tb} (h:jdQ (fun l=>jqY b (jbt l)=true) (jac b).length g):IsMin (cdT b) g.length:=by
 obtain ⟨ha,hr,hp,hm⟩:=h
 refine ⟨?_,fun x hx=>jir hm hx⟩
 obtain ⟨x,hx⟩:=List.exists_mem_of_ne_nil _ (jfS.1 hp)
 obtain ⟨hok,hpt⟩:=(jgZ (by rw [jb4,jay])).1 hx
 exact ⟨x,hok,by rw [←jhQ,hpt,jik ha hr]⟩
end Go.Proofs
namespace Go.Proofs
open Go.Lo
open Go.Conc (G)
section
variable [LaidO B]
theorem few_zero {b:Tb} (h:jdQ (fun l=>jqY b (jbt l)=true) (jac b).length g):jb9 (cdT b)=true↔g.length=0:=by
 obtain ⟨⟨x,hx,ex⟩,hm⟩:=jqC h
 rw [jiY];constructor
 ·rintro ⟨y,hy,hs⟩;have h1:=hm y hy
  have:jee y=0:=vR.2 fun o ho e=>by
   have:=hs o ho
   cases o with
   |none=>exact this rfl
   |some v=>cases e
  omega
 ·intro e
  refine ⟨x,hx,fun o ho e2=>?_⟩
  rw [e] at ex
  have:=vR.1 ex o ho
  rw [e2] at this
  exact this rfl
theorem f18_t (h:Hp) {b:Tb} (rds:RdS B h 1 (.slice ps ns ks) ns (jax b.sts)) (hcs:ns≤ks) (rdw:RdLn B h (.slice pw nw cw) nw b.waters) (rdb:RdLn B h (.slice pb nb cb) nb b.butts) (rp:RdS B h 1 (.slice pp pn pc) pn (zs.map (Value.int .u16))) (hzs: ∀x∈zs,0≤x∧x≤65535) (z y:Nat) (hzz:z≤65535) (hy:y≤255):(Md.starC Tryz.prog B).R (jmE Tryz.prog B fun v _=>v= .bool true) (G (Frame.enter Tryz.prog 18 #[tbV b ps ns ks pw nw cw pb nb cb,.slice pp pn pc,.int .u16 (z:Int),.int .u8 (y:Int)] .normal) []) h:=by
 refine jpi Tryz.func18 rfl rfl (l:=[tbV b ps ns ks pw nw cw pb nb cb,.slice pp pn pc,.int .u16 (z:Int),.int .u8 (y:Int),undef,undef,undef,undef,undef,undef,undef,undef,undef,undef,undef,undef,undef,undef,undef,undef,undef,undef,undef,undef,undef,undef,undef,undef,undef,undef,undef,undef,undef,undef,undef,undef,undef,undef,undef,undef,undef,undef,undef,undef,undef,undef,undef,undef,undef,undef,undef,undef,undef,undef,undef,undef,undef,undef,undef,undef,undef,undef,undef,undef,undef,undef,undef,undef,undef,undef,undef,undef,undef,undef,undef,undef,undef,undef,undef,undef,undef,undef,undef,undef,undef,undef,undef,undef,undef,undef,undef,undef,undef,undef,undef,undef,undef,undef,undef,undef,undef,undef,undef,undef,undef,undef,undef,undef,undef,undef,undef,undef,undef,undef,undef,undef,undef,undef,undef,undef,undef,undef,undef,undef,undef,undef,undef,undef,undef,undef,undef,undef,undef,undef,undef,undef,undef,undef,undef,undef,undef,undef,undef,undef,undef,undef,undef,undef,undef,undef,undef,undef,undef,undef,undef,undef,undef,undef,undef,undef,undef,undef,undef,undef,undef,undef,undef,undef,undef,undef,undef,undef,undef,undef,undef,undef,undef,undef]) rfl ?_;refine Z2 ?_
 refine jaK rfl zq (fun q1=>jar (jae ?_));refine Z6 ?_;refine jah (Post:=fun v=>IsB _ v) rfl zq zK (fun H' hH=>f25_c _ H' (rds.keeps (sq hH)) hcs (rdw.keeps (sq hH)) (rdb.keeps (sq hH))) ?_
 rintro v (⟨hc,rfl⟩|⟨hc,rfl⟩)
 ·refine Zs ?_
  have hfit:=hc
  have ra:=raw_of rds hcs rdw rdb hfit.1
  have hz:=hfit.2
  have ok:=jbo.1 hz
  have rd:=ra.rd ok
  have h12:=jbu ok
  have hbl:=jbM ok
  refine Z9 ?_;refine ja8 rfl zq zK (Post:=fun v new=> ∃(wr ms:List Int) (js:List Nat) (pw1:Option Addr) (cw1:Nat) (pm1:Option Addr) (cm1:Nat) (bb:Value),v= .tuple [.agg [.slice pw1 wr.length cw1,.slice pm1 ms.length cm1].toArray,bb].toArray∧RealI b (jac b).length wr ms js∧RdS B new 1 (.slice pw1 wr.length cw1) wr.length (jav wr)∧RdS B new 1 (.slice pm1 ms.length cm1) ms.length (jav ms)∧IsB (jk7 b wr ms) bb) (fun H' hH=>f84_c _ H' (ra.keeps (sq hH)) ok (rp.keeps (sq hH)) hzs z hzz) ?_
  rintro v nR ⟨wr,ms,js,pW,cW,pM,cM,bb,rfl,hR,rW,rM,hbb⟩;refine jaQ (jae ?_);have hwa:=hR.asc
  have hwr:=hR.rng
  have hwf:=hR.few
  have hml:=hR.len
  have hwl:wr.length≤2:=by have:=ok.wrong;omega
  refine Z3 ?_
  refine jaw rfl zq (fun qb=>jar (jae ?_));refine D6 ?_;refine Z4 ?_
  rcases hbb with ⟨hli,rfl⟩|⟨hli,rfl⟩
  ·have hne:=true_ne hwa hwr hwf hli
   have hpos:=vT.2 hne
   refine Z9 ?_;refine ja8 rfl zq zK (Post:=fun w new=>OwnS 37 3 w (jac b).length (jax (jac b)) new) (fun H' hH=>f26_c _ H' (rd.keeps (sq hH))) ?_
   rintro w n33 o33;refine jaQ (jae ?_);obtain ⟨p33,c33,rfl,hc33,r33⟩:=jas (B:=B) o33
   refine Z3 ?_;refine jog ?_;refine Z5 ?_;refine jah (Post:=fun v=>v= .tuple [.bool true,.int .i64 0].toArray) rfl zq zK (fun H' hH=>f77_t _ H' (ra.keeps (sq hH)) ok (rW.keeps (sq hH)) (rM.keeps (sq hH)) hwa hwr hwf hli hml hR.ms_rng) ?_
   rintro v rfl;refine Z10 ?_;refine jah (Post:=fun v=>v= .tuple [.int .i64 ((jaf b).length:Int),.int .i64 0].toArray) rfl zq zK (fun H' hH=>by have:=f28_c (Md.starC Tryz.prog B) H' (b:=b) (ra.keeps (sq hH));rw [if_pos hz,hz] at this;exact this) ?_
   rintro v rfl;refine Z10 ?_;refine jbj rfl zq zK (f40_c _ (ra.keeps SubH.sub)) ?_
   rintro v h' ⟨nA,wA,gA,rfl,rfl,rgA,_,hlA⟩;refine Zs ?_
   rw [hz];obtain ⟨pA,cA,rfl,_⟩:=rgA
   simp only [jhD,jpF,jhC,jkR]
   have raR:=ra.ro
   have rWR:=rW.ro
   have rMR:=rM.ro
   have r33R:=r33.ro
   have hfew:=true_few hwa hwr hwf hli (hlA hz)
   have hfb:=few_zero (hlA hz)
   refine Z7 ?_
   by_cases hs:jb9 (cdT b)=true
   have hg0:=hfb.1 hs
   refine Z2 ?_;refine jah (Post:=fun v=>v= .tuple [.bool true,.int .i64 0].toArray) rfl zq zK (fun H' hH=>by have:=f45_c (Md.starC Tryz.prog B) H' (b:=b) (raR.keeps (sq hH));rw [hz] at this;exact this.mono fun v h' ⟨e,w,e1,e2⟩=>⟨e,by rw [e1,jg5 e2 ⟨rfl,hs⟩]⟩) ?_
   rintro v rfl;refine Z9 ?_;refine jbd [Zf 0,Zf 1,Zf 2,Zf 3,Zf 4,Zf 5,Zf 6,Zf 7,Zf 8,Zf 9,Zf 10,Zf 11,Zf 12,Zf 13,Zf 14,Zf 15,Zf 16,Zf 17,Zf 18,Zf 19,Zf 20,Zf 21,Zf 22,Zf 23,Zf 24,Zf 25,Zf 26,Zf 27,Zf 28,Zf 29,Zf 30,Zf 31,Zf 32,Zf 33,Zf 34,Zf 35,Zf 36] zK zK ?_;refine Zs ?_;refine jdi rfl zq rfl ?_;refine Z2 ?_;refine jdi rfl rfl rfl ?_;refine Z3 ?_;refine jdi rfl rfl rfl ?_;refine Z3 ?_;refine jdi rfl rfl rfl ?_;refine Z7 ?_;refine jnr rfl rfl zO ?_;refine Z3 ?_;refine jfJ rfl rfl ?_;refine Z2 ?_;refine jfJ rfl rfl ?_;refine jqt rfl rfl zO ?_;refine Z4 ?_;refine jfJ rfl rfl ?_;refine jeu rfl rfl zO ?_
   rotate_left
   have hg0: ¬gA.length=0:=fun e=>hs (hfb.2 e)
   refine Z2 ?_;refine jah (Post:=fun v=>v= .tuple [.bool false,.int .i64 0].toArray) rfl zq zK (fun H' hH=>by have:=f45_c (Md.starC Tryz.prog B) H' (b:=b) (raR.keeps (sq hH));rw [hz] at this;exact this.mono fun v h' ⟨e,w,e1,e2⟩=>⟨e,by rw [e1,jh1 e2 fun e=>hs e.2]⟩) ?_
   rintro v rfl;refine Z9 ?_;refine jbd [Zf 0,Zf 1,Zf 2,Zf 3,Zf 4,Zf 5,Zf 6,Zf 7,Zf 8,Zf 9,Zf 10,Zf 11,Zf 12,Zf 13,Zf 14,Zf 15,Zf 16,Zf 17,Zf 18,Zf 19,Zf 20,Zf 21,Zf 22,Zf 23,Zf 24,Zf 25,Zf 26,Zf 27,Zf 28,Zf 29,Zf 30,Zf 31,Zf 32,Zf 33,Zf 34,Zf 35,Zf 36] zK zK ?_;refine Zs ?_;refine jdi rfl zq rfl ?_;refine Z2 ?_;refine jdi rfl rfl rfl ?_;refine Z3 ?_;refine jdi rfl rfl rfl ?_;refine Z3 ?_;refine jdi rfl rfl rfl ?_;refine Z7 ?_;refine jnr rfl rfl zO ?_;refine Z3 ?_;refine jfJ rfl rfl ?_;refine Z2 ?_;refine jfJ rfl rfl ?_;refine jqt rfl rfl zO ?_;refine Z4 ?_;refine jfJ rfl rfl ?_;refine jjh rfl rfl zO ?_
   all_goals
    refine k_neqBF rfl rfl zK rfl ?_;refine Z9 ?_;refine jaC rfl zq (fun hc=>?_) (fun hc=>?_)
    ·refine Z4 ?_;refine jbj rfl zq zK (f20_c _) ?_
     rintro v h' ⟨nF,rfl,rfl⟩;refine Z4 ?_;refine jhy rfl Tryz.func18 zK rfl ?_
     rfl
    ·refine Z6 ?_;refine jco rfl zq zK (n':=(y:Int)) zL ?_;refine Z2 ?_;refine jow rfl zq zO ?_
     obtain ⟨k,hkx⟩: ∃k,k=y%(jac b).length:=⟨_,rfl⟩
     rw [←hkx];have hk:k<(jac b).length:=hkx▸VA _ zO
     obtain ⟨b33,o33_,rfl⟩:=r33R.ptr zO
     refine Z6 ?_;refine D11 ?_;refine jcs (vs:=[.bool ((jac b).getD k default).butt,.int .i64 ((jac b).getD k default).line,.int .i64 ((jac b).getD k default).st]) rfl zq rfl (r33R.eat k zO zO) ?_
     obtain ⟨c,hcx⟩: ∃c,c=(jac b).getD k default:=⟨_,rfl⟩
     rw [←hcx];have hht:jec b c=true:=hcx▸(jip hk).1
     have hpl:plN b c=k:=by rw [hcx];exact plN_at hk
     have ho:jaX b (jgc b c)=0:=by rw [hcx];exact jp0 hz hk hne
     have hcn:jmw b c=jlG (cdT b) (jaf b) k:=by rw [hcx];exact canL_at hz hk hne
     have htold:=jpd hwa hwr hwf hli hk
     refine jaw rfl zq (fun qc=>jar (jae ?_));refine D6 ?_;refine Z5 ?_;refine ja8 rfl zq zK (Post:=fun v nw=> ∃w,v= .tuple [w,.int .i64 0].toArray∧RdI B nw w (jlG (cdT b) (jaf b) k)) (fun H' hH=>by have:=f29_c (Md.starC Tryz.prog B) H' (raR.keeps (sq hH)) c;rw [ho,hcn] at this;exact this) ?_
     rintro v nP ⟨wP,rfl,pP,cP,rfl,rP⟩;refine jaQ (jae ?_);refine Z10 ?_;refine jah (Post:=fun v=>v= .tuple [.int .i64 (jeQ (jfk (jaf b) k) (jaf b).length),.int .i64 0].toArray) rfl zq zK (fun H' hH=>by have:=f30_c (Md.starC Tryz.prog B) H' (raR.keeps (sq hH)) c;rw [ho,if_pos rfl,hpl] at this;exact this) ?_
     rintro v rfl;refine Z9 ?_
     by_cases hkw:(k:Int)∈wr
     have hno2:jeQ (jfk (jaf b) k) (jaf b).length≠2:=fun e=>htold.2 e hkw
     rotate_left
     have hno1:jeQ (jfk (jaf b) k) (jaf b).length≠1:=fun e=>hkw (htold.1 e)
     all_goals
      refine jbd [Zf 0,Zf 1,Zf 2,Zf 3,Zf 4,Zf 5,Zf 6,Zf 7,Zf 8,Zf 9,Zf 10,Zf 11,Zf 12,Zf 13,Zf 14] zK zK ?_;refine Zs ?_;refine jdi rfl zq rfl ?_;refine Z2 ?_;refine jdi rfl rfl rfl ?_;refine Z6 ?_
     ·refine jah (Post:=fun v=>v= .bool false) rfl rfl zK (fun H' hH=>(f35_c _ H' _ (rWR.keeps (sq hH)) zO).mono fun v h' e=>⟨e.1,jh1 e.2 hkw⟩) ?_;rintro v rfl;refine Zs ?_;refine jah (Post:=fun v=>v= .bool true) rfl rfl zK (fun H' hH=>f85_f _ H' _ hno1) ?_
      rintro v rfl;refine Z12 ?_;refine jah (Post:=fun v=>v= .bool false) rfl zq zK (fun H' hH=>(f35_c _ H' _ (rWR.keeps (sq hH)) zO).mono fun v h' e=>⟨e.1,jh1 e.2 hkw⟩) ?_
      rintro v rfl;refine Z6 ?_
      obtain ⟨bM,oM,hpM⟩:=rMR.ptr zO
      have rM2:=rMR
      rw [hpM] at rM2
      have hcan:=true_can hwa hwr hwf hli hk hkw
      have hz1:=jmv b hk
      have hz3:=canS_sub (D:=cdT b) (L:=jaf b) (k:=k)
      refine Z5 ?_;refine jcR rfl zq hpM zO zO ?_;refine jaR rfl zq (rM2.iat k zO zO) ?_;refine jah (Post:=fun v=>IsB _ v) rfl zq zK (fun H' hH=>f35_c _ H' _ (rP.keeps (sq hH)) zO) ?_
      rintro v (⟨hc,rfl⟩|⟨hc,rfl⟩)
      ·refine Z6 ?_
       have hpc:=place_in ok hht
       have hoc:=openP_in hz hpc.1 hpc.2 hne
       have hwin:=jlU ok hwa hwr hwf hli hk hkw
       rw [←hcx] at hwin
       have hsw:spW b c=jkB b c.butt c.st (jbg b c).lat:=by rw [spW,jcV,if_pos hoc]
       rw [←hsw] at hwin
       refine Z3 ?_;refine jah (Post:=fun v=>v= .tuple [.agg [.int .i64 (spW b c).1,.int .i64 (spW b c).2].toArray,.int .i64 0].toArray) rfl zq zK (fun H' hH=>by have:=f38_c (Md.starC Tryz.prog B) H' (raR.keeps (sq hH)) hht;rw [hoc] at this;exact this) ?_
       rintro v rfl;refine Z4 ?_
       refine jaw rfl zq (fun qx=>jar (jae ?_));refine jhd ?_;refine jao [Zp 0,Zp 1,Zp 2,Zp 3,Zp 5,Zp 8,Zp 10,Zr 4,Zp 6,Zr 7,Zr 9,Zr 11,Zk 12,Zp 13,Zp 14,Zf 15,Zp 16,Zp 17] zK zK (gE _) ?_;refine Zs ?_;refine jeu rfl zq rfl ?_;refine Z6 ?_;refine jcR rfl rfl hpM zO zO ?_;refine jaR rfl rfl (rM2.iat k zO zO) ?_;refine Z2 ?_;refine jah (Post:=fun v=>IsB _ v) rfl rfl zK (fun H' hH=>f57_c _ H' _ _ _) ?_
       rintro v (⟨hc,rfl⟩|⟨hc,rfl⟩)
       ·refine Z3 ?_;refine jbj rfl rfl zK (f20_c _) ?_
        rintro v h' ⟨nF,rfl,rfl⟩;refine Z5 ?_;refine jhy rfl Tryz.func18 zK rfl ?_
        rfl
       ·refine Zs ?_
        exact absurd hwin hc
      ·refine Zs ?_
       exact absurd hcan hc
     ·refine jah (Post:=fun v=>v= .bool true) rfl rfl zK (fun H' hH=>(f35_c _ H' _ (rWR.keeps (sq hH)) zO).mono fun v h' e=>⟨e.1,jg5 e.2 hkw⟩) ?_;rintro v rfl;refine Zs ?_;refine jah (Post:=fun v=>v= .bool true) rfl rfl zK (fun H' hH=>f85_t _ H' _ hno2) ?_
      rintro v rfl;refine Z12 ?_;refine jah (Post:=fun v=>v= .bool true) rfl zq zK (fun H' hH=>(f35_c _ H' _ (rWR.keeps (sq hH)) zO).mono fun v h' e=>⟨e.1,jg5 e.2 hkw⟩) ?_
      rintro v rfl;refine Z5 ?_;refine jbj rfl zq zK (f20_c _) ?_
      rintro v h' ⟨nF,rfl,rfl⟩;refine Z4 ?_;refine jhy rfl Tryz.func18 zK rfl ?_
      rfl
  ·refine Z7 ?_;refine jbj rfl zq zK (f20_c _) ?_
   rintro v h' ⟨nF,rfl,rfl⟩;refine Z4 ?_;refine jhy rfl Tryz.func18 zK rfl ?_
   rfl
 ·refine Z6 ?_;refine jbj rfl zq zK (f20_c _) ?_
  rintro v h' ⟨nF,rfl,rfl⟩;refine Z4 ?_;refine jhy rfl Tryz.func18 zK rfl ?_
  rfl
end
end Go.Proofs
