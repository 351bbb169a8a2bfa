/- A part of the proof of a law: my own separation logic over the machine, and walks of the program. Condition of each theorem: as its statement says. -/
import Derived.Test.YtggpepeiedkbbaaGreatDoorVLOround9
set_option linter.all false
namespace Go.Lo
open Go.Proofs
theorem jnF:((List.range 960).all fun n=>jaN (figN n)&&decide (jao (figN n)=jbl n))=true:=by kernel_rfl
theorem jnD {n:Nat} (h:n<960):jaN (figN n)=true∧jao (figN n)=jbl n:=by
 have:=List.all_eq_true.1 jnF n (List.mem_range.2 h)
 simpa using this
theorem jny {n m:Nat} (hn:n<960) (hm:m<960):jc3 (jbl n) m=decide (m=n):=by
 have h3:List.range 3=[0,1,2]:=rfl
 rw [jc3,h3];by_cases e:m=n
 ·subst e
  simp
 ·rw [decide_eq_false e,Bool.eq_false_iff];intro h
  simp only [jbl,List.all_cons,List.all_nil,Bool.and_true,Bool.and_eq_true,Bool.or_eq_true,decide_eq_true_iff,List.getD_cons_zero,List.getD_cons_succ] at h
  omega
theorem jmT {n:Nat} (hn:n<960):meaP (jbl n)=[(n:Int)]:=by
 have h1:(List.range 960).filter (jc3 (jbl n))=[n]:=by
  have h2:(List.range 960).filter (jc3 (jbl n))=(List.range 960).filter (fun m=>decide (m=n)):=List.filter_congr fun m hm=>jny hn (List.mem_range.1 hm)
  rw [h2];have h3:(List.range 960).filter (fun m=>decide (m=n))=List.replicate ((List.range 960).count n) n:=by
   rw [←List.filter_beq];exact List.filter_congr fun m _=>by rw [Bool.beq_eq_decide_eq]
  rw [h3,List.nodup_range.count,if_pos (List.mem_range.2 hn)];rfl
 rw [meaP,h1];rfl
theorem jkB {n:Nat} (hn:n<960):meaS (figN n)=[(n:Int)]:=by
 obtain ⟨h1,h2⟩:=jnD hn
 rw [meaS,if_pos h1,h2,jmT hn]
end Go.Lo
namespace Go.Lo
open Go.Proofs
theorem jhQ (p:List Int) (i m:Nat):(ja4 p i m).Pairwise (· < ·):=by
 unfold ja4
 split
 ·exact List.pairwise_lt_range
 ·exact List.pairwise_singleton _ _
theorem jdL {p:List Int} {i m:Nat} (h:p.getD i 0<m) {x:Nat} (hx:x∈ja4 p i m):x<m:=by
 unfold ja4 at hx
 split at hx
 ·exact List.mem_range.1 hx
 ·rw [List.mem_singleton] at hx
  omega
theorem all3_pw {p:List Int} (h1:p.getD 1 0<12) (h2:p.getD 2 0<8):((ja4 p 0 10).flatMap fun a=>(ja4 p 1 12).flatMap fun b=>(ja4 p 2 8).map fun c=>96*a+8*b+c).Pairwise (· < ·):=by
 rw [List.pairwise_flatMap];refine ⟨fun a _=>?_,(jhQ p 0 10).imp fun {a a'} hlt x hx y hy=>?_⟩
 ·rw [List.pairwise_flatMap];refine ⟨fun b _=>?_,(jhQ p 1 12).imp fun {b b'} hlt x hx y hy=>?_⟩
  ·rw [List.pairwise_map];exact (jhQ p 2 8).imp fun h=>by omega
  ·obtain ⟨c,hc,rfl⟩:=List.mem_map.1 hx
   obtain ⟨c',hc',rfl⟩:=List.mem_map.1 hy
   have:=jdL (m:=8) zO hc
   omega
 ·obtain ⟨b,hb,hx⟩:=List.mem_flatMap.1 hx
  obtain ⟨c,hc,rfl⟩:=List.mem_map.1 hx
  obtain ⟨b',hb',hy⟩:=List.mem_flatMap.1 hy
  obtain ⟨c',hc',rfl⟩:=List.mem_map.1 hy
  have:=jdL (m:=12) zO hb
  have:=jdL (m:=8) zO hc
  omega
theorem all3_len (p:List Int):((ja4 p 0 10).flatMap fun a=>(ja4 p 1 12).flatMap fun b=>(ja4 p 2 8).map fun c=>96*a+8*b+c).length=(ja4 p 0 10).length*((ja4 p 1 12).length*(ja4 p 2 8).length):=by
 rw [List.length_flatMap,jdh _ _ ((ja4 p 1 12).length*(ja4 p 2 8).length) fun a _=>?_];rw [List.length_flatMap,jdh _ _ (ja4 p 2 8).length fun b _=>?_];rw [List.length_map]
theorem all3_mem {p:List Int} (h0:p.getD 0 0<10) (h1:p.getD 1 0<12) (h2:p.getD 2 0<8) {n:Nat} (h:n∈(ja4 p 0 10).flatMap fun a=>(ja4 p 1 12).flatMap fun b=>(ja4 p 2 8).map fun c=>96*a+8*b+c):n∈(List.range 960).filter (jc3 p):=by
 obtain ⟨a,ha,h⟩:=List.mem_flatMap.1 h
 obtain ⟨b,hb,h⟩:=List.mem_flatMap.1 h
 obtain ⟨c,hc,rfl⟩:=List.mem_map.1 h
 have la:=jdL (m:=10) zO ha
 have lb:=jdL (m:=12) zO hb
 have lc:=jdL (m:=8) zO hc
 have key: ∀i m x,x∈ja4 p i m→p.getD i 0<0∨p.getD i 0=(x:Int):=fun i m x hx=>by
  unfold ja4 at hx
  split at hx
  ·left
   assumption
  ·rw [List.mem_singleton] at hx
   right
   omega
 have ka:=key 0 10 a ha
 have kb:=key 1 12 b hb
 have kc:=key 2 8 c hc
 rw [List.mem_filter,List.mem_range];refine ⟨by omega,?_⟩
 have h3:List.range 3=[0,1,2]:=rfl
 rw [jc3,h3];simp only [jbl,List.all_cons,List.all_nil,Bool.and_true,Bool.and_eq_true,Bool.or_eq_true,decide_eq_true_iff,List.getD_cons_zero,List.getD_cons_succ]
 refine ⟨?_,?_,?_⟩<;>omega
theorem jmS {p:List Int} (h0:p.getD 0 0<10) (h1:p.getD 1 0<12) (h2:p.getD 2 0<8):(meaP p).length=(ja4 p 0 10).length*((ja4 p 1 12).length*(ja4 p 2 8).length):=by
 refine Nat.le_antisymm (jkC p) ?_
 rw [←all3_len,meaP,List.length_map];exact List.Nodup.length_le_of_subset ((all3_pw h1 h2).imp fun h=>Nat.ne_of_lt h) fun n hn=>all3_mem h0 h1 h2 hn
end Go.Lo
namespace Go.Lo
open Go.Proofs
def gp (n b i:Nat):Str:=if b.testBit i then [63] else (cutS (figN n) 45).getD i []
def gN (n b:Nat):Str:=gp n b 0++[45]++gp n b 1++[45]++gp n b 2
def gQ (n b:Nat):List Int:=(List.range 3).map fun i=>if b.testBit i then-1 else (jbl n).getD i 0
theorem jlF:((List.range 960).all fun n=>decide ((cutS (figN n) 45).length=3)&&(List.range 8).all fun b=>jaN (gN n b)&&decide (jao (gN n b)=gQ n b))=true:=by kernel_rfl
end Go.Lo
namespace Go.Lo
open Go.Proofs
theorem jcw {b i:Nat} (h:i<3):(b%8).testBit i=b.testBit i:=by
 have:=Nat.testBit_mod_two_pow b 3 i
 rw [show (2:Nat)^3=8 from rfl] at this
 rw [this];simp [h]
theorem gN_mod (n b:Nat):gN n (b%8)=gN n b:=by
 simp only [gN,gp,jcw (show 0<3 by decide),jcw (show 1<3 by decide),jcw (show 2<3 by decide)]
theorem gQ_mod (n b:Nat):gQ n (b%8)=gQ n b:=by
 unfold gQ
 exact List.map_congr_left fun i hi=>by rw [jcw (List.mem_range.1 hi)]
theorem gfig {n:Nat} (h:n<960) (b:Nat):(cutS (figN n) 45).length=3∧jaN (gN n b)=true∧jao (gN n b)=gQ n b:=by
 have h1:=List.all_eq_true.1 jlF n (List.mem_range.2 h)
 rw [Bool.and_eq_true,decide_eq_true_iff] at h1
 have h2:=List.all_eq_true.1 h1.2 (b%8) (List.mem_range.2 (Nat.mod_lt _ zA))
 rw [Bool.and_eq_true,decide_eq_true_iff,gN_mod,gQ_mod] at h2
 exact ⟨h1.1,h2⟩
def jd2 (b k:Nat):Nat:=((List.range k).map fun i=>if b.testBit i then [10,12,8].getD i 1 else 1).foldl (· * ·) 1
theorem gmany {n:Nat} (h:n<960) (b:Nat):(meaS (gN n b)).length=jd2 b 3:=by
 obtain ⟨_,h1,h2⟩:=gfig h b
 have e0:(gQ n b).getD 0 0=if b.testBit 0 then-1 else ((n/96:Nat):Int):=rfl
 have e1:(gQ n b).getD 1 0=if b.testBit 1 then-1 else ((n/8%12:Nat):Int):=rfl
 have e2:(gQ n b).getD 2 0=if b.testBit 2 then-1 else ((n%8:Nat):Int):=rfl
 rw [meaS,if_pos h1,h2,jmS (by rw [e0];split<;>omega) (by rw [e1];split<;>omega) (by rw [e2];split<;>omega),jeu,jeu,jeu,e0,e1,e2];have h3:List.range 3=[0,1,2]:=rfl
 have hw:jd2 b 3=1*(if b.testBit 0 then 10 else 1)*(if b.testBit 1 then 12 else 1)*(if b.testBit 2 then 8 else 1):=rfl
 have hn: ∀k:Nat,¬((k:Int)<0):=fun k=>by omega
 rw [hw];generalize b.testBit 0=x0
 generalize b.testBit 1=x1
 generalize b.testBit 2=x2
 have n0:=hn (n/96)
 have n1:=hn (n/8%12)
 have n2:=hn (n%8)
 cases x0<;>cases x1<;>cases x2<;>simp only [if_true,if_false,Bool.false_eq_true,if_neg n0,if_neg n1,if_neg n2,show ((-1:Int)<0)=True from eq_true zA]
theorem gself {n:Nat} (h:n<960) (b:Nat):(n:Int)∈meaS (gN n b):=by
 obtain ⟨_,h1,h2⟩:=gfig h b
 rw [meaS,if_pos h1,h2,meaP];refine List.mem_map.2 ⟨n,List.mem_filter.2 ⟨List.mem_range.2 h,?_⟩,rfl⟩
 have h3:List.range 3=[0,1,2]:=rfl
 rw [jc3,h3];simp only [gQ,h3,jbl,List.map_cons,List.map_nil,List.all_cons,List.all_nil,Bool.and_true,Bool.and_eq_true,Bool.or_eq_true,decide_eq_true_iff,List.getD_cons_zero,List.getD_cons_succ]
 refine ⟨?_,?_,?_⟩<;>split<;>omega
end Go.Lo
namespace Go.Lo
open Go.Proofs
theorem meaP_pw (p:List Int):(meaP p).Pairwise (· < ·):=by
 rw [meaP,List.pairwise_map];exact (List.Pairwise.sublist List.filter_sublist (List.pairwise_lt_range (n:=960))).imp fun h=>by omega
theorem meaS_pw (s:Str):(meaS s).Pairwise (· < ·):=by
 unfold meaS
 split
 ·exact meaP_pw _
 ·exact List.Pairwise.nil
theorem ends_of {l:List Int} (h:l.Pairwise (· < ·)) {z:Int} (hz:z∈l):jgC l≤z∧z≤jjM l:=by
 obtain ⟨i,hi,rfl⟩:=List.mem_iff_getElem.1 hz
 have hp:=List.pairwise_iff_getElem.1 h
 have g: ∀k (hk:k<l.length),l.getD k 0=l[k]:=fun k hk=>by rw [List.getD_eq_getElem?_getD,List.getElem?_eq_getElem hk];rfl
 unfold jgC jjM
 rw [g 0 zO,g (l.length-1) zO];constructor
 ·rcases Nat.eq_zero_or_pos i with rfl|h0
  ·exact Int.le_refl _
  ·have:=hp 0 i zO hi h0;omega
 ·rcases Nat.lt_or_ge i (l.length-1) with h1|h1
  ·have:=hp i (l.length-1) hi zO h1;omega
  ·obtain rfl:i=l.length-1:=by omega
   exact Int.le_refl _
theorem meaS_in {s:Str} {z:Int} (h:z∈meaS s):0≤z∧z≤959:=by
 unfold meaS at h
 split at h
 ·rw [meaP] at h
  obtain ⟨k,hk,rfl⟩:=List.mem_map.1 h
  have:=List.mem_range.1 (List.mem_filter.1 hk).1
  omega
 ·cases h
end Go.Lo
namespace Go.Proofs
open Go.Lo
open Go.Conc (G)
set_option maxRecDepth 100000
set_option synthInstance.maxSize 100000
set_option synthInstance.maxHeartbeats 1000000
set_option maxHeartbeats 4000000
variable {B:Array Obj}
variable [LaidO B]
theorem jnC:((List.range 960).all fun n=>decide ((figN n).length≤9)&&(List.range 3).all fun i=>decide (((cutS (figN n) 45).getD i []).length≤9))=true:=by kernel_rfl
theorem jnE {n:Nat} (h:n<960):(figN n).length≤9∧ ∀i,i<3→((cutS (figN n) 45).getD i []).length≤9:=by
 have h1:=List.all_eq_true.1 jnC n (List.mem_range.2 h)
 rw [Bool.and_eq_true,decide_eq_true_iff] at h1
 exact ⟨h1.1,fun i hi=>of_decide_eq_true (List.all_eq_true.1 h1.2 i (List.mem_range.2 hi))⟩
theorem gp_len {n:Nat} (h:n<960) (b:Nat) {i:Nat} (hi:i<3):(gp n b i).length≤9:=by
 unfold gp
 split
 ·simp
 ·exact (jnE h).2 i hi
def gpre (n b:Nat):Nat→Str
 |0=>[]
 |k+1=>(if 0<k then gpre n b k++[45] else gpre n b k)++gp n b k
theorem jhZ {n:Nat} (h:n<960) (b:Nat): ∀k,k≤3→(gpre n b k).length≤10*k
 |0,_=>by simp [gpre]
 |k+1,hk=>by
  have h1:=jhZ h b k zO
  have h2:=gp_len h b (show k<3 by omega)
  rw [gpre];split<;>simp<;>omega
theorem gpre3 (n b:Nat):gpre n b 3=gN n b:=by simp [gpre,gN]
theorem jbv (b k:Nat):jd2 b (k+1)=jd2 b k*(if b.testBit k then [10,12,8].getD k 1 else 1):=by
 rw [jd2,List.range_succ,List.map_append,List.foldl_append];rfl
theorem jka (b:Nat): ∀k,k≤3→jd2 b k≤960:=fun k hk=>by
 have e0:jd2 b 0=1:=rfl
 rcases (by omega:k=0∨k=1∨k=2∨k=3) with rfl|rfl|rfl|rfl
 ·rw [e0];decide
 ·show jd2 b (0+1)≤960
  rw [jbv,e0];split<;>simp
 ·show jd2 b (0+1+1)≤960
  rw [jbv,jbv,e0];split<;>split<;>simp
 ·show jd2 b (0+1+1+1)≤960
  rw [jbv,jbv,jbv,e0];split<;>split<;>split<;>simp
theorem fig_rd {ss:List Str} {junk:List Value} {k:Nat} (h:k<ss.length):(encs ss++junk)[0+(k:Int).toNat*1]?=some (str (ss.getD k [])):=by
 rw [jbW,List.getElem?_append_left zN,Int.toNat_natCast,Nat.zero_add,Nat.mul_one,List.getElem?_map,List.getElem?_eq_getElem h,List.getD_eq_getElem?_getD,List.getElem?_eq_getElem h];rfl
theorem jkZ (n:Nat) (hn:n<256):bAnd .u8 (n:Int) 1=((n%2:Nat):Int):=by
 have h:((List.range 256).all fun n=>bAnd .u8 (n:Int) 1==((n%2:Nat):Int))=true:=by kernel_rfl
 simpa using List.all_eq_true.1 h n (List.mem_range.2 hn)
theorem shr_u8 (s:Nat) {i:Nat} (hi:i≤8):(s:Int).fdiv (2^(min (i:Int).toNat IntKind.u8.bits))=((s/2^i:Nat):Int):=by
 rw [Int.toNat_natCast,show min i IntKind.u8.bits=i from Nat.min_eq_left (by show i≤8;omega)];rw [show ((2:Int)^i)=((2^i:Nat):Int) by simp,Int.fdiv_eq_ediv_of_nonneg _ (Int.natCast_nonneg _)];rfl
theorem fig_ok {n:Nat} (h:n<960):jaN (figN n)=true:=by
 have e:=jkB h
 unfold meaS at e
 split at e
 ·assumption
 ·cases e
def PsK (n b k:Nat) (ps:List Str):Prop:=ps.length=3∧ ∀i,i<3→ps.getD i []=if i<k then gp n b i else (cutS (figN n) 45).getD i []
theorem PsK.yes {n b k:Nat} {ps:List Str} (h:PsK n b k ps) (hk:k<3) (hb:b.testBit k=true):PsK n b (k+1) (ps.set k [63]):=by
 obtain ⟨h1,h2⟩:=h
 refine ⟨by simp [h1],fun i hi=>?_⟩
 rw [List.getD_eq_getElem?_getD,List.getElem?_set];by_cases e:k=i
 ·subst e
  rw [if_pos rfl,if_pos zO,if_pos zO,gp,if_pos hb];rfl
 ·rw [if_neg e,←List.getD_eq_getElem?_getD,h2 i hi];by_cases e2:i<k
  ·rw [if_pos e2,if_pos zO]
  ·rw [if_neg e2,if_neg zO]
theorem PsK.no {n b k:Nat} {ps:List Str} (h:PsK n b k ps) (hk:k<3) (hb:b.testBit k=false):PsK n b (k+1) ps:=by
 obtain ⟨h1,h2⟩:=h
 refine ⟨h1,fun i hi=>?_⟩
 rw [h2 i hi];by_cases e:i<k
 ·rw [if_pos e,if_pos zO]
 ·rw [if_neg e];by_cases e2:i=k
  ·subst e2
   rw [if_pos zO,gp,if_neg (by rw [hb];decide)]
  ·rw [if_neg zO]
theorem ends_in {l:List Int} {z:Int} (hz:z∈l) (h: ∀z∈l,0≤z∧z≤959):0≤jgC l∧jjM l≤959:=by
 have hp:0<l.length:=List.length_pos_of_mem hz
 unfold jgC jjM
 have g: ∀k (hk:k<l.length),0≤l.getD k 0∧l.getD k 0≤959:=fun k hk=>by
  rw [List.getD_eq_getElem?_getD,List.getElem?_eq_getElem hk];exact h _ (List.getElem_mem hk)
 exact ⟨(g 0 hp).1,(g _ zO).2⟩
theorem f13_t (h:Hp) (x y:Nat) (hx:x≤65535) (hy:y≤255):(Md.starC Tryz.prog B).R (jj5 Tryz.prog B fun v _=>v= .bool true) (G (Frame.enter Tryz.prog 13 #[.int .u16 (x:Int),.int .u8 (y:Int)] .normal) []) h:=by
 refine jl6 Tryz.func13 rfl rfl (l:=[.int .u16 (x:Int),.int .u8 (y:Int),undef,undef,undef,undef,undef,undef,undef,undef,undef,undef,undef,undef,undef,undef,undef,undef,undef,undef,undef,undef,undef,undef,undef,undef,undef,undef,undef,undef,undef,undef,undef,undef,undef,undef,undef,undef,undef,undef,undef,undef,undef,undef,undef,undef,undef,undef,undef,undef,undef,undef,undef,undef,undef,undef,undef,undef,undef,undef,undef,undef,undef,undef,undef,undef,undef,undef,undef,undef,undef,undef,undef,undef,undef,undef,undef,undef,undef,undef,undef,undef,undef,undef,undef,undef,undef,undef,undef,undef,undef,undef,undef,undef,undef,undef,undef,undef,undef,undef,undef,undef,undef,undef,undef,undef,undef,undef,undef,undef,undef,undef,undef,undef,undef,undef,undef,undef,undef,undef,undef,undef,undef]) rfl ?_;refine D145 ?_;refine D176 ?_;refine jd1 rfl zq zK (n':=(x:Int)) zW ?_;refine k_remT rfl zq zA ?_
 rw [show (x:Int).tmod 960=((x%960:Nat):Int) from (Int.ofNat_tmod x 960).symm];obtain ⟨n,hnx⟩: ∃n,n=x%960:=⟨_,rfl⟩
 rw [←hnx];have hn:n<960:=by omega
 have hfl:=(jnE hn).1
 obtain ⟨hc3,hgok,_⟩:=gfig hn y
 have hgl:=jhZ hn y 3 (Nat.le_refl _)
 rw [gpre3] at hgl
 obtain ⟨he1,he2⟩:=ends_of (meaS_pw _) (gself hn y)
 have hin: ∀z∈meaS (gN n y),0≤z∧z≤959:=fun z hz=>meaS_in hz
 obtain ⟨hb1,hb2⟩:=ends_in (gself hn y) hin
 refine D0 ?_;refine D166 ?_;refine jak (Post:=fun v=>v= .tuple [str (figN n),.int .i64 0].toArray) rfl zq zK (fun H' hH=>by have:=f59_c (Md.starC Tryz.prog B) H' (n:Int);rw [if_pos zO,if_pos zO,Int.toNat_natCast] at this;exact this) ?_
 rintro v rfl;refine D186 ?_;refine D0 ?_;refine rs11 ?_;refine Zs ?_;refine jak (Post:=fun v=>v= .tuple [.int .i64 (n:Int),.int .i64 (n:Int),.int .i64 1,.int .i64 0].toArray) rfl zq zK (fun H' hH=>by have:=f62_c (Md.starC Tryz.prog B) H' (figN n) zO;rw [if_pos (fig_ok hn),if_pos (fig_ok hn),if_pos (fig_ok hn),if_pos (fig_ok hn),jkB hn] at this;exact this) ?_
 rintro v rfl;refine D7 ?_;refine Z8 ?_;refine D122 ?_;refine D3 ?_;refine jbw [(0,.free),(1,.free),(2,.free),(3,.free),(4,.free),(5,.free),(6,.free),(7,.free),(8,.free),(9,.free),(10,.free),(11,.free),(12,.free),(13,.free),(14,.free),(15,.free),(16,.free),(17,.free),(18,.free),(19,.free)] zK zK ?_;refine Zs ?_;refine jeD rfl zq rfl ?_;refine Z2 ?_;refine jeD rfl rfl rfl ?_;refine D10 ?_;refine Z3 ?_;refine jeD rfl rfl rfl ?_;refine D10 ?_;refine Z3 ?_;refine jeD rfl rfl rfl ?_;refine D10 ?_;refine Z2 ?_;refine jeD rfl rfl rfl ?_;refine D10 ?_;refine D119 ?_;refine D151 ?_;refine jaV rfl zq zK (Post:=fun w new=>OwnS 9 1 w (cutS (figN n) 45).length (encs (cutS (figN n) 45)) new) (fun H' hH=>f63_c _ H' (figN n) zO 45) ?_
 rintro w nP oP;refine jaH (jab ?_);rw [hc3] at oP
 obtain ⟨bl,lc,junk,rfl,rfl,_,_,_⟩:=jby oP zO
 refine D122 ?_;refine D170 ?_;refine jeD rfl zq rfl ?_;refine D119 ?_;refine D145 ?_;refine D139 ?_;refine D145 ?_;refine D15 ?_
 refine jam (fun nn l h'=> ∃(k:Nat) (ps:List Str),nn=3-k∧(k≤3)∧(PsK n y k ps)∧(∃U:Nat→Value,l=((.int .u16 (x:Int))::(.int .u8 (y:Int))::(U 2)::(U 3)::(.bool false)::(.int .i64 (n:Int))::vw6 U 6 ((.slice (some ⟨bl,0,none⟩) 3 lc)::(str (gpre n y k))::(.int .i64 (jd2 y k:Int))::(.int .i64 (k:Int))::(U 16)::(U 17)::(U 18)::(U 19)::(U 20)::(U 21)::(U 22)::(U 23)::(U 24)::(U 25)::(U 26)::(U 27)::(U 28)::(U 29)::(U 30)::(U 31)::(U 32)::(U 33)::(U 34)::(U 35)::(U 36)::(U 37)::(U 38)::(U 39)::vw83 U 40 [])))∧h++[⟨true,bl,.cells (encs ps++junk).toArray 9 (0,0)⟩]=h') _ ⟨0,_,rfl,by omega,⟨hc3,fun i hi=>by rw [if_neg zO]⟩,exU rfl,rfl⟩ ?_;rintro nn l h' ⟨k,ps,rfl,hk,hps,⟨U,rfl⟩,rfl⟩ hnext;refine D3 ?_;refine D127 ?_
 refine jaq rfl zq (fun hc=>?_) (fun hc=>?_)
 ·refine D121 ?_;refine D131 ?_;refine D3 ?_;refine D3 ?_
  have hk3:k<3:=by omega
  have hpl:=jhZ hn y k hk
  have hpl2:=gp_len hn y hk3
  have hwl:=jka y k hk
  have hwl2:=jka y (k+1) zO
  cases hbk:y.testBit k
  ·have hps2:=hps.no hk3 hbk
   have hpk:ps.getD k []=gp n y k:=by rw [hps2.2 k hk3,if_pos zO]
   have hw2:(jd2 y k:Int)=(jd2 y (k+1):Int):=by rw [jbv,hbk];simp
   have hpl3:=hps.1
   refine rr5 ?_;refine Z2 ?_;refine k_shr ((y/2^k:Nat):Int) rfl zq zO (shr_u8 y zO) ?_;refine jnh ((y/2^k%2:Nat):Int) rfl zq (jkZ _ (Nat.lt_of_le_of_lt (Nat.div_le_self _ _) zO)) ?_;refine jnc false rfl zq (by rw [jj1,hbk]) ?_;refine D140 ?_;refine D127 ?_;refine jaJ rfl zq (fun hc=>?_) (fun hc=>?_);have hg2:gpre n y k++[45]++gp n y k=gpre n y (k+1):=by rw [gpre,if_pos zO]
   refine D121 ?_;refine rr3 ?_;refine Zs ?_;refine jkH (q:=[45]) rfl zq (by simp only [List.length_cons,List.length_nil];omega) ?_;refine D0 ?_
   rotate_left
   have hg2:gpre n y k++gp n y k=gpre n y (k+1):=by rw [gpre,if_neg zO]
   refine D119 ?_
   all_goals
    refine rr7 ?_;refine Z3 ?_;refine D47 ?_;refine k_ld rfl zq (jiJ (fig_rd (by first|omega|(rw [List.length_set];omega)))) ?_;rw [hpk];refine jkH rfl zq (by first|omega|(simp only [List.length_append,List.length_cons,List.length_nil];omega)) ?_;refine D0 ?_;refine D188 ?_;rw [hg2,hw2];exact E32
  ·have hps2:=hps.yes hk3 hbk
   have hpk:(ps.set k [63]).getD k []=gp n y k:=by rw [hps2.2 k hk3,if_pos zO]
   have hw2:(jd2 y k:Int)*[10,12,8].getD k 0=(jd2 y (k+1):Int):=by
    rw [jbv,hbk,if_pos rfl];rcases (by omega:k=0∨k=1∨k=2) with rfl|rfl|rfl<;>simp
   have hpl3:=hps.1
   refine rr5 ?_;refine Z2 ?_;refine k_shr ((y/2^k:Nat):Int) rfl zq zO (shr_u8 y zO) ?_;refine jnh ((y/2^k%2:Nat):Int) rfl zq (jkZ _ (Nat.lt_of_le_of_lt (Nat.div_le_self _ _) zO)) ?_;refine jnc true rfl zq (by rw [jj1,hbk]) ?_;refine D121 ?_;refine rr11 ?_;refine Z3 ?_;refine k_bs kdq rfl zq zA zA rfl (fun q72=>k_hp (jab ?_));refine Zs ?_;refine D47 ?_;refine k_ld (v:= .int .i64 ([10,12,8].getD k 0)) rfl zq (jiJ (by rcases (by omega:k=0∨k=1∨k=2) with rfl|rfl|rfl<;>rfl)) ?_;refine k_mul rfl zq (by rw [hw2];unfold In64;omega) ?_;refine D47 ?_
   haveI hsf:=jdI (ss:=ps) (junk:=junk) (j:=(k:Int)) (i:=k) rfl zO [63]
   refine D26 ?_;refine D178 ?_
   refine jaJ rfl zq (fun hc=>?_) (fun hc=>?_);have hg2:gpre n y k++[45]++gp n y k=gpre n y (k+1):=by rw [gpre,if_pos zO]
   refine D121 ?_;refine rr3 ?_;refine Zs ?_;refine jkH (q:=[45]) rfl zq (by simp only [List.length_cons,List.length_nil];omega) ?_;refine D0 ?_
   rotate_left
   have hg2:gpre n y k++gp n y k=gpre n y (k+1):=by rw [gpre,if_neg zO]
   refine D119 ?_
   all_goals
    refine rr7 ?_;refine Z3 ?_;refine D47 ?_;refine k_ld rfl zq (jiJ (fig_rd (by first|omega|(rw [List.length_set];omega)))) ?_;rw [hpk];refine jkH rfl zq (by first|omega|(simp only [List.length_append,List.length_cons,List.length_nil];omega)) ?_;refine D0 ?_;refine D188 ?_;rw [hg2,hw2];exact E32
 ·refine D118 ?_;refine D31 ?_;refine D3 ?_
  obtain rfl:k=3:=by omega
  rw [gpre3];refine rr11 ?_;refine Zs ?_;refine jak (Post:=fun v=>v= .tuple [.int .i64 (jgC (meaS (gN n y))),.int .i64 (jjM (meaS (gN n y))),.int .i64 ((meaS (gN n y)).length:Int),.int .i64 0].toArray) rfl zq zK (fun H' hH=>by have:=f62_c (Md.starC Tryz.prog B) H' (gN n y) zO;rw [if_pos hgok,if_pos hgok,if_pos hgok,if_pos hgok] at this;exact this) ?_;rintro v rfl;refine D7 ?_;refine Z8 ?_;refine D122 ?_;refine jbw [(0,.free),(1,.free),(2,.free),(3,.free),(4,.free),(5,.free),(6,.free),(7,.free),(8,.free),(9,.free),(10,.free),(11,.free),(12,.free),(13,.free),(14,.free),(15,.free),(16,.free),(17,.free),(18,.free),(19,.free),(20,.free),(21,.free),(22,.free),(23,.free),(24,.free),(25,.free),(26,.free),(27,.free),(28,.free)] zK zK ?_;refine Zs ?_;refine jdv rfl zq rfl ?_;refine Z3 ?_;refine jiV rfl rfl he1 ?_;refine D21 ?_;refine Z3 ?_;refine jiV rfl rfl he2 ?_;refine D21 ?_;refine Z3 ?_;refine jdv rfl rfl (by rw [gmany hn y]) ?_;refine D21 ?_;refine Z2 ?_;refine k_geqT rfl rfl hb1 ?_;refine D21 ?_;refine Z2 ?_;refine jiV rfl rfl hb2 ?_;refine D21 ?_;refine Zs ?_;refine jc2 rfl rfl zK (f20_c _) ?_
  rintro v h' ⟨nF,rfl,rfl⟩;refine D7 ?_;refine D21 ?_;refine D117 ?_;refine run_top rfl Tryz.func13 zK rfl ?_
  rfl
end Go.Proofs
